import PyProof.Rows.All
import Wide.All
import OpenK.AllK
import Wide.FinOn
import HandS.ForMost
import HandS.ForExc
import HandS.IsInst
import HandS.Conv
import HandS.TupAny
import HandS.TupMul
import HandS.Zip
import HandS.Wide
import HandS.SortInts
import HandS.Deep
import HandS.Flt
import KE.DataFind
import Lean
import HandS.Ends
import HandS.Codes
import HandS.Words
import HandS.WordsExc
import HandS.Defaults
import HandS.Head0
import HandS.Head1
import HandS.Head2
import HandS.HeadEnd
import HandS.HeadHook1
import HandS.HeadHook2
import HandS.HeadHook4
import PySem.Challenge.RW_sheafroads_k00_whole_integers_and_choice
section
set_option Elab.async false
set_option linter.all false
set_option maxRecDepth 100000
/-! MPA: plain data, what bears it in the heap, the slots of a frame. -/
namespace MP
open PySem PySem.Spec PyProof.Rows L2

/-- plain data: what a Python value is, lists by content -/
inductive D where
  | non | bl (b : Bool) | int (i : Int) | str (x : Str)
  | tup (l : List D) | lst (l : List D) | fz (l : List D) | tf (l : List D)
  | dK (ks : List Key) (l : List D) | dT (ks : List (List Key)) (l : List D)
  | ins (c : Str) (fs : List Str) (l : List D)
  | gl (x : Str)
  | ty (n : String)
  deriving Inhabited

/-- no part of it can change -/
def D.flat : D → Bool
  | .non => true
  | .bl _ => true
  | .int _ => true
  | .str _ => true
  | .tup l => flats l
  | .lst _ => false
  | .fz _ => false
  | .tf l => flats l
  | .dK _ _ => false
  | .dT _ _ => false
  | .ins _ _ _ => false
  | .gl _ => true
  | .ty _ => true
where flats : List D → Bool
  | [] => true
  | d :: r => d.flat && flats r

section
variable (K : PySem.W.Frag) (mg : Str → Option Value)
mutual
def Rep (H : Hp) : D → V → Prop
  | .non, v => v = .non
  | .bl b, v => v = .bl b
  | .int i, v => v = .int i
  | .str x, v => v = .str x
  | .tup ds, v => ∃ a vs, v = .ref a ∧ H a = some (.tup vs) ∧ Reps H ds vs
  | .lst ds, v => ∃ a vs, v = .ref a ∧ H a = some (.lst vs) ∧ Reps H ds vs
  | .fz ds, v => ∃ a vs, v = .ref a ∧ SqL K H a vs ∧ Reps H ds vs
  | .tf ds, v => ∃ a vs o, v = .ref a ∧ H a = some (.frz o (.tup vs)) ∧ o.dict = none ∧ Reps H ds vs
  | .dK ks ds, v => ∃ a vs, v = .ref a ∧ H a = some (.dK (ks.zip vs)) ∧ ks.length = ds.length ∧ Reps H ds vs
  | .dT ks ds, v => ∃ a vs, v = .ref a ∧ H a = some (.dT (ks.zip vs)) ∧ ks.length = ds.length ∧ Reps H ds vs
  | .ins c fs ds, v => ∃ a C dx vs, v = .ref a ∧ mg c = some (.ref C) ∧ H a = some (.ins C dx (fs.zip vs)) ∧ fs.length = ds.length ∧ Reps H ds vs
  | .gl x, v => ∃ f, v = .ref f ∧ mg x = some (.ref f)
  | .ty n, v => v = .ty n
def Reps (H : Hp) : List D → List V → Prop
  | [], vs => vs = []
  | d :: ds, vs => ∃ v r, vs = v :: r ∧ Rep H d v ∧ Reps H ds r
end
end

section
variable {K : PySem.W.Frag} {mg : Str → Option Value} {H H' : Hp}
theorem SqL.mono {a : Addr} {xs : List V} (k : Same H H') (h : SqL K H a xs) : SqL K H' a xs := k.seq h
mutual
theorem Rep.mono (k : Same H H') : ∀ {d : D} {v : V}, Rep K mg H d v → Rep K mg H' d v
  | .non, _, h => h
  | .bl _, _, h => h
  | .int _, _, h => h
  | .str _, _, h => h
  | .tup ds, v, h => by
    simp only [Rep] at h ⊢
    obtain ⟨a, vs, e, h1, h2⟩ := h
    exact ⟨a, vs, e, k _ _ h1, Reps.mono k h2⟩
  | .lst ds, v, h => by
    simp only [Rep] at h ⊢
    obtain ⟨a, vs, e, h1, h2⟩ := h
    exact ⟨a, vs, e, k _ _ h1, Reps.mono k h2⟩
  | .fz ds, v, h => by
    simp only [Rep] at h ⊢
    obtain ⟨a, vs, e, h1, h2⟩ := h
    exact ⟨a, vs, e, SqL.mono k h1, Reps.mono k h2⟩
  | .tf ds, v, h => by
    simp only [Rep] at h ⊢
    obtain ⟨a, vs, o, e, h1, h3, h2⟩ := h
    exact ⟨a, vs, o, e, k _ _ h1, h3, Reps.mono k h2⟩
  | .dK ks ds, v, h => by
    simp only [Rep] at h ⊢
    obtain ⟨a, vs, e, h1, h3, h2⟩ := h
    exact ⟨a, vs, e, k _ _ h1, h3, Reps.mono k h2⟩
  | .dT ks ds, v, h => by
    simp only [Rep] at h ⊢
    obtain ⟨a, vs, e, h1, h3, h2⟩ := h
    exact ⟨a, vs, e, k _ _ h1, h3, Reps.mono k h2⟩
  | .ins c fs ds, v, h => by
    simp only [Rep] at h ⊢
    obtain ⟨a, C, dx, vs, e, h0, h1, h3, h2⟩ := h
    exact ⟨a, C, dx, vs, e, h0, k _ _ h1, h3, Reps.mono k h2⟩
  | .gl _, _, h => h
  | .ty _, _, h => h
theorem Reps.mono (k : Same H H') : ∀ {ds : List D} {vs : List V}, Reps K mg H ds vs → Reps K mg H' ds vs
  | [], _, h => h
  | d :: ds, vs, h => by
    simp only [Reps] at h ⊢
    obtain ⟨v, r, e, h1, h2⟩ := h
    exact ⟨v, r, e, Rep.mono k h1, Reps.mono k h2⟩
end
theorem Reps.length : ∀ {ds : List D} {vs : List V}, Reps K mg H ds vs → ds.length = vs.length
  | [], _, h => by simp only [Reps] at h; subst h; rfl
  | d :: ds, vs, h => by
    simp only [Reps] at h
    obtain ⟨v, r, e, _, h2⟩ := h
    subst e
    simp [Reps.length h2]
theorem Reps.get : ∀ {ds : List D} {vs : List V} {i : Nat} {d : D}, Reps K mg H ds vs → ds[i]? = some d → ∃ v, vs[i]? = some v ∧ Rep K mg H d v
  | [], _, _, _, _, e => by simp at e
  | d :: ds, vs, 0, _, h, e => by
    simp only [Reps] at h
    obtain ⟨v, r, e1, h1, _⟩ := h
    simp at e; subst e; subst e1
    exact ⟨v, rfl, h1⟩
  | d :: ds, vs, i + 1, x, h, e => by
    simp only [Reps] at h
    obtain ⟨v, r, e1, _, h2⟩ := h
    subst e1
    obtain ⟨u, q1, q2⟩ := Reps.get (i := i) (d := x) h2 (by simpa using e)
    exact ⟨u, by simpa using q1, q2⟩
theorem Reps.get' : ∀ {ds : List D} {vs : List V} {i : Nat} {v : V}, Reps K mg H ds vs → vs[i]? = some v → ∃ d, ds[i]? = some d ∧ Rep K mg H d v := by
  intro ds vs i v h e
  have hl := h.length
  have hi : i < vs.length := (List.getElem?_eq_some_iff.mp e).1
  obtain ⟨u, q1, q2⟩ := h.get (i := i) (d := ds[i]'(by omega)) (by simp)
  rw [e] at q1; cases q1
  exact ⟨_, by simp, q2⟩
theorem Reps.cons {d : D} {v : V} {ds : List D} {vs : List V} (h : Rep K mg H d v) (r : Reps K mg H ds vs) : Reps K mg H (d :: ds) (v :: vs) := by
  simp only [Reps]; exact ⟨v, vs, rfl, h, r⟩
theorem Reps.nil : Reps K mg H [] [] := by simp only [Reps]
theorem Reps.append : ∀ {ds es : List D} {vs ws : List V}, Reps K mg H ds vs → Reps K mg H es ws → Reps K mg H (ds ++ es) (vs ++ ws)
  | [], _, _, _, h, g => by simp only [Reps] at h; subst h; exact g
  | d :: ds, es, vs, ws, h, g => by
    simp only [Reps] at h
    obtain ⟨v, r, e1, h1, h2⟩ := h
    subst e1
    exact Reps.cons h1 (Reps.append h2 g)
theorem Reps.take : ∀ {ds : List D} {vs : List V} (n : Nat), Reps K mg H ds vs → Reps K mg H (ds.take n) (vs.take n)
  | _, _, 0, _ => by simpa using Reps.nil
  | [], _, n + 1, h => by simp only [Reps] at h; subst h; simpa using Reps.nil
  | d :: ds, vs, n + 1, h => by
    simp only [Reps] at h
    obtain ⟨v, r, e1, h1, h2⟩ := h
    subst e1
    exact Reps.cons h1 (Reps.take n h2)
theorem Reps.drop : ∀ {ds : List D} {vs : List V} (n : Nat), Reps K mg H ds vs → Reps K mg H (ds.drop n) (vs.drop n)
  | _, _, 0, h => h
  | [], _, n + 1, h => by simp only [Reps] at h; subst h; simpa using Reps.nil
  | d :: ds, vs, n + 1, h => by
    simp only [Reps] at h
    obtain ⟨v, r, e1, h1, h2⟩ := h
    subst e1
    exact Reps.drop n h2
theorem Reps.set : ∀ {ds : List D} {vs : List V} (i : Nat) {d : D} {v : V}, Reps K mg H ds vs → Rep K mg H d v → Reps K mg H (ds.set i d) (vs.set i v)
  | [], _, _, _, _, h, _ => by simp only [Reps] at h; subst h; simpa using Reps.nil
  | d :: ds, vs, 0, x, u, h, g => by
    simp only [Reps] at h
    obtain ⟨v, r, e1, h1, h2⟩ := h
    subst e1
    exact Reps.cons g h2
  | d :: ds, vs, i + 1, x, u, h, g => by
    simp only [Reps] at h
    obtain ⟨v, r, e1, h1, h2⟩ := h
    subst e1
    exact Reps.cons h1 (Reps.set i h2 g)
theorem Reps.of_get : ∀ {ds : List D} {vs : List V}, ds.length = vs.length → (∀ (i : Nat) (d : D) (v : V), ds[i]? = some d → vs[i]? = some v → Rep K mg H d v) → Reps K mg H ds vs
  | [], [], _, _ => Reps.nil
  | [], _ :: _, e, _ => by simp at e
  | _ :: _, [], e, _ => by simp at e
  | d :: ds, v :: vs, e, h => Reps.cons (h 0 d v rfl rfl) (Reps.of_get (by simpa using e) fun i d' v' h1 h2 => h (i + 1) d' v' (by simpa using h1) (by simpa using h2))
theorem Reps.get2 {ds : List D} {vs : List V} {i : Nat} {d : D} {v : V} (h : Reps K mg H ds vs) (h1 : ds[i]? = some d) (h2 : vs[i]? = some v) : Rep K mg H d v := by
  obtain ⟨u, q1, q2⟩ := h.get h1
  rw [h2] at q1; cases q1; exact q2
end

/-! ### hidden objects -/
open Classical in
/-- the heap without the private objects -/
noncomputable def msk (S : Addr → Prop) (H : Hp) : Hp := fun a => if S a then none else H a
section
variable {S S' : Addr → Prop} {H H' : Hp}
theorem msk_out {a : Addr} (h : ¬ S a) : msk S H a = H a := by unfold msk; rw [if_neg h]
theorem msk_in {a : Addr} (h : S a) : msk S H a = none := by unfold msk; rw [if_pos h]
theorem msk_some {a : Addr} {o : HO} : msk S H a = some o ↔ ¬ S a ∧ H a = some o := by
  constructor
  · intro h
    by_cases q : S a
    · rw [msk_in q] at h; cases h
    · rw [msk_out q] at h; exact ⟨q, h⟩
  · rintro ⟨q, h⟩
    rw [msk_out q]; exact h
theorem msk_le : Same (msk S H) H := fun a o h => (msk_some.mp h).2
/-- fewer private objects, more kept -/
theorem msk_mono (hs : ∀ a, S' a → S a ∨ H a = none) (k : ∀ a o, ¬ S a → H a = some o → H' a = some o) : Same (msk S H) (msk S' H') := fun a o h => by
  obtain ⟨n, e⟩ := msk_some.mp h
  refine msk_some.mpr ⟨fun q => ?_, k a o n e⟩
  rcases hs a q with z | z
  · exact n z
  · rw [z] at e; cases e
end

section
variable {K : PySem.W.Frag} {mg : Str → Option Value} {H H' : Hp} {S : Addr → Prop}
/-- objects that may be private: lists, dicts, instances -/
def MutO : HO → Prop
  | .lst _ => True
  | .dK _ => True
  | .dT _ => True
  | .ins _ _ _ => True
  | _ => False
mutual
theorem Rep.flat (hS : ∀ a, S a → ∃ o, H a = some o ∧ MutO o) : ∀ {d : D} {v : V}, d.flat = true → Rep K mg H d v → Rep K mg (msk S H) d v
  | .non, _, _, h => h
  | .bl _, _, _, h => h
  | .int _, _, _, h => h
  | .str _, _, _, h => h
  | .tup ds, v, f, h => by
    simp only [Rep] at h ⊢
    obtain ⟨a, vs, e, h1, h2⟩ := h
    refine ⟨a, vs, e, ?_, Reps.flat hS (by simpa [D.flat] using f) h2⟩
    refine msk_some.mpr ⟨fun z => ?_, h1⟩
    obtain ⟨o, e1, m⟩ := hS a z
    rw [h1] at e1; cases e1; exact m
  | .tf ds, v, f, h => by
    simp only [Rep] at h ⊢
    obtain ⟨a, vs, o, e, h1, h3, h2⟩ := h
    refine ⟨a, vs, o, e, ?_, h3, Reps.flat hS (by simpa [D.flat] using f) h2⟩
    refine msk_some.mpr ⟨fun z => ?_, h1⟩
    obtain ⟨o, e1, m⟩ := hS a z
    rw [h1] at e1; cases e1; exact m
  | .gl _, _, _, h => h
  | .ty _, _, _, h => h
  | .lst _, _, f, _ => by simp [D.flat] at f
  | .fz _, _, f, _ => by simp [D.flat] at f
  | .dK _ _, _, f, _ => by simp [D.flat] at f
  | .dT _ _, _, f, _ => by simp [D.flat] at f
  | .ins _ _ _, _, f, _ => by simp [D.flat] at f
theorem Reps.flat (hS : ∀ a, S a → ∃ o, H a = some o ∧ MutO o) : ∀ {ds : List D} {vs : List V}, D.flat.flats ds = true → Reps K mg H ds vs → Reps K mg (msk S H) ds vs
  | [], _, _, h => h
  | d :: ds, vs, f, h => by
    simp only [Reps] at h ⊢
    obtain ⟨v, r, e, h1, h2⟩ := h
    simp only [D.flat.flats, Bool.and_eq_true] at f
    exact ⟨v, r, e, Rep.flat hS f.1 h1, Reps.flat hS f.2 h2⟩
end
end

/-- the private object d, its top at the heap's ho, its parts in Hm -/
def Own (K : PySem.W.Frag) (mg : Str → Option Value) (Hm : Hp) (ho : Option HO) : D → Prop
  | .lst ds => ∃ vs, ho = some (.lst vs) ∧ Reps K mg Hm ds vs
  | .dK ks ds => ∃ vs, ho = some (.dK (ks.zip vs)) ∧ ks.length = ds.length ∧ Reps K mg Hm ds vs
  | .dT ks ds => ∃ vs, ho = some (.dT (ks.zip vs)) ∧ ks.length = ds.length ∧ Reps K mg Hm ds vs
  | .ins c fs ds => ∃ C dx vs, mg c = some (.ref C) ∧ ho = some (.ins C dx (fs.zip vs)) ∧ fs.length = ds.length ∧ Reps K mg Hm ds vs
  | _ => False
section
variable {K : PySem.W.Frag} {mg : Str → Option Value} {H Hm Hm' : Hp} {ho : Option HO} {d : D} {a : Addr}
theorem Own.mono (k : Same Hm Hm') (h : Own K mg Hm ho d) : Own K mg Hm' ho d := by
  cases d <;> simp only [Own] at h ⊢
  · obtain ⟨vs, e, r⟩ := h; exact ⟨vs, e, r.mono k⟩
  · obtain ⟨vs, e, l, r⟩ := h; exact ⟨vs, e, l, r.mono k⟩
  · obtain ⟨vs, e, l, r⟩ := h; exact ⟨vs, e, l, r.mono k⟩
  · obtain ⟨C, dx, vs, m, e, l, r⟩ := h; exact ⟨C, dx, vs, m, e, l, r.mono k⟩
theorem Own.mut (h : Own K mg Hm ho d) : ∃ o, ho = some o ∧ MutO o := by
  cases d <;> simp only [Own] at h
  · obtain ⟨vs, e, r⟩ := h; exact ⟨_, e, trivial⟩
  · obtain ⟨vs, e, l, r⟩ := h; exact ⟨_, e, trivial⟩
  · obtain ⟨vs, e, l, r⟩ := h; exact ⟨_, e, trivial⟩
  · obtain ⟨C, dx, vs, m, e, l, r⟩ := h; exact ⟨_, e, trivial⟩
/-- where the object itself stands in Hm', it is plain data there -/
theorem Own.rep (k : Same Hm Hm') (e : Hm' a = ho) (h : Own K mg Hm ho d) : Rep K mg Hm' d (.ref a) := by
  cases d <;> simp only [Own] at h <;> simp only [Rep]
  · obtain ⟨vs, q, r⟩ := h; exact ⟨a, vs, rfl, e.trans q, r.mono k⟩
  · obtain ⟨vs, q, l, r⟩ := h; exact ⟨a, vs, rfl, e.trans q, l, r.mono k⟩
  · obtain ⟨vs, q, l, r⟩ := h; exact ⟨a, vs, rfl, e.trans q, l, r.mono k⟩
  · obtain ⟨C, dx, vs, m, q, l, r⟩ := h; exact ⟨a, C, dx, vs, rfl, m, e.trans q, l, r.mono k⟩
end
end MP
end
section
set_option Elab.async false
set_option linter.all false
set_option maxRecDepth 100000
/-! MPB: the slots of a frame, what an evaluation leaves. -/
namespace MP
open PySem PySem.Spec PyProof.Rows L2

/-- a slot: unset, plain data, an object of this frame's own (by content), the same while a loop walks it -/
inductive Slot where
  | un | sh (d : D) | ow (d : D) | lk (d : D)
  deriving Inhabited
abbrev Env := List Slot
/-- an expression's value: plain data; a new object of nobody's; the object of a slot -/
inductive R where
  | val (d : D) | fr (d : D) | own (i : Nat)
  deriving Inhabited
/-- an argument's value -/
inductive A where
  | val (d : D) | own (i : Nat)
  deriving Inhabited
/-- an exception: its class's name, its own fields -/
structure Exn where
  c : Str
  fs : Option (List (Str × D))
inductive Res (ε α : Type) where
  | ok (a : α) | exc (x : ε) | bad
def Res.bind {ε α β : Type} : Res ε α → (α → Res ε β) → Res ε β
  | .ok a, f => f a
  | .exc x, _ => .exc x
  | .bad, _ => .bad

def slotD : Slot → Option D
  | .un => none
  | .sh d => some d
  | .ow d => some d
  | .lk d => some d
def deref (env : Env) : A → Option D
  | .val d => some d
  | .own i => env[i]?.bind slotD

def Priv (P : Addr → Prop) (O : Nat → Option Addr) : Addr → Prop := fun a => P a ∨ ∃ i, O i = some a
def plus (P : Addr → Prop) (p : Addr) : Addr → Prop := fun a => P a ∨ a = p

section
variable (K : PySem.W.Frag) (mg : Str → Option Value)
def SlotOk (S : Addr → Prop) (oi : Option Addr) (H : Hp) (sv : Option (Option V)) : Slot → Prop
  | .un => oi = none
  | .sh d => oi = none ∧ ∃ v, sv = some (some v) ∧ Rep K mg (msk S H) d v
  | .ow d => ∃ a, oi = some a ∧ sv = some (some (.ref a)) ∧ Own K mg (msk S H) (H a) d
  | .lk d => ∃ a, oi = some a ∧ sv = some (some (.ref a)) ∧ Own K mg (msk S H) (H a) d

structure EnvOk (P : Addr → Prop) (O : Nat → Option Addr) (H : Hp) (σ : L2.St) (env : Env) : Prop where
  len : σ.length = env.length
  sl : ∀ (i : Nat) (s : Slot), env[i]? = some s → SlotOk K mg (Priv P O) (O i) H σ[i]? s
  out : ∀ (i : Nat), env[i]? = none → O i = none
  inj : ∀ (i j : Nat) (a : Addr), O i = some a → O j = some a → i = j
  apart : ∀ (i : Nat) (a : Addr), O i = some a → ¬ P a
  tr : ∀ a, P a → ∃ o, H a = some o ∧ MutO o
end

/-- the objects that may change: those of open slots -/
def U (env : Env) (O : Nat → Option Addr) (a : Addr) : Prop := ∃ (i : Nat) (d : D), env[i]? = some (.ow d) ∧ O i = some a
/-- all but those of U are kept -/
def Eff (u : Addr → Prop) (H H' : Hp) : Prop := ∀ a o, H a = some o → ¬ u a → H' a = some o

section
variable {K : PySem.W.Frag} {mg : Str → Option Value} {P : Addr → Prop} {O O' : Nat → Option Addr} {H H' H2 : Hp} {σ : L2.St} {env env' : Env}
theorem SlotOk.mono {S S' : Addr → Prop} {oi : Option Addr} {sv : Option (Option V)} (k : Same (msk S H) (msk S' H')) (e : ∀ a, oi = some a → H' a = H a) : ∀ {s : Slot}, SlotOk K mg S oi H sv s → SlotOk K mg S' oi H' sv s
  | .un, h => h
  | .sh d, ⟨h, v, h1, h2⟩ => ⟨h, v, h1, h2.mono k⟩
  | .ow d, ⟨a, h, h1, h2⟩ => ⟨a, h, h1, by rw [e a h]; exact h2.mono k⟩
  | .lk d, ⟨a, h, h1, h2⟩ => ⟨a, h, h1, by rw [e a h]; exact h2.mono k⟩
/-- an own object stands in the heap -/
theorem EnvOk.own (E : EnvOk K mg P O H σ env) {i : Nat} {a : Addr} (h : O i = some a) : ∃ o, H a = some o ∧ MutO o := by
  cases q : env[i]? with
  | none => rw [E.out i q] at h; cases h
  | some s =>
    have z := E.sl i s q
    cases s with
    | un => simp only [SlotOk] at z; rw [z] at h; cases h
    | sh d => simp only [SlotOk] at z; rw [z.1] at h; cases h
    | ow d =>
      obtain ⟨b, e1, _, e2⟩ := z
      rw [h] at e1; cases e1; exact e2.mut
    | lk d =>
      obtain ⟨b, e1, _, e2⟩ := z
      rw [h] at e1; cases e1; exact e2.mut
theorem EnvOk.priv (E : EnvOk K mg P O H σ env) : ∀ a, Priv P O a → ∃ o, H a = some o ∧ MutO o := fun a h => by
  rcases h with h | ⟨i, h⟩
  · exact E.tr a h
  · exact E.own h
theorem EnvOk.u_own (E : EnvOk K mg P O H σ env) {a : Addr} (h : U env O a) : ∃ i, O i = some a := let ⟨i, _, _, e⟩ := h; ⟨i, e⟩
theorem U.priv {a : Addr} (h : U env O a) : Priv P O a := let ⟨i, _, _, e⟩ := h; .inr ⟨i, e⟩
theorem U.notP (E : EnvOk K mg P O H σ env) {a : Addr} (h : U env O a) : ¬ P a := let ⟨i, _, _, e⟩ := h; E.apart i a e
theorem Eff.same {u : Addr → Prop} (k : Same H H') : Eff u H H' := fun a o e _ => k a o e
theorem Eff.refl {u : Addr → Prop} : Eff u H H := fun _ _ e _ => e
theorem Eff.trans {u u' : Addr → Prop} (a : Eff u H H') (b : Eff u' H' H2) (h : ∀ x, u' x → u x ∨ H x = none) : Eff u H H2 := fun x o e n =>
  b x o (a x o e n) fun z => (h x z).elim n fun q => by rw [q] at e; cases e
theorem Eff.mono {u u' : Addr → Prop} (a : Eff u H H') (h : ∀ x, u x → u' x) : Eff u' H H' := fun x o e n => a x o e fun z => n (h x z)

/-- more objects laid, the frame's stand as they stood -/
theorem EnvOk.same (E : EnvOk K mg P O H σ env) (k : Same H H') : EnvOk K mg P O H' σ env := by
  refine ⟨E.len, fun i s h => (E.sl i s h).mono (msk_mono (fun a z => .inl z) fun a o _ e => k a o e) fun a h => ?_, E.out, E.inj, E.apart, fun a h => ?_⟩
  · obtain ⟨o, e, _⟩ := E.own h
    rw [e, k a o e]
  · obtain ⟨o, e, m⟩ := E.tr a h
    exact ⟨o, k a o e, m⟩
/-- .. and a new object of nobody's -/
theorem EnvOk.fresh {p : Addr} {o : HO} (E : EnvOk K mg P O H σ env) (k : Same H H') (hp : H p = none) (ho : H' p = some o) (m : MutO o) : EnvOk K mg (plus P p) O H' σ env := by
  refine ⟨E.len, fun i s h => (E.sl i s h).mono (msk_mono (fun a z => ?_) fun a o _ e => k a o e) fun a h => ?_, E.out, E.inj, fun i a h z => ?_, fun a h => ?_⟩
  · rcases z with (z | z) | z
    · exact .inl (.inl z)
    · subst z; exact .inr hp
    · exact .inl (.inr z)
  · obtain ⟨o, e, _⟩ := E.own h
    rw [e, k a o e]
  · rcases z with z | z
    · exact E.apart i a h z
    · obtain ⟨o, e, _⟩ := E.own h
      subst z; rw [hp] at e; cases e
  · rcases h with h | h
    · obtain ⟨o, e, m⟩ := E.tr a h
      exact ⟨o, k a o e, m⟩
    · subst h; exact ⟨o, ho, m⟩
/-- less is private -/
theorem EnvOk.less {P' : Addr → Prop} (E : EnvOk K mg P O H σ env) (h : ∀ a, P' a → P a) : EnvOk K mg P' O H σ env := by
  refine ⟨E.len, fun i s q => (E.sl i s q).mono (msk_mono (fun a z => ?_) fun a o _ e => e) fun a h => rfl, E.out, E.inj, fun i a q z => E.apart i a q (h a z), fun a q => E.tr a (h a q)⟩
  rcases z with z | z
  · exact .inl (.inl (h a z))
  · exact .inl (.inr z)
theorem EnvOk.unplus {p : Addr} (E : EnvOk K mg (plus P p) O H σ env) : EnvOk K mg P O H σ env := E.less fun _ h => .inl h
/-- what is not of open slots and not new keeps its data -/
theorem keep_msk (E : EnvOk K mg P O H σ env) (h : ∀ i a, O' i = some a → O i = some a) (f : Eff (U env O) H H') : Same (msk (Priv P O) H) (msk (Priv P O') H') :=
  msk_mono (fun a z => .inl (by
    rcases z with z | ⟨i, z⟩
    · exact .inl z
    · exact .inr ⟨i, h i a z⟩)) fun a o n e => f a o e fun z => n z.priv
end

/-- an expression's end -/
structure Post (K : PySem.W.Frag) (mg : Str → Option Value) (P : Addr → Prop) (O : Nat → Option Addr) (H : Hp) (σ : L2.St) (env : Env) (H' : Hp) (env' : Env) (O' : Nat → Option Addr) : Prop where
  sub : ∀ i a, O' i = some a → O i = some a
  eff : Eff (U env O) H H'
  um : ∀ a, U env' O' a → U env O a
  dom : ∀ a o, H a = some o → ∃ o', H' a = some o'
  lk : ∀ (i : Nat) (d : D), env'[i]? = some (.lk d) → ∃ d' : D, env[i]? = some (.lk d')
  ok : EnvOk K mg P O' H' σ env'
def ROk (K : PySem.W.Frag) (mg : Str → Option Value) (P : Addr → Prop) (H : Hp) (σ : L2.St) (H' : Hp) (env' : Env) (O' : Nat → Option Addr) (v : V) : R → Prop
  | .val d => Rep K mg (msk (Priv P O') H') d v
  | .fr d => ∃ p, v = .ref p ∧ H p = none ∧ EnvOk K mg (plus P p) O' H' σ env' ∧ Own K mg (msk (Priv (plus P p) O') H') (H' p) d
  | .own i => σ[i]? = some (some v)
def AOk (K : PySem.W.Frag) (mg : Str → Option Value) (P : Addr → Prop) (σ : L2.St) (H' : Hp) (O' : Nat → Option Addr) (v : V) : A → Prop
  | .val d => Rep K mg (msk (Priv P O') H') d v
  | .own i => σ[i]? = some (some v)
/-- a new object is plain data from now on -/
def R.arg : R → A
  | .val d => .val d
  | .fr d => .val d
  | .own i => .own i
section
variable {K : PySem.W.Frag} {mg : Str → Option Value} {P : Addr → Prop} {O O' O2 : Nat → Option Addr} {H H' H2 : Hp} {σ : L2.St} {env env' env2 : Env} {v : V} {r : R}
theorem Post.refl (E : EnvOk K mg P O H σ env) : Post K mg P O H σ env H env O := ⟨fun _ _ h => h, Eff.refl, fun _ h => h, fun _ o h => ⟨o, h⟩, fun _ d h => ⟨d, h⟩, E⟩
theorem Post.trans (a : Post K mg P O H σ env H' env' O') (b : Post K mg P O' H' σ env' H2 env2 O2) : Post K mg P O H σ env H2 env2 O2 :=
  ⟨fun i x h => a.sub i x (b.sub i x h), a.eff.trans b.eff fun x z => .inl (a.um x z), fun x z => a.um x (b.um x z), fun x o h => let ⟨o1, h1⟩ := a.dom x o h; b.dom x o1 h1, fun i d h => let ⟨d1, h1⟩ := b.lk i d h; a.lk i d1 h1, b.ok⟩
theorem Post.same (E : EnvOk K mg P O H σ env) (k : Same H H') : Post K mg P O H σ env H' env O := ⟨fun _ _ h => h, Eff.same k, fun _ h => h, fun a o h => ⟨o, k a o h⟩, fun _ d h => ⟨d, h⟩, E.same k⟩
theorem ROk.arg (E : EnvOk K mg P O H σ env) (x : Post K mg P O H σ env H' env' O') (h : ROk K mg P H σ H' env' O' v r) : AOk K mg P σ H' O' v r.arg := by
  cases r with
  | val d => exact h
  | own i => exact h
  | fr d =>
    obtain ⟨p, rfl, hp, ep, ow⟩ := h
    show Rep K mg (msk (Priv P O') H') d (.ref p)
    have np : ¬ Priv P O' p := fun z => by
      rcases z with z | ⟨i, z⟩
      · obtain ⟨o, e, _⟩ := E.tr p z
        rw [hp] at e; cases e
      · obtain ⟨o, e, _⟩ := E.own (x.sub i p z)
        rw [hp] at e; cases e
    refine ow.rep (msk_mono (fun a z => .inl ?_) fun a o _ e => e) (msk_out np)
    rcases z with z | z
    · exact .inl (.inl z)
    · exact .inr z
theorem AOk.keep {a : A} (E : EnvOk K mg P O H σ env) (x : Post K mg P O H σ env H' env' O') (h : AOk K mg P σ H O v a) : AOk K mg P σ H' O' v a := by
  cases a with
  | val d => exact Rep.mono (keep_msk E x.sub x.eff) h
  | own i => exact h
end

def AOks (K : PySem.W.Frag) (mg : Str → Option Value) (P : Addr → Prop) (σ : L2.St) (H' : Hp) (O' : Nat → Option Addr) : List A → List V → Prop
  | [], vs => vs = []
  | a :: as, vs => ∃ v r, vs = v :: r ∧ AOk K mg P σ H' O' v a ∧ AOks K mg P σ H' O' as r
/-- the data of arguments as they lie now: tops anywhere, parts not private -/
def Top (K : PySem.W.Frag) (mg : Str → Option Value) (S : Addr → Prop) (H : Hp) : D → V → Prop
  | .tup ds, v => ∃ a vs, v = .ref a ∧ H a = some (.tup vs) ∧ Reps K mg (msk S H) ds vs
  | .lst ds, v => ∃ a vs, v = .ref a ∧ H a = some (.lst vs) ∧ Reps K mg (msk S H) ds vs
  | .fz ds, v => ∃ a vs, v = .ref a ∧ SqL K H a vs ∧ Reps K mg (msk S H) ds vs
  | .tf ds, v => ∃ a vs o, v = .ref a ∧ H a = some (.frz o (.tup vs)) ∧ o.dict = none ∧ Reps K mg (msk S H) ds vs
  | .dK ks ds, v => ∃ a vs, v = .ref a ∧ H a = some (.dK (ks.zip vs)) ∧ ks.length = ds.length ∧ Reps K mg (msk S H) ds vs
  | .dT ks ds, v => ∃ a vs, v = .ref a ∧ H a = some (.dT (ks.zip vs)) ∧ ks.length = ds.length ∧ Reps K mg (msk S H) ds vs
  | .ins c fs ds, v => ∃ a C dx vs, v = .ref a ∧ mg c = some (.ref C) ∧ H a = some (.ins C dx (fs.zip vs)) ∧ fs.length = ds.length ∧ Reps K mg (msk S H) ds vs
  | d, v => Rep K mg H d v
def Tops (K : PySem.W.Frag) (mg : Str → Option Value) (S : Addr → Prop) (H : Hp) : List D → List V → Prop
  | [], vs => vs = []
  | d :: ds, vs => ∃ v r, vs = v :: r ∧ Top K mg S H d v ∧ Tops K mg S H ds r
section
variable {K : PySem.W.Frag} {mg : Str → Option Value} {P S : Addr → Prop} {O O' : Nat → Option Addr} {H H' : Hp} {σ : L2.St} {env : Env} {v : V} {d : D}
theorem SqL.un {a : Addr} {xs : List V} (h : SqL K (msk S H) a xs) : SqL K H a xs := SqL.mono msk_le h
theorem Rep.top (h : Rep K mg (msk S H) d v) : Top K mg S H d v := by
  cases d <;> simp only [Rep, Top] at h ⊢ <;> try exact h
  · obtain ⟨a, vs, e, h1, h2⟩ := h; exact ⟨a, vs, e, msk_le _ _ h1, h2⟩
  · obtain ⟨a, vs, e, h1, h2⟩ := h; exact ⟨a, vs, e, msk_le _ _ h1, h2⟩
  · obtain ⟨a, vs, e, h1, h2⟩ := h; exact ⟨a, vs, e, SqL.un h1, h2⟩
  · obtain ⟨a, vs, o, e, h1, h3, h2⟩ := h; exact ⟨a, vs, o, e, msk_le _ _ h1, h3, h2⟩
  · obtain ⟨a, vs, e, h1, l, h2⟩ := h; exact ⟨a, vs, e, msk_le _ _ h1, l, h2⟩
  · obtain ⟨a, vs, e, h1, l, h2⟩ := h; exact ⟨a, vs, e, msk_le _ _ h1, l, h2⟩
  · obtain ⟨a, C, dx, vs, e, m, h1, l, h2⟩ := h; exact ⟨a, C, dx, vs, e, m, msk_le _ _ h1, l, h2⟩
theorem Own.top {a : Addr} (h : Own K mg (msk S H) (H a) d) : Top K mg S H d (.ref a) := by
  cases d <;> simp only [Own, Top] at h ⊢
  · obtain ⟨vs, q, r⟩ := h; exact ⟨a, vs, rfl, q, r⟩
  · obtain ⟨vs, q, l, r⟩ := h; exact ⟨a, vs, rfl, q, l, r⟩
  · obtain ⟨vs, q, l, r⟩ := h; exact ⟨a, vs, rfl, q, l, r⟩
  · obtain ⟨C, dx, vs, m, q, l, r⟩ := h; exact ⟨a, C, dx, vs, rfl, m, q, l, r⟩
theorem Top.rep (h : Top K mg S H d v) : Rep K mg H d v := by
  cases d <;> simp only [Rep, Top] at h ⊢ <;> try exact h
  · obtain ⟨a, vs, e, h1, h2⟩ := h; exact ⟨a, vs, e, h1, h2.mono msk_le⟩
  · obtain ⟨a, vs, e, h1, h2⟩ := h; exact ⟨a, vs, e, h1, h2.mono msk_le⟩
  · obtain ⟨a, vs, e, h1, h2⟩ := h; exact ⟨a, vs, e, h1, h2.mono msk_le⟩
  · obtain ⟨a, vs, o, e, h1, h3, h2⟩ := h; exact ⟨a, vs, o, e, h1, h3, h2.mono msk_le⟩
  · obtain ⟨a, vs, e, h1, l, h2⟩ := h; exact ⟨a, vs, e, h1, l, h2.mono msk_le⟩
  · obtain ⟨a, vs, e, h1, l, h2⟩ := h; exact ⟨a, vs, e, h1, l, h2.mono msk_le⟩
  · obtain ⟨a, C, dx, vs, e, m, h1, l, h2⟩ := h; exact ⟨a, C, dx, vs, e, m, h1, l, h2.mono msk_le⟩
theorem AOk.top {a : A} (E : EnvOk K mg P O H σ env) (h : AOk K mg P σ H O v a) (e : deref env a = some d) : Top K mg (Priv P O) H d v := by
  cases a with
  | val x => simp only [deref, Option.some.injEq] at e; subst e; exact Rep.top h
  | own i =>
    have h : σ[i]? = some (some v) := h
    simp only [deref] at e
    cases q : env[i]? with
    | none => rw [q] at e; cases e
    | some s =>
      rw [q] at e
      have z := E.sl i s q
      cases s with
      | un => cases e
      | sh x =>
        simp only [Option.bind_some, slotD, Option.some.injEq] at e; subst e
        obtain ⟨_, u, e1, e2⟩ := z
        rw [h] at e1; cases e1
        exact Rep.top e2
      | ow x =>
        simp only [Option.bind_some, slotD, Option.some.injEq] at e; subst e
        obtain ⟨b, _, e1, e2⟩ := z
        rw [h] at e1; cases e1
        exact e2.top
      | lk x =>
        simp only [Option.bind_some, slotD, Option.some.injEq] at e; subst e
        obtain ⟨b, _, e1, e2⟩ := z
        rw [h] at e1; cases e1
        exact e2.top
def derefs (env : Env) : List A → Option (List D)
  | [] => some []
  | a :: as => (deref env a).bind fun d => (derefs env as).map fun ds => d :: ds
theorem AOks.tops (E : EnvOk K mg P O H σ env) : ∀ {as : List A} {vs : List V} {ds : List D}, AOks K mg P σ H O as vs → derefs env as = some ds → Tops K mg (Priv P O) H ds vs
  | [], vs, ds, h, e => by simp only [derefs, Option.some.injEq] at e; subst e; exact h
  | a :: as, vs, ds, h, e => by
    simp only [derefs] at e
    obtain ⟨v, r, rfl, h1, h2⟩ := h
    cases q : deref env a with
    | none => rw [q] at e; cases e
    | some d =>
      rw [q] at e
      cases q2 : derefs env as with
      | none => rw [q2] at e; cases e
      | some ds' =>
        rw [q2] at e
        simp only [Option.bind_some, Option.map_some, Option.some.injEq] at e
        subst e
        exact ⟨v, r, rfl, AOk.top E h1 q, AOks.tops E h2 q2⟩
theorem AOks.keep {env' : Env} (E : EnvOk K mg P O H σ env) (x : Post K mg P O H σ env H' env' O') : ∀ {as : List A} {vs : List V}, AOks K mg P σ H O as vs → AOks K mg P σ H' O' as vs
  | [], _, h => h
  | a :: as, _, ⟨v, r, e, h1, h2⟩ => ⟨v, r, e, AOk.keep E x h1, AOks.keep E x h2⟩
end
end MP
end
section
set_option Elab.async false
set_option linter.all false
set_option maxRecDepth 100000
/-! MPC: the small language and its evaluator on plain data. -/
namespace MP
open PySem PySem.Spec PyProof.Rows L2

/-! ### operators by data -/
inductive Bin where
  | add | sub | mul | fdiv | mod
  deriving DecidableEq, Inhabited
inductive Cmp where
  | eq | ne | lt | le | gt | ge | isN | notN | isin | notin
  deriving DecidableEq, Inhabited
inductive Blt where
  | abs | len | int | list | tuple | tupleF | sorted | sum | max | min | any | all | isi
  deriving DecidableEq, Inhabited
/-- methods that leave their object as it is -/
inductive Pm where
  | count
  deriving DecidableEq, Inhabited
/-- methods that change the list of a slot -/
inductive Mt where
  | append | extend | pop | popAt
  deriving DecidableEq, Inhabited

mutual
/-- as data that == compares at any depth -/
def D.py : D → Option PyData
  | .non => some .none
  | .bl b => some (.bool b)
  | .int i => some (.int i)
  | .str x => some (.str x)
  | .tup l => (pys l).map .tuple
  | .lst l => (pys l).map .list
  | .tf l => (pys l).map .tuple
  | _ => none
def pys : List D → Option (List PyData)
  | [] => some []
  | d :: r => d.py.bind fun a => (pys r).map fun b => a :: b
end
def pyEq (a b : D) : Option Bool := a.py.bind fun x => b.py.bind fun y => if SeqAt.shaped x && SeqAt.shaped y then some (PyData.eqv x y) else none
def ints? : List D → Option (List Int)
  | [] => some []
  | .int i :: r => (ints? r).map fun l => i :: l
  | _ => none
def bls? : List D → Option (List Bool)
  | [] => some []
  | .bl i :: r => (bls? r).map fun l => i :: l
  | _ => none
def mulOk (i j : Int) : Bool := decide (i.natAbs < 2 ^ 64) || decide (j.natAbs < 2 ^ 64) || decide (i.natAbs.log2 + j.natAbs.log2 < 1000000)
def divOk (j : Int) : Bool := decide (j ≠ 0) && decide (j.natAbs.log2 < 9000)
def small (n : Nat) : Bool := decide (n ≤ sizeLine)

def binD : Bin → D → D → Option R
  | .add, .int i, .int j => some (.val (.int (i + j)))
  | .add, .tup a, .tup b => if small (a.length + b.length) then some (.val (.tup (a ++ b))) else none
  | .add, .lst a, .lst b => if small (a.length + b.length) then some (.fr (.lst (a ++ b))) else none
  | .sub, .int i, .int j => some (.val (.int (i - j)))
  | .mul, .int i, .int j => if mulOk i j then some (.val (.int (i * j))) else none
  | .mul, .tup a, .int k => if decide (0 ≤ k) && decide (k ≤ 1000) && decide (a.length ≤ 1000) then some (.val (.tup (List.replicate k.toNat a).flatten)) else none
  | .mul, .lst a, .int k => if decide (0 ≤ k) && decide (k ≤ 1000) && decide (a.length ≤ 1000) then some (.fr (.lst (List.replicate k.toNat a).flatten)) else none
  | .fdiv, .int i, .int j => if divOk j then some (.val (.int (i.fdiv j))) else none
  | .mod, .int i, .int j => if j ≠ 0 then some (.val (.int (i.fmod j))) else none
  | _, _, _ => none
def inD (x : D) : D → Option Bool
  | .lst l => x.py.bind fun d => (pys l).bind fun ps => if SeqAt.shaped d && SeqAt.shaped (.list ps) then some (ps.any fun z => PyData.eqv z d) else none
  | .tup l => x.py.bind fun d => (pys l).bind fun ps => if SeqAt.shaped d && SeqAt.shaped (.tuple ps) then some (ps.any fun z => PyData.eqv z d) else none
  | .tf l => x.py.bind fun d => (pys l).bind fun ps => if SeqAt.shaped d && SeqAt.shaped (.tuple ps) then some (ps.any fun z => PyData.eqv z d) else none
  | _ => none
def cmpD : Cmp → D → D → Option Bool
  | .eq, a, b => pyEq a b
  | .ne, a, b => (pyEq a b).map (!·)
  | .lt, .int i, .int j => some (decide (i < j))
  | .le, .int i, .int j => some (decide (i ≤ j))
  | .gt, .int i, .int j => some (decide (j < i))
  | .ge, .int i, .int j => some (decide (j ≤ i))
  | .isN, .non, .non => some true
  | .isN, _, .non => some false
  | .notN, .non, .non => some false
  | .notN, _, .non => some true
  | .isin, x, l => inD x l
  | .notin, x, l => (inD x l).map (!·)
  | _, _, _ => none

/-- items.sort() of ints -/
def insI (x : Int) : List Int → List Int
  | [] => [x]
  | y :: r => if x ≤ y then x :: y :: r else y :: insI x r
def sortI : List Int → List Int
  | [] => []
  | x :: r => insI x (sortI r)
def maxI : Int → List Int → Int
  | m, [] => m
  | m, x :: r => maxI (if x > m then x else m) r
def minI : Int → List Int → Int
  | m, [] => m
  | m, x :: r => minI (if x < m then x else m) r
def D.tyName : D → Option String
  | .non => some "NoneType"
  | .bl _ => some "bool"
  | .int _ => some "int"
  | .str _ => some "str"
  | .tup _ => some "tuple"
  | .lst _ => some "list"
  | .fz _ => some "list"
  | .tf _ => some "tuple"
  | .dK _ _ => some "dict"
  | .dT _ _ => some "dict"
  | _ => none
/-- is a thing of the type t one of the type T -/
def isTy (t T : String) : Option Bool := if ["bool", "int", "str", "tuple", "list", "dict"].contains T then some (t == T || (t == "bool" && T == "int")) else none
def seq? : D → Option (List D)
  | .tup l => some l
  | .lst l => some l
  | .fz l => some l
  | .tf l => some l
  | _ => none
def bltD : Blt → List D → Option R
  | .abs, [.int i] => some (.val (.int (if i < 0 then -i else i)))
  | .len, [.str x] => if small x.length then some (.val (.int x.length)) else none
  | .len, [d] => (seq? d).map fun l => .val (.int l.length)
  | .int, [.int i] => some (.val (.int i))
  | .int, [.bl b] => some (.val (.int (if b then 1 else 0)))
  | .list, [d] => (seq? d).map fun l => .fr (.lst l)
  | .tuple, [.tf l] => some (.val (.tf l))
  | .tuple, [d] => (seq? d).map fun l => .val (.tup l)
  | .tupleF, [.lst l] => some (.val (.tf l))
  | .sorted, [d] => (seq? d).bind fun l => (ints? l).map fun ns => .fr (.lst ((sortI ns).map .int))
  | .sum, [.lst l] => (ints? l).map fun ns => .val (.int ns.sum)
  | .max, [.lst l] => (ints? l).bind fun ns => match ns with | [] => none | x :: r => some (.val (.int (maxI x r)))
  | .min, [.lst l] => (ints? l).bind fun ns => match ns with | [] => none | x :: r => some (.val (.int (minI x r)))
  | .max, [.int i, .int j] => some (.val (.int (if j > i then j else i)))
  | .min, [.int i, .int j] => some (.val (.int (if j < i then j else i)))
  | .max, [.int i, .int j, .int k] => some (.val (.int (maxI i [j, k])))
  | .any, [.lst l] => (bls? l).map fun bs => .val (.bl (bs.any id))
  | .all, [.lst l] => (bls? l).map fun bs => .val (.bl (bs.all id))
  | .isi, [d, .ty T] => d.tyName.bind fun t => (isTy t T).map fun b => .val (.bl b)
  | _, _ => none
def ixD : D → D → Option R
  | .tup l, .int i => (atI l i).map .val
  | .lst l, .int i => (atI l i).map .val
  | .fz l, .int i => (atI l i).map .val
  | .tf l, .int i => (atI l i).map .val
  | _, _ => none
def cutD (xs : List D) (lo hi : Option Int) : List D := (xs.drop (HT.sIx xs.length 0 lo)).take (HT.sIx xs.length xs.length hi - HT.sIx xs.length 0 lo)
def slD : D → Option Int → Option Int → Option R
  | .tup l, lo, hi => some (.val (.tup (cutD l lo hi)))
  | .lst l, lo, hi => some (.fr (.lst (cutD l lo hi)))
  | .fz l, lo, hi => some (.fr (.lst (cutD l lo hi)))
  | _, _, _ => none
def pmD : Pm → D → List D → Option R
  | .count, .tf l, [x] => x.py.bind fun d => (pys l).bind fun ps => if SeqAt.shaped d && SeqAt.shaped (.tuple ps) then some (.val (.int (ps.countP fun z => PyData.eqv z d : Nat))) else none
  | _, _, _ => none
/-- the value, the list behind -/
def mtD : Mt → List D → List D → Option (D × List D)
  | .append, l, [x] => if l.length < sizeLine then some (.non, l ++ [x]) else none
  | .extend, l, [.lst m] => if small (l.length + m.length) then some (.non, l ++ m) else none
  | .pop, l, [] => l.getLast?.map fun x => (x, l.dropLast)
  | .popAt, l, [.int i] => if small l.length = false then none else (ixN l.length i).bind fun k => (l[k]?).map fun x => (x, l.eraseIdx k)
  | _, _, _ => none

def isL : D → Bool
  | .lst _ => true
  | .fz _ => true
  | _ => false
def isTu : D → Bool
  | .tup _ => true
  | .tf _ => true
  | _ => false

/-! ### the language -/
mutual
inductive Ex where
  | var (i : Nat) | int (i : Int) | bl (b : Bool) | non | str (x : Str) | gl (x : Str) | ty (n : String)
  | bin (o : Bin) (a b : Ex) | neg (a : Ex) | cmp (o : Cmp) (a b : Ex) | chain (o p : Cmp) (a b c : Ex)
  | not (a : Ex) | and (a b : Ex) | or (a b : Ex) | ite (c a b : Ex)
  | tup (l : Exs) | lst (l : Exs) | ix (a i : Ex) | sl (a : Ex) (lo hi : Oe)
  | call (x : Str) (l : Exs) | blt (b : Blt) (l : Exs) | pm (m : Pm) (o : Ex) (l : Exs) | mt (m : Mt) (i : Nat) (l : Exs)
  | comp (e : Ex) (t : Tg) (it : It) (cs : Oe) (own : List Nat)
  | comp2 (e : Ex) (t : Tg) (it : It) (cs : Oe) (t2 : Tg) (it2 : It) (cs2 : Oe) (own : List Nat)
inductive Exs where
  | nil | cons (e : Ex) (l : Exs)
inductive Oe where
  | no | yes (e : Ex)
inductive It where
  | seq (e : Ex) | rng1 (a : Ex) | rng2 (a b : Ex) | zip (a b : Ex) | enum (a : Ex)
inductive Tg where
  | nm (i : Nat) | tup (l : Tgs) | ix (i : Nat) (k : Ex)
inductive Tgs where
  | nil | cons (t : Tg) (l : Tgs)
end
mutual
inductive Sm where
  | asg (t : Tg) (e : Ex) | par (i j : Nat) (a b : Ex) | aug (i : Nat) (o : Bin) (e : Ex)
  | expr (e : Ex) | ret (e : Ex) | retN | ite (c : Ex) (a b : Sms)
  | loop (t : Tg) (it : It) (b : Sms) | whil (c : Ex) (b : Sms) | pass | brk | cont
inductive Sms where
  | nil | cons (s : Sm) (l : Sms)
end

def Tgs.len : Tgs → Nat
  | .nil => 0
  | .cons _ l => l.len + 1
mutual
/-- names only, all of them among some -/
def patT (own : List Nat) : Tg → Bool
  | .nm i => own.contains i
  | .tup l => patTs own l
  | .ix _ _ => false
def patTs (own : List Nat) : Tgs → Bool
  | .nil => true
  | .cons t l => patT own t && patTs own l
end

/-! ### slots -/
def toSh : Slot → Slot
  | .ow d => .sh d
  | .lk d => .sh d
  | s => s
def frz1 (env : Env) : A → Env
  | .val _ => env
  | .own i => env.modify i toSh
def frz (env : Env) : List A → Env
  | [] => env
  | a :: as => frz (frz1 env a) as
def isOw : Slot → Bool
  | .ow _ => true
  | _ => false
def toLk : Slot → Slot
  | .ow d => .lk d
  | s => s
def toOw : Slot → Slot
  | .lk d => .ow d
  | s => s
/-- lock the open slots among some -/
def lockable (env : Env) : List A → List Nat
  | [] => []
  | .own i :: as => if (env[i]?).any isOw then i :: lockable env as else lockable env as
  | _ :: as => lockable env as
def lock (env : Env) : List Nat → Env
  | [] => env
  | i :: r => lock (env.modify i toLk) r
def unlock (env : Env) : List Nat → Env
  | [] => env
  | i :: r => unlock (env.modify i toOw) r
def plain : Slot → Bool
  | .un => true
  | .sh _ => true
  | _ => false
def wipeE (env : Env) : List Nat → Env
  | [] => env
  | i :: r => (wipeE env r).set i .un
def backE (env old : Env) : List Nat → Env
  | [] => env
  | i :: r => match old[i]? with
    | some s => (backE env old r).set i s
    | none => backE env old r

/-- the flow of statements -/
inductive Fl where
  | nx | ret (r : R) | bk | ct

abbrev RE (α : Type) := Res (Exn × Env) α
abbrev RC := Res (Exn × List D) (D × Bool × List D)
def strict (f : List D → Option R) (as : List A) (env : Env) : RE (R × Env) := match derefs env as with
  | some ds => (match f ds with
    | some r => .ok (r, env)
    | none => .bad)
  | none => .bad
/-- the value stored at a slot -/
def store (fx : List Nat) (env : Env) (i : Nat) : R → RE Env
  | .val d => if i < env.length ∧ i ∉ fx then .ok (env.set i (.sh d)) else .bad
  | .fr d => if i < env.length ∧ i ∉ fx then .ok (env.set i (.ow d)) else .bad
  | .own j => match env[j]? with
    | some (.ow d) => if i < env.length ∧ i ∉ fx then .ok ((env.set j .un).set i (.ow d)) else .bad
    | some (.sh d) => if i < env.length ∧ i ∉ fx then .ok (env.set i (.sh d)) else .bad
    | _ => .bad
/-- a slot's object as plain data -/
def unown (env : Env) : R → Option R
  | .own k => (deref env (.own k)).map .val
  | r => some r
def setIxD : D → D → D → Option D
  | .lst l, .int k, d => (ixN l.length k).map fun j => .lst (l.set j d)
  | _, _, _ => none

section
-- what each def of the text gives: its arguments' data; its value, whether it is new, what its open arguments hold then
variable (fx : List Nat) (io : Str → List Bool) (cf : Str → List D → RC)
/-- the arguments of a call: which slots are open to the callee -/
def ioSlots : List Bool → List A → Env → Option (List Nat)
  | true :: bs, .own i :: as, env => if (env[i]?).any isOw then (ioSlots bs as env).map fun l => i :: l else none
  | true :: _, _ :: _, _ => none
  | false :: bs, _ :: as, env => ioSlots bs as env
  | [], _, _ => some []
  | _, [], _ => some []
def setOuts (env : Env) : List Nat → List D → Env
  | i :: r, d :: ds => setOuts (env.set i (.ow d)) r ds
  | _, _ => env
def nonIo : List Bool → List A → List A
  | true :: bs, _ :: as => nonIo bs as
  | false :: bs, a :: as => a :: nonIo bs as
  | [], as => as
  | _, [] => []
def callGo (x : Str) (as : List A) (env : Env) : RE (R × Env) :=
  match derefs env as, ioSlots (io x) as env with
  | some ds, some sl =>
    if sl.Nodup ∧ sl.all (fun i => ((frz env (nonIo (io x) as))[i]?).any isOw) = true then (match cf x ds with
      | .ok z => .ok (if z.2.1 then .fr z.1 else .val z.1, setOuts (frz env (nonIo (io x) as)) sl z.2.2)
      | .exc z => .exc (z.1, setOuts (frz env (nonIo (io x) as)) sl z.2)
      | .bad => .bad) else .bad
  | _, _ => .bad
/-- the turns of a comprehension: each gives an item, or none -/
def compGo (f : D → Env → RE (Option D × Env)) : List D → Env → List D → RE (List D × Env)
  | [], env, acc => .ok (acc, env)
  | x :: xs, env, acc => (f x env).bind fun z => match z.1 with
    | some d => if acc.length < sizeLine then compGo f xs z.2 (acc ++ [d]) else .bad
    | none => compGo f xs z.2 acc
def testR (z : R × Env) : RE (Bool × Env) := match deref z.2 z.1.arg with
  | some (.bl b) => .ok (b, z.2)
  | _ => .bad
def opt1 (z : R × Env) : RE (Option D × Env) := match deref z.2 z.1.arg with
  | some d => .ok (some d, frz1 z.2 z.1.arg)
  | none => .bad
mutual
def ev : Ex → Env → RE (R × Env)
  | .var i, env => match env[i]? with
    | some (.sh d) => .ok (.val d, env)
    | some (.ow _) => .ok (.own i, env)
    | some (.lk _) => .ok (.own i, env)
    | _ => .bad
  | .int i, env => .ok (.val (.int i), env)
  | .bl b, env => .ok (.val (.bl b), env)
  | .non, env => .ok (.val .non, env)
  | .str x, env => .ok (.val (.str x), env)
  | .gl x, env => .ok (.val (.gl x), env)
  | .ty n, env => .ok (.val (.ty n), env)
  | .bin o a b, env => (ev a env).bind fun z => (ev b z.2).bind fun y => strict (fun ds => match ds with | [d, e] => binD o d e | _ => none) [z.1.arg, y.1.arg] y.2
  | .neg a, env => (ev a env).bind fun z => strict (fun ds => match ds with | [.int i] => some (.val (.int (-i))) | _ => none) [z.1.arg] z.2
  | .cmp o a b, env => (ev a env).bind fun z => (ev b z.2).bind fun y => strict (fun ds => match ds with | [d, e] => (cmpD o d e).map fun b => .val (.bl b) | _ => none) [z.1.arg, y.1.arg] y.2
  | .chain o p a b c, env => (ev a env).bind fun z => (ev b z.2).bind fun y => (strict (fun ds => match ds with | [d, e] => (cmpD o d e).map fun b => .val (.bl b) | _ => none) [z.1.arg, y.1.arg] y.2).bind fun w =>
      (testR w).bind fun t => if t.1 then (ev c t.2).bind fun x => strict (fun ds => match ds with | [d, e] => (cmpD p d e).map fun b => .val (.bl b) | _ => none) [y.1.arg, x.1.arg] x.2 else .ok (.val (.bl false), t.2)
  | .not a, env => (ev a env).bind fun z => (testR z).bind fun t => .ok (.val (.bl (!t.1)), t.2)
  | .and a b, env => (ev a env).bind fun z => (testR z).bind fun t => if t.1 then ev b t.2 else .ok (.val (.bl false), t.2)
  | .or a b, env => (ev a env).bind fun z => (testR z).bind fun t => if t.1 then .ok (.val (.bl true), t.2) else ev b t.2
  | .ite c a b, env => (ev c env).bind fun z => (testR z).bind fun t => if t.1 then ev a t.2 else ev b t.2
  | .tup l, env => (evs l env).bind fun z => match derefs z.2 z.1 with
    | some ds => if small ds.length then .ok (.val (.tup ds), frz z.2 z.1) else .bad
    | none => .bad
  | .lst l, env => (evs l env).bind fun z => match derefs z.2 z.1 with
    | some ds => if small ds.length then .ok (.fr (.lst ds), frz z.2 z.1) else .bad
    | none => .bad
  | .ix a i, env => (ev a env).bind fun z => (ev i z.2).bind fun y => strict (fun ds => match ds with | [d, e] => ixD d e | _ => none) [z.1.arg, y.1.arg] y.2
  | .sl a lo hi, env => (ev a env).bind fun z => (evO lo z.2).bind fun y => (evO hi y.2).bind fun x => strict (fun ds => match ds with | [d] => slD d y.1 x.1 | _ => none) [z.1.arg] x.2
  | .call x l, env => (evs l env).bind fun z => callGo io cf x z.1 z.2
  | .blt b l, env => (evs l env).bind fun z => strict (bltD b) z.1 z.2
  | .pm m o l, env => (ev o env).bind fun y => match deref y.2 y.1.arg with
    | some (.tf _) => (evs l y.2).bind fun z => strict (fun ds => match ds with | d :: r => pmD m d r | _ => none) (y.1.arg :: z.1) z.2
    | _ => .bad
  | .mt m i l, env => match env[i]? with
    | some (.ow (.lst _)) => (evs l env).bind fun z => (match derefs z.2 z.1, (frz z.2 z.1)[i]? with
      | some ds, some (.ow (.lst own)) => (match mtD m own ds with
        | some (d, own') => .ok (.val d, (frz z.2 z.1).set i (.ow (.lst own')))
        | none => .bad)
      | _, _ => .bad)
    | _ => .bad
  | .comp e t it cs own, env => (evI it env).bind fun z =>
      if patT own t && own.all (fun i => (z.2[i]?).any plain) then
        (match compGo (fun x env1 => (asg t (.val x) (wipeE env1 own)).bind fun env2 => (evC cs env2).bind fun q => if q.1 then (ev e q.2).bind opt1 else .ok (none, q.2)) z.1.1 (lock z.2 z.1.2) [] with
        | .ok y => .ok (.fr (.lst y.1), unlock (backE y.2 z.2 own) z.1.2)
        | _ => .bad)
      else .bad
  | .comp2 e t it cs t2 it2 cs2 own, env => .bad
def evs : Exs → Env → RE (List A × Env)
  | .nil, env => .ok ([], env)
  | .cons e l, env => (ev e env).bind fun z => (evs l z.2).bind fun y => .ok (z.1.arg :: y.1, y.2)
def evO : Oe → Env → RE (Option Int × Env)
  | .no, env => .ok (none, env)
  | .yes e, env => (ev e env).bind fun z => match z.1 with
    | .val (.int i) => .ok (some i, z.2)
    | _ => .bad
def evC : Oe → Env → RE (Bool × Env)
  | .no, env => .ok (true, env)
  | .yes e, env => (ev e env).bind testR
/-- what a loop walks: the items; the slots that it locks -/
def evI : It → Env → RE ((List D × List Nat) × Env)
  | .seq e, env => (ev e env).bind fun z => match (deref z.2 z.1.arg).bind seq? with
    | some l => .ok ((l, lockable z.2 [z.1.arg]), z.2)
    | none => .bad
  | .rng1 a, env => (ev a env).bind fun z => match z.1 with
    | .val (.int j) => if -(2 ^ 62) ≤ j ∧ j < 2 ^ 62 then .ok (((List.range j.toNat).map fun (k : Nat) => .int (k : Int), []), z.2) else .bad
    | _ => .bad
  | .rng2 a b, env => (ev a env).bind fun z => (ev b z.2).bind fun y => match z.1, y.1 with
    | .val (.int i), .val (.int j) => if -(2 ^ 62) ≤ i ∧ i < 2 ^ 62 ∧ -(2 ^ 62) ≤ j ∧ j < 2 ^ 62 then .ok (((List.range (j - i).toNat).map fun (k : Nat) => .int (i + (k : Int)), []), y.2) else .bad
    | _, _ => .bad
  | .zip a b, env => (ev a env).bind fun z => (ev b z.2).bind fun y => match deref y.2 z.1.arg, deref y.2 y.1.arg with
    | some d, some e => (match seq? d, seq? e with
      | some l, some m => if (isL d && isL e) || (isTu d && isTu e) then .ok (((l.zip m).map fun p => .tup [p.1, p.2], lockable y.2 [z.1.arg, y.1.arg]), y.2) else .bad
      | _, _ => .bad)
    | _, _ => .bad
  | .enum a, env => (ev a env).bind fun z => match deref z.2 z.1.arg with
    | some d => (match seq? d with
      | some l => if isL d then .ok ((l.mapIdx fun k x => .tup [.int k, x], lockable z.2 [z.1.arg]), z.2) else .bad
      | none => .bad)
    | none => .bad
def asg : Tg → R → Env → RE Env
  | .nm i, r, env => store fx env i r
  | .tup l, r, env => match deref env r.arg with
    | some (.tup ds) => if ds.length = l.len then asgs l ds env else .bad
    | _ => .bad
  | .ix i k, r, env => match env[i]? with
    | some (.ow _) => (ev k env).bind fun z => (match deref z.2 r.arg, (frz1 z.2 r.arg)[i]?, deref (frz1 z.2 r.arg) z.1.arg with
      | some d, some (.ow own), some kd => (match setIxD own kd d with
        | some own' => .ok ((frz1 z.2 r.arg).set i (.ow own'))
        | none => .bad)
      | _, _, _ => .bad)
    | _ => .bad
def asgs : Tgs → List D → Env → RE Env
  | .nil, [], env => .ok env
  | .cons t l, d :: ds, env => (asg t (.val d) env).bind fun env1 => asgs l ds env1
  | _, _, _ => .bad
end

/-- the turns of a for -/
def loopGo (f : D → Env → RE (Fl × Env)) : List D → Env → RE (Fl × Env)
  | [], env => .ok (.nx, env)
  | x :: xs, env => (f x env).bind fun z => match z.1 with
    | .nx => loopGo f xs z.2
    | .ct => loopGo f xs z.2
    | .bk => .ok (.nx, z.2)
    | .ret r => .ok (.ret r, z.2)
def whileGo (c : Env → RE (Bool × Env)) (f : Env → RE (Fl × Env)) : Nat → Env → RE (Fl × Env)
  | 0, _ => .bad
  | n + 1, env => (c env).bind fun t => if t.1 then (f t.2).bind fun z => match z.1 with
      | .nx => whileGo c f n z.2
      | .ct => whileGo c f n z.2
      | .bk => .ok (.nx, z.2)
      | .ret r => .ok (.ret r, z.2)
    else .ok (.nx, t.2)
variable (wf : Nat)
def inplace : Bin → D → D → Option R
  | .add, .int i, .int j => some (.val (.int (i + j)))
  | .sub, .int i, .int j => some (.val (.int (i - j)))
  | _, _, _ => none
mutual
def exec : Sm → Env → RE (Fl × Env)
  | .asg t e, env => (ev fx io cf e env).bind fun z => (asg fx io cf t z.1 z.2).bind fun env1 => .ok (.nx, env1)
  | .par i j a b, env => (ev fx io cf a env).bind fun z => (ev fx io cf b z.2).bind fun y => match z.1, y.1 with
    | za, .fr e => (match deref y.2 za.arg with
      | some d => (store fx (frz1 y.2 za.arg) i (.val d)).bind fun env1 => (store fx env1 j (.fr e)).bind fun env2 => .ok (.nx, env2)
      | none => .bad)
    | .fr d, yb => (match deref y.2 yb.arg with
      | some e => (store fx (frz1 y.2 yb.arg) j (.val e)).bind fun env1 => (store fx env1 i (.fr d)).bind fun env2 => .ok (.nx, env2)
      | none => .bad)
    | za, yb => (match deref y.2 za.arg, deref y.2 yb.arg with
      | some d, some e => (store fx (frz y.2 [za.arg, yb.arg]) i (.val d)).bind fun env1 => (store fx env1 j (.val e)).bind fun env2 => .ok (.nx, env2)
      | _, _ => .bad)
  | .aug i o e, env => match env[i]? with
    | some (.sh x) => (ev fx io cf e env).bind fun z => match deref z.2 z.1.arg with
      | some y => (match inplace o x y with
        | some r => (store fx z.2 i r).bind fun env1 => .ok (.nx, env1)
        | none => .bad)
      | none => .bad
    | _ => .bad
  | .expr e, env => (ev fx io cf e env).bind fun z => .ok (.nx, z.2)
  | .ret e, env => (ev fx io cf e env).bind fun z => .ok (.ret z.1, z.2)
  | .retN, env => .ok (.ret (.val .non), env)
  | .ite c a b, env => (ev fx io cf c env).bind fun z => (testR z).bind fun t => if t.1 then execs a t.2 else execs b t.2
  | .loop t it b, env => (evI fx io cf it env).bind fun z =>
      (match loopGo (fun x env1 => (asg fx io cf t (.val x) env1).bind fun env2 => execs b env2) z.1.1 (lock z.2 z.1.2) with
        | .ok y => .ok (y.1, unlock y.2 z.1.2)
        | .exc y => .exc (y.1, unlock y.2 z.1.2)
        | .bad => .bad)
  | .whil c b, env => whileGo (fun env1 => (ev fx io cf c env1).bind testR) (fun env1 => execs b env1) wf env
  | .pass, env => .ok (.nx, env)
  | .brk, env => .ok (.bk, env)
  | .cont, env => .ok (.ct, env)
def execs : Sms → Env → RE (Fl × Env)
  | .nil, env => .ok (.nx, env)
  | .cons s l, env => (exec s env).bind fun z => match z.1 with
    | .nx => execs l z.2
    | _ => .ok z
end
end

/-! ### the defs of a text -/
structure Fn where
  np : Nat
  nn : Nat
  io : List Bool
  body : Sms
abbrev Tab := List (Str × Fn)
def Tab.io (T : Tab) (x : Str) : List Bool := match T.lookup x with
  | some f => f.io
  | none => []
def startE (io : List Bool) (ds : List D) (nn : Nat) : Env :=
  (ds.zipIdx.map fun p => if io.getD p.2 false then Slot.ow p.1 else Slot.sh p.1) ++ List.replicate (nn - ds.length) .un
/-- what the open parameters hold -/
def outsOf (env : Env) : List Bool → Nat → Option (List D)
  | [], _ => some []
  | true :: bs, k => match env[k]? with
    | some (.ow d) => (outsOf env bs (k + 1)).map fun l => d :: l
    | _ => none
  | false :: bs, k => outsOf env bs (k + 1)
def finish (io : List Bool) : RE (Fl × Env) → RC
  | .bad => .bad
  | .exc x => (match outsOf x.2 io 0 with
    | some outs => .exc (x.1, outs)
    | none => .bad)
  | .ok z => match outsOf z.2 io 0 with
  | none => .bad
  | some outs => match z.1 with
    | .nx => .ok (.non, false, outs)
    | .ret (.val d) => .ok (d, false, outs)
    | .ret (.fr d) => .ok (d, true, outs)
    | .ret (.own i) => if io.getD i false then .bad else (match z.2[i]? with
      | some (.ow d) => .ok (d, true, outs)
      | some (.sh d) => .ok (d, false, outs)
      | _ => .bad)
    | _ => .bad
def ioIx (l : List Bool) : List Nat := (List.range l.length).filter fun i => l.getD i false
def callF (T : Tab) (wf : Nat) : Nat → Str → List D → RC
  | 0, _, _ => .bad
  | n + 1, x, ds => match T.lookup x with
    | some f => if ds.length = f.np then finish f.io (execs (ioIx f.io) T.io (callF T wf n) wf f.body (startE f.io ds f.nn)) else .bad
    | none => .bad
end MP
end
section
set_option Elab.async false
set_option linter.all false
set_option maxRecDepth 100000
/-! MPD: the small language against the text; readings by the evaluator. -/
namespace MP
open PySem PySem.Spec PyProof.Rows L2

/-- where code stands: its scope, the names whose cells are its own, the slots' names, the defs of the text -/
structure Kx where
  sc : Scope
  fn : Str → Bool
  N : List Str
  dfs : List Str

def Kx.kind (k : Kx) (x : Str) : Option NameKind := k.sc.names.lookup x
def Kx.vis (k : Kx) (x : Str) : Bool := (match k.kind x with | some .local => true | some .cell => true | some .free => true | _ => false) && !(x == ("__debug__" : Str)) && !(x == ("__classdict__" : Str))
def Kx.loc (k : Kx) (x : Str) : Bool := match k.kind x with | some .local => true | some .cell => k.fn x | _ => false
def Kx.gl (k : Kx) (x : Str) : Bool := (match k.kind x with | some .globalImplicit => true | _ => false) && !(x == ("__debug__" : Str)) && !(x == ("__name__" : Str))
def Kx.slot (k : Kx) (i : Nat) (x : Str) : Bool := decide (k.N[i]? = some x)
/-- in a comprehension's block -/
def Kx.blk (k : Kx) (scope : Scope) : Kx := { k with sc := relS scope k.sc, fn := fun x => scope.names.lookup x == some .cell }

def Kx.own (k : Kx) (l : List Nat) : List (Str × Nat) := l.map fun i => (k.N.getD i default, i)
theorem Kx.own_map (k : Kx) (l : List Nat) : (k.own l).map (·.2) = l := by unfold Kx.own; rw [List.map_map]; simp [Function.comp_def]
def opIs : Bin → Operator → Bool
  | .add, .Add => true
  | .sub, .Sub => true
  | .mul, .Mult => true
  | .fdiv, .FloorDiv => true
  | .mod, .Mod => true
  | _, _ => false
def cmpIs : Cmp → CmpOp → Bool
  | .eq, .Eq => true
  | .ne, .NotEq => true
  | .lt, .Lt => true
  | .le, .LtE => true
  | .gt, .Gt => true
  | .ge, .GtE => true
  | .isN, .Is => true
  | .notN, .IsNot => true
  | .isin, .In => true
  | .notin, .NotIn => true
  | _, _ => false
def Blt.name : Blt → Str
  | .abs => "abs" | .len => "len" | .int => "int" | .list => "list" | .tuple => "tuple" | .tupleF => "tuple" | .sorted => "sorted" | .sum => "sum" | .max => "max" | .min => "min" | .any => "any" | .all => "all" | .isi => "isinstance"
def Pm.name : Pm → Str
  | .count => "count"
def Mt.name : Mt → Str
  | .append => "append" | .extend => "extend" | .pop => "pop" | .popAt => "pop"
def bltNames : List Str := ["abs", "len", "int", "list", "tuple", "sorted", "sum", "max", "min", "any", "all", "isinstance", "range", "zip", "enumerate", "bool", "str", "dict"]
def tyNames : List String := ["int", "bool", "str", "tuple", "list", "dict"]
def isSlice : Expr → Bool
  | .Slice .. => true
  | _ => false

def isSetE : Expr → Bool
  | .Set .. => true
  | _ => false
mutual
def chkE : Ex → Kx → Expr → Bool
  | .var i, k, .Name x _ => k.slot i x && k.vis x
  | .int i, _, .Constant (.int j) _ _ => decide (i = j)
  | .bl b, _, .Constant (.bool c) _ _ => b == c
  | .non, _, .Constant .none _ _ => true
  | .str x, _, .Constant (.str y) _ _ => decide (x = y)
  | .gl x, k, .Name y _ => decide (x = y) && k.gl y && k.dfs.contains x
  | .ty n, k, .Name y _ => decide (y = Str.ofString n) && k.gl y && tyNames.contains n
  | .bin o a b, k, .BinOp x op y _ => opIs o op && (chkE a k x && chkE b k y)
  | .neg a, k, .UnaryOp .USub x _ => chkE a k x
  | .cmp o a b, k, .Compare x [op] [y] _ => cmpIs o op && !behindInMarks op y && (chkE a k x && chkE b k y)
  | .chain o p a b c, k, .Compare x [op, op2] [y, z] _ => cmpIs o op && cmpIs p op2 && !behindInMarks op y && !behindInMarks op2 z && (chkE a k x && (chkE b k y && chkE c k z))
  | .not a, k, .UnaryOp .Not x _ => chkE a k x
  | .and a b, k, .BoolOp .And [x, y] _ => chkE a k x && chkE b k y
  | .and a b, k, .BoolOp .And (x :: y :: z :: r) pos => chkE a k x && chkE b k (.BoolOp .And (y :: z :: r) pos)
  | .or a b, k, .BoolOp .Or [x, y] _ => chkE a k x && chkE b k y
  | .or a b, k, .BoolOp .Or (x :: y :: z :: r) pos => chkE a k x && chkE b k (.BoolOp .Or (y :: z :: r) pos)
  | .ite c a b, k, .IfExp x y z _ => chkE c k x && (chkE a k y && chkE b k z)
  | .tup l, k, .Tuple es _ _ => chks l k es
  | .lst l, k, .List es _ => chks l k es
  | .ix a i, k, .Subscript x y _ => !isSlice y && (chkE a k x && chkE i k y)
  | .sl a lo hi, k, .Subscript x (.Slice l h none _) _ => chkE a k x && (chkO lo k l && chkO hi k h)
  | .call x l, k, .Call (.Name y _) es [] _ => decide (x = y) && k.gl y && k.dfs.contains x && !es.isEmpty && chks l k es
  | .blt b l, k, .Call (.Name y _) es [] _ => decide (y = b.name) && k.gl y && !es.isEmpty && chks l k es
  | .pm m o l, k, .Call (.Attribute x n ap) es [] cp => decide (n = m.name) && !es.isEmpty && (ap.endLine == cp.line) && decide (es.length < 20) && (chkE o k x && chks l k es)
  | .mt m i l, k, .Call (.Attribute (.Name x _) n ap) es [] cp => decide (n = m.name) && k.slot i x && k.vis x && (decide (m = .pop) == es.isEmpty) && (ap.endLine == cp.line) && decide (es.length < 20) && chks l k es
  | .comp e t it cs own, k, .ListComp elt [⟨tg, iter, ifs, 0⟩] scope _ => blkC k.N k.sc scope (k.own own) && (chkI it k tg iter && (chkT t (k.blk scope) tg && (chkC cs (k.blk scope) ifs && chkE e (k.blk scope) elt)))
  | _, _, _ => false
def chks : Exs → Kx → List Expr → Bool
  | .nil, _, [] => true
  | .cons e l, k, x :: r => chkE e k x && chks l k r
  | _, _, _ => false
def chkO : Oe → Kx → Option Expr → Bool
  | .no, _, none => true
  | .yes e, k, some x => chkE e k x
  | _, _, _ => false
def chkC : Oe → Kx → List Expr → Bool
  | .no, _, [] => true
  | .yes e, k, [x] => chkE e k x
  | _, _, _ => false
def chkI : It → Kx → Expr → Expr → Bool
  | .seq e, k, _, x => chkE e k x && !isSetE x
  | .rng1 a, k, _, .Call (.Name y _) [x] [] _ => decide (y = "range") && k.gl y && chkE a k x
  | .rng2 a b, k, _, .Call (.Name y _) [x, z] [] _ => decide (y = "range") && k.gl y && (chkE a k x && chkE b k z)
  | .zip a b, k, .Tuple .., .Call (.Name y _) [x, z] [] _ => decide (y = "zip") && k.gl y && (chkE a k x && chkE b k z)
  | .enum a, k, .Tuple .., .Call (.Name y _) [x] [] _ => decide (y = "enumerate") && k.gl y && chkE a k x
  | _, _, _, _ => false
def chkT : Tg → Kx → Expr → Bool
  | .nm i, k, .Name x _ => k.slot i x && k.loc x
  | .tup l, k, .Tuple es _ _ => chkTs l k es
  | .ix i e, k, .Subscript (.Name x _) y _ => k.slot i x && k.vis x && !isSlice y && chkE e k y
  | _, _, _ => false
def chkTs : Tgs → Kx → List Expr → Bool
  | .nil, _, [] => true
  | .cons t l, k, x :: r => chkT t k x && chkTs l k r
  | _, _, _ => false
end

/-- how a pair of names is stored from a pair of values -/
def swp (k : Kx) (targets : List Expr) (value : Expr) : Option (Option (List Str)) :=
  match targets, value with
  | [.Tuple ts _ _], .Tuple vs _ _ =>
    if !(ts.length == 2 || ts.length == 3) || vs.length != ts.length then some none
    else if vs.any (fun | .Starred .. => true | _ => false) then some none
    else
      let line := (ts.head?.map (·.pos.line)).getD 0
      let names := ts.filterMap fun
        | .Name id pos => if k.kind id == some .local && pos.line == line then some id else none
        | _ => none
      if names.length != ts.length || names.eraseDups.length != names.length then some none
      else if vs.all (foldedForSure 8) then some none
      else if vs.all (constantsAlone 8) then none
      else some (some names)
  | [.List _ _], _ => none
  | _, _ => some none
/-- a comprehension stored on its own line swaps -/
def isComp : Expr → Bool
  | .ListComp .. => true
  | .SetComp .. => true
  | .DictComp .. => true
  | _ => false
/-- the block's names -/
def compNames : Expr → List (Str × NameKind)
  | .ListComp _ _ s _ => s.names
  | .SetComp _ _ s _ => s.names
  | .DictComp _ _ _ s _ => s.names
  | _ => []
/-- swapped by the compiler -/
def swaps (k : Kx) : Expr → Expr → Bool
  | .Name y py, v => decide (k.kind y = some .local) && py.line == v.pos.line && !((compNames v).any fun (n, q) => n == y && (q == .local || q == .cell))
  | _, _ => false
/-- a comprehension's list given to a name: swapped, or not -/
def compAsg (k : Kx) (tg v : Expr) : Bool := match tg with
  | .Name y py => true
  | _ => false
mutual
def chkS : Sm → Kx → Stmt → Bool
  | .asg t e, k, .Assign [tg] v _ => (if isComp v then compAsg k tg v else decide (swp k [tg] v = some none)) && (chkT t k tg && chkE e k v)
  | .par i j a b, k, .Assign [.Tuple [.Name x px, .Name y py] kt pt] (.Tuple [u, v] k2 pt2) _ => k.slot i x && k.slot j y && decide (k.kind x = some .local) && decide (k.kind y = some .local) && decide (i ≠ j) &&
      decide (swp k [.Tuple [.Name x px, .Name y py] kt pt] (.Tuple [u, v] k2 pt2) = some (some [x, y])) && (chkE a k u && chkE b k v)
  | .aug i o e, k, .AugAssign (.Name x _) op v _ => k.slot i x && k.loc x && (decide (o = .add ∨ o = .sub) && opIs o op) && chkE e k v
  | .expr e, k, .Expr v _ => !isComp v && chkE e k v
  | .ret e, k, .Return (some v) _ => chkE e k v
  | .retN, _, .Return none _ => true
  | .ite c a b, k, .If x y z _ => chkE c k x && (chkSs a k y && chkSs b k z)
  | .loop t it b, k, .For tg iter y [] _ => chkI it k tg iter && (chkT t k tg && chkSs b k y)
  | .whil c b, k, .While x y [] _ => chkE c k x && chkSs b k y
  | .pass, _, .Pass _ => true
  | .brk, _, .Break _ => true
  | .cont, _, .Continue _ => true
  | _, _, _ => false
def chkSs : Sms → Kx → List Stmt → Bool
  | .nil, _, [] => true
  | .cons s l, k, x :: r => chkS s k x && chkSs l k r
  | _, _, _ => false
end
end MP
end
section
set_option Elab.async false
set_option linter.all false
set_option maxRecDepth 100000
/-! MPE: the operators' rules by data. -/
namespace MP
open PySem PySem.Spec PyProof.Rows L2

section
variable (K : PySem.W.Frag) (mg : Str → Option Value)
/-- an operator's end: new objects alone -/
def OpPost (S : Addr → Prop) (H H3 : Hp) (v : V) : R → Prop
  | .val d => Same H H3 ∧ Rep K mg (msk S H3) d v
  | .fr d => Same H H3 ∧ ∃ p, v = .ref p ∧ H p = none ∧ Own K mg (msk (fun a => S a ∨ a = p) H3) (H3 p) d
  | .own _ => False
/-- the operator r on values is f on data -/
def OpOk (r : List V → Hp → VK → Prop) (f : List D → Option R) : Prop :=
  ∀ (S : Addr → Prop) (H : Hp) (ds : List D) (vs : List V) (rd : R) (Q : VK), (∀ a, S a → ∃ o, H a = some o ∧ MutO o) → Tops K mg S H ds vs → f ds = some rd → (∀ v H3, OpPost K mg S H H3 v rd → Q v H3) → r vs H Q
end
section
variable {K : PySem.W.Frag} {mg : Str → Option Value} {S : Addr → Prop} {H H3 : Hp} {v : V}
theorem same_upd {p : Addr} {o : HO} (h : H p = none) : Same H (upd H p o) := fun b x e => by rw [upd_ne (ne_of_none e h)]; exact e
theorem OpPost.flat {d : D} (hr : Rep K mg (msk S H) d v) : OpPost K mg S H H v (.val d) := ⟨Same.refl H, hr⟩
theorem OpPost.int {i : Int} : OpPost K mg S H H (.int i) (.val (.int i)) := ⟨Same.refl H, by simp only [Rep]⟩
theorem OpPost.bl {i : Bool} : OpPost K mg S H H (.bl i) (.val (.bl i)) := ⟨Same.refl H, by simp only [Rep]⟩
theorem OpPost.str {i : Str} : OpPost K mg S H H (.str i) (.val (.str i)) := ⟨Same.refl H, by simp only [Rep]⟩
theorem OpPost.non : OpPost K mg S H H .non (.val .non) := ⟨Same.refl H, by simp only [Rep]⟩
/-- a new list -/
theorem OpPost.lst {ds : List D} {vs : List V} {p : Addr} (hp : H p = none) (hr : Reps K mg (msk S H) ds vs) : OpPost K mg S H (upd H p (.lst vs)) (.ref p) (.fr (.lst ds)) :=
  ⟨same_upd hp, p, rfl, hp, vs, upd_same, hr.mono (msk_mono (fun a z => z.imp (fun h => h) fun z => by subst z; exact hp) fun a o _ e => same_upd hp a o e)⟩
/-- a new tuple -/
theorem OpPost.tup {ds : List D} {vs : List V} {p : Addr} (hS : ∀ a, S a → ∃ o, H a = some o ∧ MutO o) (hp : H p = none) (hr : Reps K mg (msk S H) ds vs) : OpPost K mg S H (upd H p (.tup vs)) (.ref p) (.val (.tup ds)) := by
  refine ⟨same_upd hp, ?_⟩
  simp only [Rep]
  refine ⟨p, vs, rfl, msk_some.mpr ⟨fun z => ?_, upd_same⟩, hr.mono (msk_mono (fun a z => .inl z) fun a o _ e => same_upd hp a o e)⟩
  obtain ⟨o, e, _⟩ := hS p z
  rw [hp] at e; cases e

theorem Tops.one {d : D} {vs : List V} (h : Tops K mg S H [d] vs) : ∃ v, vs = [v] ∧ Top K mg S H d v := by
  obtain ⟨v, r, rfl, h1, h2⟩ := h
  exact ⟨v, by rw [show r = [] from h2], h1⟩
theorem Tops.two {d e : D} {vs : List V} (h : Tops K mg S H [d, e] vs) : ∃ v u, vs = [v, u] ∧ Top K mg S H d v ∧ Top K mg S H e u := by
  obtain ⟨v, r, rfl, h1, h2⟩ := h
  obtain ⟨u, rfl, h3⟩ := Tops.one h2
  exact ⟨v, u, rfl, h1, h3⟩
theorem Tops.three {d e f : D} {vs : List V} (h : Tops K mg S H [d, e, f] vs) : ∃ v u w, vs = [v, u, w] ∧ Top K mg S H d v ∧ Top K mg S H e u ∧ Top K mg S H f w := by
  obtain ⟨v, r, rfl, h1, h2⟩ := h
  obtain ⟨u, w, rfl, h3, h4⟩ := Tops.two h2
  exact ⟨v, u, w, rfl, h1, h3, h4⟩
theorem Tops.nil {vs : List V} (h : Tops K mg S H [] vs) : vs = [] := h
theorem Top.int {i : Int} (h : Top K mg S H (.int i) v) : v = .int i := by simpa only [Top, Rep] using h
theorem Top.bl {i : Bool} (h : Top K mg S H (.bl i) v) : v = .bl i := by simpa only [Top, Rep] using h
theorem Top.str {i : Str} (h : Top K mg S H (.str i) v) : v = .str i := by simpa only [Top, Rep] using h
theorem Top.non (h : Top K mg S H .non v) : v = .non := by simpa only [Top, Rep] using h
theorem Top.ty {n : String} (h : Top K mg S H (.ty n) v) : v = .ty n := by simpa only [Top, Rep] using h
theorem Top.gl {x : Str} (h : Top K mg S H (.gl x) v) : ∃ f, v = .ref f ∧ mg x = some (.ref f) := by simpa only [Top, Rep] using h
theorem Top.tup {ds : List D} (h : Top K mg S H (.tup ds) v) : ∃ a vs, v = .ref a ∧ H a = some (.tup vs) ∧ Reps K mg (msk S H) ds vs := by simpa only [Top] using h
theorem Top.lst {ds : List D} (h : Top K mg S H (.lst ds) v) : ∃ a vs, v = .ref a ∧ H a = some (.lst vs) ∧ Reps K mg (msk S H) ds vs := by simpa only [Top] using h
theorem Top.tf {ds : List D} (h : Top K mg S H (.tf ds) v) : ∃ a vs o, v = .ref a ∧ H a = some (.frz o (.tup vs)) ∧ o.dict = none ∧ Reps K mg (msk S H) ds vs := by simpa only [Top] using h
theorem Top.fz {ds : List D} (h : Top K mg S H (.fz ds) v) : ∃ a vs, v = .ref a ∧ SqL K H a vs ∧ Reps K mg (msk S H) ds vs := by simpa only [Top] using h

mutual
theorem Rep.dp : ∀ {d : D} {v : V} {p : PyData}, Rep K mg H d v → d.py = some p → Dp K H v p
  | .non, v, p, h, e => by simp only [Rep] at h; simp only [D.py, Option.some.injEq] at e; subst h; subst e; exact .non
  | .bl b, v, p, h, e => by simp only [Rep] at h; simp only [D.py, Option.some.injEq] at e; subst h; subst e; exact .bl b
  | .int b, v, p, h, e => by simp only [Rep] at h; simp only [D.py, Option.some.injEq] at e; subst h; subst e; exact .int b
  | .str b, v, p, h, e => by simp only [Rep] at h; simp only [D.py, Option.some.injEq] at e; subst h; subst e; exact .str b
  | .tup ds, v, p, h, e => by
    simp only [Rep] at h; simp only [D.py] at e
    obtain ⟨a, vs, rfl, h1, h2⟩ := h
    cases q : pys ds with
    | none => rw [q] at e; cases e
    | some ps =>
      rw [q] at e
      simp only [Option.map_some, Option.some.injEq] at e; subst e
      exact .tup (.inl (.inl h1)) (Reps.dp h2 q)
  | .lst ds, v, p, h, e => by
    simp only [Rep] at h; simp only [D.py] at e
    obtain ⟨a, vs, rfl, h1, h2⟩ := h
    cases q : pys ds with
    | none => rw [q] at e; cases e
    | some ps =>
      rw [q] at e
      simp only [Option.map_some, Option.some.injEq] at e; subst e
      exact .lst (.inl (.inl h1)) (Reps.dp h2 q)
  | .tf ds, v, p, h, e => by
    simp only [Rep] at h; simp only [D.py] at e
    obtain ⟨a, vs, o, rfl, h1, _, h2⟩ := h
    cases q : pys ds with
    | none => rw [q] at e; cases e
    | some ps =>
      rw [q] at e
      simp only [Option.map_some, Option.some.injEq] at e; subst e
      exact .tup (.inl (.inr ⟨o, h1⟩)) (Reps.dp h2 q)
  | .fz _, _, _, _, e => by simp [D.py] at e
  | .dK _ _, _, _, _, e => by simp [D.py] at e
  | .dT _ _, _, _, _, e => by simp [D.py] at e
  | .ins _ _ _, _, _, _, e => by simp [D.py] at e
  | .gl _, _, _, _, e => by simp [D.py] at e
  | .ty _, _, _, _, e => by simp [D.py] at e
theorem Reps.dp : ∀ {ds : List D} {vs : List V} {ps : List PyData}, Reps K mg H ds vs → pys ds = some ps → DpAll K H vs ps
  | [], vs, ps, h, e => by simp only [Reps] at h; simp only [pys, Option.some.injEq] at e; subst h; subst e; exact .nil
  | d :: ds, vs, ps, h, e => by
    simp only [Reps] at h; simp only [pys] at e
    obtain ⟨v, r, rfl, h1, h2⟩ := h
    cases q : d.py with
    | none => rw [q] at e; cases e
    | some p =>
      rw [q] at e
      simp only [Option.bind_some] at e
      cases q2 : pys ds with
      | none => rw [q2] at e; cases e
      | some ps' =>
        rw [q2] at e
        simp only [Option.map_some, Option.some.injEq] at e; subst e
        exact .cons (Rep.dp h1 q) (Reps.dp h2 q2)
end
theorem Reps.ints : ∀ {ds : List D} {vs : List V} {ns : List Int}, Reps K mg H ds vs → ints? ds = some ns → vs = ns.map V.int
  | [], vs, ns, h, e => by simp only [Reps] at h; simp only [ints?, Option.some.injEq] at e; subst h; subst e; rfl
  | .int i :: ds, vs, ns, h, e => by
    simp only [Reps] at h; simp only [ints?] at e
    obtain ⟨v, r, rfl, h1, h2⟩ := h
    simp only [Rep] at h1; subst h1
    cases q : ints? ds with
    | none => rw [q] at e; cases e
    | some ms =>
      rw [q] at e
      simp only [Option.map_some, Option.some.injEq] at e; subst e
      rw [Reps.ints h2 q]; rfl
  | .non :: _, _, _, _, e => by simp [ints?] at e
  | .bl _ :: _, _, _, _, e => by simp [ints?] at e
  | .str _ :: _, _, _, _, e => by simp [ints?] at e
  | .tup _ :: _, _, _, _, e => by simp [ints?] at e
  | .lst _ :: _, _, _, _, e => by simp [ints?] at e
  | .fz _ :: _, _, _, _, e => by simp [ints?] at e
  | .tf _ :: _, _, _, _, e => by simp [ints?] at e
  | .dK _ _ :: _, _, _, _, e => by simp [ints?] at e
  | .dT _ _ :: _, _, _, _, e => by simp [ints?] at e
  | .ins _ _ _ :: _, _, _, _, e => by simp [ints?] at e
  | .gl _ :: _, _, _, _, e => by simp [ints?] at e
  | .ty _ :: _, _, _, _, e => by simp [ints?] at e
theorem Reps.bls : ∀ {ds : List D} {vs : List V} {ns : List Bool}, Reps K mg H ds vs → bls? ds = some ns → vs = ns.map V.bl
  | [], vs, ns, h, e => by simp only [Reps] at h; simp only [bls?, Option.some.injEq] at e; subst h; subst e; rfl
  | .bl i :: ds, vs, ns, h, e => by
    simp only [Reps] at h; simp only [bls?] at e
    obtain ⟨v, r, rfl, h1, h2⟩ := h
    simp only [Rep] at h1; subst h1
    cases q : bls? ds with
    | none => rw [q] at e; cases e
    | some ms =>
      rw [q] at e
      simp only [Option.map_some, Option.some.injEq] at e; subst e
      rw [Reps.bls h2 q]; rfl
  | .non :: _, _, _, _, e => by simp [bls?] at e
  | .int _ :: _, _, _, _, e => by simp [bls?] at e
  | .str _ :: _, _, _, _, e => by simp [bls?] at e
  | .tup _ :: _, _, _, _, e => by simp [bls?] at e
  | .lst _ :: _, _, _, _, e => by simp [bls?] at e
  | .fz _ :: _, _, _, _, e => by simp [bls?] at e
  | .tf _ :: _, _, _, _, e => by simp [bls?] at e
  | .dK _ _ :: _, _, _, _, e => by simp [bls?] at e
  | .dT _ _ :: _, _, _, _, e => by simp [bls?] at e
  | .ins _ _ _ :: _, _, _, _, e => by simp [bls?] at e
  | .gl _ :: _, _, _, _, e => by simp [bls?] at e
  | .ty _ :: _, _, _, _, e => by simp [bls?] at e
theorem Reps.of_ints : ∀ (ns : List Int), Reps K mg H (ns.map D.int) (ns.map V.int)
  | [] => by simp only [List.map_nil]; exact Reps.nil
  | n :: ns => by simp only [List.map_cons]; exact Reps.cons (by simp only [Rep]) (Reps.of_ints ns)
end

/-! ### rules of the machine that the layer lacks -/
section
variable {X : Cx}
/-- // by any divisor below 2 ^ 9000 -/
theorem op_fdivA : OpR X (binaryOp .FloorDiv) (rI (fun _ j => j ≠ 0 ∧ j.natAbs.log2 < 9000) fun i j => .int (i.fdiv j)) := opI fun i j _ _ _ _ _ hc q =>
  floordiv_int hc.1 q (.inl (PyProof.noPylong_of_log2 hc.2))
theorem mulOk_ok {i j : Int} (h : mulOk i j = true) : IntMulOk i j := by
  unfold mulOk at h
  simp only [Bool.or_eq_true, decide_eq_true_eq] at h
  rcases h with (h | h) | h
  · exact .of_left (intBits_le_64 (by omega) (by omega))
  · exact .of_right (intBits_le_64 (by omega) (by omega))
  · exact CMulW.ok h
theorem op_mulA : OpR X (binaryOp .Mult) (rI (fun i j => mulOk i j = true) fun i j => .int (i * j)) := opI fun _ _ _ _ _ _ _ hc q => mul_int q (mulOk_ok hc)
theorem OpR.or {f : Value → Value → Sem Value} {r r' : R2} (h : OpR X f r) (h' : OpR X f r') : OpR X f (fun x y H Q => r x y H Q ∨ r' x y H Q) := by
  intro pins s σ H x y v u Q I rx ry q
  rcases q with q | q
  · exact h pins s σ H x y v u Q I rx ry q
  · exact h' pins s σ H x y v u Q I rx ry q
end
/-- an operator by its data -/
def r2of (r : R2) : List V → Hp → VK → Prop := fun vs H Q => ∃ x y, vs = [x, y] ∧ r x y H Q
end MP
end
section
set_option Elab.async false
set_option linter.all false
set_option maxRecDepth 100000
set_option maxHeartbeats 4000000
/-! MPE2: rules of the machine that the layer lacks: tuple * k, sorted(tuple), count of a tuple, x in a tuple. -/
namespace MP
open PySem PySem.Spec PyProof.Rows L2
/-- tuple * k, k 1 or an empty tuple: itself -/
theorem tuple_mul1 (l : Addr) (items : Array Value) (n : Nat) (dd : Option Addr) (sl : Array (Option Value)) (x : Int) (u : Tok) (c0 : (decide (x < -(2 ^ 63)) || decide (x ≥ 2 ^ 63)) = false) (c1 : (items.isEmpty || x == 1) = true) :
    Meets (Builtin.«tuple.__mul__» ⟨[.ref l, .int x u], []⟩) (fun _ R s => s.heap.get? l = some { cls := .type "tuple", dict := dd, data := .seq items n, slots := sl } ∧
      R (.ok (.ret (Value.ref l))) s) :=
  .of_wp fun prog w A R s h => by
    obtain ⟨hp, g, d, tk, os⟩ := s
    obtain ⟨hl, h⟩ := h
    have f1 := AutoSeq1.idx_int
    wp_walk using wpAny_loadPart' hl
    refine wpAny_ite_false (decide_eq_false (by rw [c0]; exact Bool.false_ne_true)) ?_
    wp_walk using wpAny_loadPart' hl
    exact ⟨_, rfl, h⟩
/-- tuple * k, k at most 0: a new empty one -/
theorem tuple_mul0 (l : Addr) (items : Array Value) (n : Nat) (dd : Option Addr) (sl : Array (Option Value)) (x : Int) (u : Tok) (c0 : (decide (x < -(2 ^ 63)) || decide (x ≥ 2 ^ 63)) = false) (c1 : (items.isEmpty || x == 1) = false) (c2 : (decide (x ≤ 0) || items.isEmpty) = true) :
    Meets (Builtin.«tuple.__mul__» ⟨[.ref l, .int x u], []⟩) (fun _ R s => s.heap.get? l = some { cls := .type "tuple", dict := dd, data := .seq items n, slots := sl } ∧
      R (.ok (.ret (Value.ref s.heap.objs.size))) { s with heap := s.heap.push { cls := Value.type "tuple", data := Data.seq #[] }, toks := s.toks }) :=
  .of_wp fun prog w A R s h => by
    obtain ⟨hp, g, d, tk, os⟩ := s
    obtain ⟨hl, h⟩ := h
    have f1 := AutoSeq1.idx_int
    wp_walk using wpAny_loadPart' hl
    repeat (first
      | (refine wpAny_ite_false (decide_eq_false (by rw [c0]; exact Bool.false_ne_true)) ?_; wp_walk using wpAny_loadPart' hl)
      | (refine wpAny_ite_false (decide_eq_false (by rw [c1]; exact Bool.false_ne_true)) ?_; wp_walk using wpAny_loadPart' hl))
    exact ⟨_, rfl, h⟩
/-- tuple * k for 0 ≤ k ≤ 1000 -/
def rRepA (K : PySem.W.Frag) : R2 := fun x y H Q => ∃ l k xs, x = .ref l ∧ y = .int k ∧ H l = some (.tup xs) ∧ 0 ≤ k ∧ k ≤ 1000 ∧ xs.length ≤ 1000 ∧
  ((xs = [] ∨ k = 1) → Q (.ref l) H) ∧ (¬ (xs = [] ∨ k = 1) → ∀ p, H p = none → Q (.ref p) (upd H p (.tup (List.replicate k.toNat xs).flatten)))
section
variable {X : Cx}
theorem op_repA : OpR X (binaryOp .Mult) (rRepA X.K) := by
  intro pins s σ H x y v u Q I rx ry h
  obtain ⟨l, k, xs, rfl, rfl, hT, h1, h2, hz, q1, q2⟩ := h
  by_cases big : xs ≠ [] ∧ 2 ≤ k
  · exact op_repT pins s σ H _ _ v u Q I rx ry ⟨l, k, xs, rfl, rfl, .inl (.inl hT), big.1, big.2, h2, hz, q2 (fun z => z.elim big.1 (by omega))⟩
  cases rx
  obtain ⟨t, rfl⟩ := ry
  obtain ⟨its, r, ⟨⟨cls, dd, data, sl⟩, ho, hc, n, hd⟩, hs⟩ := I.tuple (SqT.of hT)
  simp only at hc hd
  subst hc hd
  have hle : its.length = xs.length := r.length.symm
  have c0 : (decide (k < -(2 ^ 63)) || decide (k ≥ 2 ^ 63)) = false := by
    rw [decide_eq_false (by omega), decide_eq_false (by omega)] <;> rfl
  have emp : its.toArray.isEmpty = true ↔ xs = [] := by
    rw [List.isEmpty_toArray, List.isEmpty_iff]
    constructor
    · intro e; rw [e] at hle; exact List.eq_nil_of_length_eq_zero hle.symm
    · intro e; rw [e] at hle; exact List.eq_nil_of_length_eq_zero hle
  by_cases c1 : xs = [] ∨ k = 1
  · have c1' : (its.toArray.isEmpty || k == 1) = true := by
      rw [Bool.or_eq_true, emp, beq_iff_eq]; exact c1
    refine wpAny_binaryOp_repeat_ref (T := "tuple") (U := "int") (by decide) ⟨_, ho, rfl⟩ (fun s' => typeIs_int s' k t) noFill_tuple_mul F.fills_int_mul F.slot_int_rmul repeat_tuple F.slot_int_index.lookup
      (call_meets F.slot_int_rmul (typeIs_int s k t) F.entry_int_rmul (F.args_int_rmul_2 _ _) (int_rmul_tuple k t l its.toArray n dd sl)
        ⟨ho, rfl, ⟨_, ho, rfl⟩, call_meets F.slot_tuple_mul ⟨_, ho, rfl⟩ F.entry_tuple_mul (F.args_tuple_mul_2 _ _) (tuple_mul1 l its.toArray n dd sl k t c0 c1') ⟨ho, ?_⟩⟩)
    exact ⟨.ref l, H, I, rfl, q1 c1⟩
  · have c1' : (its.toArray.isEmpty || k == 1) = false := by
      rw [Bool.eq_false_iff, ne_eq, Bool.or_eq_true, emp, beq_iff_eq]; exact c1
    have k0 : k = 0 := by
      have a1 : xs ≠ [] := fun z => c1 (.inl z)
      have a2 : k ≠ 1 := fun z => c1 (.inr z)
      have a3 : ¬ 2 ≤ k := fun z => big ⟨a1, z⟩
      omega
    have c2 : (decide (k ≤ 0) || its.toArray.isEmpty) = true := by rw [k0]; rfl
    refine wpAny_binaryOp_repeat_ref (T := "tuple") (U := "int") (by decide) ⟨_, ho, rfl⟩ (fun s' => typeIs_int s' k t) noFill_tuple_mul F.fills_int_mul F.slot_int_rmul repeat_tuple F.slot_int_index.lookup
      (call_meets F.slot_int_rmul (typeIs_int s k t) F.entry_int_rmul (F.args_int_rmul_2 _ _) (int_rmul_tuple k t l its.toArray n dd sl)
        ⟨ho, rfl, ⟨_, ho, rfl⟩, call_meets F.slot_tuple_mul ⟨_, ho, rfl⟩ F.entry_tuple_mul (F.args_tuple_mul_2 _ _) (tuple_mul0 l its.toArray n dd sl k t c0 c1' c2) ⟨ho, ?_⟩⟩)
    have e : (List.replicate k.toNat xs).flatten = [] := by rw [k0]; rfl
    refine ⟨.ref s.heap.objs.size, _, I.laid (t' := s.toks) (o := .tup (List.replicate k.toNat xs).flatten) (fun b ob q => Heap.get?_push_of_some _ q) (Nat.le_refl _) ?_, rfl, q2 c1 _ (I.hok.fresh (Nat.le_refl _))⟩
    rw [e]
    exact ⟨Nat.zero_le _, [], .nil, IsTup.new _ _⟩

end
/-- the items of a tuple, in a list of their own -/
theorem collect_tup {prog : Program} {w : World} {A : Around} {E : Value → Shared → Prop} {s : Shared} {l : Addr} {vs : List Value} {Q : List Value → Shared → Prop} (hl : IsTup s.heap l vs.toArray)
    (h : Q vs { s with heap := (s.heap.push (seqObj "list" #[] 0)).update s.heap.objs.size (Obj.mapSeq (· ++ vs.toArray)) }) (hsz : vs.length ≤ sizeLine) :
    wpAny (model prog w) A (collect (.ref l)) Q E s := by
  obtain ⟨o, ho, hc, n, hd⟩ := id hl
  unfold collect
  refine wpAny_bind (wpAny_runValue (codeAny_builtin entry_proto_collect' ?_))
  show wpAny _ _ (do again (.builtin "list.__iadd__" ⟨[← newList [], .ref l], []⟩)) _ _ s
  refine wpAny_bind (wpAny_newList (wpAny_pure ⟨Code.quiet_builtin _ (by decide +kernel), codeAny_builtin entry_list_iadd' ?_⟩))
  show wpAny _ _ (Builtin.List.listExtendWith (.ref s.heap.objs.size) (.ref l) (.ref s.heap.objs.size)) _ _ { s with heap := s.heap.push (seqObj "list" #[] 0) }
  unfold Builtin.List.listExtendWith
  have ho' : (s.heap.push (seqObj "list" #[] 0)).get? l = some o := Heap.get?_push_of_some _ ho
  refine wpAny_bind (wpAny_typeOf (T := "tuple") ⟨o, ho', hc⟩ ?_)
  have ht : (Value.type "tuple" == Value.type "tuple") = true := by rfl
  rw [if_pos (by rw [ht]; simp)]
  refine wpAny_bind (listItems_at ho' hd ?_)
  refine wpAny_bind (listItems_at (xs := #[]) (n := 0) (Heap.get?_push_size _ rfl) rfl ?_)
  rw [if_neg (by simp)]
  refine wpAny_bind (listUpdate_at (xs := #[]) (n := 0) (Heap.get?_push_size _ rfl) rfl ?_ (Nat.zero_le _) (by show (#[] ++ vs.toArray).size ≤ sizeLine + 1; simp only [Array.size_append, List.size_toArray, List.length_nil]; omega))
  refine wpAny_pure ?_
  show wpAny (model prog w) A (do
      let o ← load s.heap.objs.size
      match o.data with
      | .seq xs _ => pure xs.toList
      | _ => unsupported "internal:collect") Q E { s with heap := (s.heap.push (seqObj "list" #[] 0)).update s.heap.objs.size (Obj.mapSeq (· ++ vs.toArray)) }
  refine wpAny_bind (wpAny_load (get?_update_seq (Heap.get?_push_size _ rfl) _) ?_)
  show wpAny _ _ (pure ((#[] : Array Value) ++ vs.toArray).toList) Q E _
  rw [show ((#[] : Array Value) ++ vs.toArray).toList = vs by simp]
  exact wpAny_pure h
/-- sorted(t): the new list stands at size + 1 -/
theorem sorted_ordT {prog : Program} {w : World} {A : Around} {E : Value → Shared → Prop} {s : Shared} {l : Addr} {vs : List Value} {ltv : Value → Value → Bool} {Q : Value → Shared → Prop} (O : SrtO.Swo ltv) (hl : IsTup s.heap l vs.toArray) (hz : vs.length ≤ sizeLine)
    (hS : 2 ≤ vs.length → ∀ (h₁ : Heap) (a : Addr), h₁.get? a = some (seqObj "list" vs.toArray 0) → (∀ b o, s.heap.get? b = some o → b ≠ a ∧ h₁.get? b = some o) → SrtO.SortableO prog w A.in1.in1 { s with heap := h₁ } a vs ltv)
    (h : ∀ out : List Value, SrtO.Srtd ltv out → SrtO.Stb ltv out vs → Q (.ref (s.heap.objs.size + 1)) { s with heap := sortedAll s.heap vs out.toArray }) :
    wpAny (model prog w) A (call (.builtin "sorted") [.ref l]) Q E s := by
  refine Calls.call_function_entry kind_sorted plain_sorted entry_sorted (args_sorted1 _) ?_
  unfold Builtin.«sorted»
  refine wpAny_bind (m := checkCount "sorted" 1 1 _) (wpAny_pure ?_)
  refine wpAny_bind (collect_tup hl ?_ hz)
  refine wpAny_bind (wpAny_newList ?_ hz)
  have hsz : ((s.heap.push (seqObj "list" #[] 0)).update s.heap.objs.size (Obj.mapSeq (· ++ vs.toArray))).objs.size = s.heap.objs.size + 1 := by
    rw [Heap.size_update, size_push']
  have hoL : (((s.heap.push (seqObj "list" #[] 0)).update s.heap.objs.size (Obj.mapSeq (· ++ vs.toArray))).push (seqObj "list" vs.toArray 0)).get? (s.heap.objs.size + 1) = some (seqObj "list" vs.toArray 0) := by
    rw [← hsz]; exact Heap.get?_push_size _ rfl
  have keep : ∀ b o, s.heap.get? b = some o → b ≠ s.heap.objs.size + 1 ∧ (((s.heap.push (seqObj "list" #[] 0)).update s.heap.objs.size (Obj.mapSeq (· ++ vs.toArray))).push (seqObj "list" vs.toArray 0)).get? b = some o := fun b o q => by
    have hlt : b < s.heap.objs.size := Heap.lt_size q
    refine ⟨Nat.ne_of_lt (Nat.lt_succ_of_lt hlt), Heap.get?_push_of_some _ ?_⟩
    rw [Heap.get?_update_ne _ _ _ _ (Nat.ne_of_lt hlt)]
    exact Heap.get?_push_of_some _ q
  show wpAny _ _ _ _ _ { s with heap := ((s.heap.push (seqObj "list" #[] 0)).update s.heap.objs.size (Obj.mapSeq (· ++ vs.toArray))).push (seqObj "list" vs.toArray 0) }
  rw [hsz]
  refine wpAny_bind (wpAny_holding (wpAny_call_entry slot_list_sort ⟨_, hoL, rfl⟩ entry_list_sort (SrtO.list_sort_ord O hoL hz (fun h2 => hS h2 _ _ hoL keep) fun out hs hb => ⟨_, rfl, ?_⟩) (args_list_sort _)))
  exact wpAny_pure ⟨_, rfl, h out hs hb⟩
section
variable {X : Cx}
/-- sorted(t), a tuple of ints -/
def rSortedTu (K : PySem.W.Frag) : List V → Hp → VK → Prop := fun vs H Q => ∃ (a : Addr) (ns : List Int), vs = [V.ref a] ∧ SqT K H a (ns.map V.int) ∧
  ∀ (ns' : List Int) (p : Addr), ns'.Perm ns → ns'.Pairwise (· ≤ ·) → H p = none → Q (.ref p) (upd H p (.lst (ns'.map V.int)))
theorem cr_sortedTu : CallR X (.builtin "sorted") (rSortedTu X.K) := by
  intro pins s σ H vs us Q I r h
  obtain ⟨a, ns, rfl, hs, q⟩ := h
  obtain ⟨its, rv, hl, hz⟩ := I.tuple hs
  rw [Vals.ref1 r]
  have hi := rv.ints
  refine sorted_ordT SrtO.swo_int hl (by rw [← rv.length]; exact hz) (fun h2 h₁ a' _ _ => SrtO.ints_sortable hi h2) fun out h1 h2 => ?_
  obtain ⟨k1, k2, k3⟩ := SrtO.ints_out hi h1 h2
  obtain ⟨ep, he'⟩ := PyProof.Rows.sortedAll_at s.heap its out.toArray
  have hlen : ((out.map SrtO.iv).map V.int).length ≤ sizeLine := by
    rw [List.length_map, k2.length_eq]
    rw [List.length_map] at hz
    exact hz
  exact ⟨.ref _, upd H (s.heap.objs.size + 1) (.lst ((out.map SrtO.iv).map V.int)), I.laid (t' := s.toks) (fun _ _ => PyProof.Rows.sortedAll_old) (Nat.le_succ _) ⟨hlen, out, ep, vals_of_ints k1, he'⟩, rfl, q _ _ k2 k3 (I.hok.fresh (Nat.le_succ _))⟩

/-- x in t, a tuple of data at any depth -/
def rInT (K : PySem.W.Frag) (neg : Bool) : R2 := fun x y H Q => ∃ d ds, Dp K H x d ∧ Dp K H y (.tuple ds) ∧ SeqAt.shaped d = true ∧ SeqAt.shaped (.tuple ds) = true ∧ Q (.bl (if neg then !ds.any fun z => PyData.eqv z d else ds.any fun z => PyData.eqv z d)) H
theorem shaped_lt {ds : List PyData} (h : SeqAt.shaped (.tuple ds) = true) : SeqAt.shaped (.list ds) = true := h
theorem op_inT (hu : X.A.units + 65 < cLine) : OpR X (compareOp .In) (rInT X.K false) := by
  intro pins s σ H x y v u Q I rx ry h
  obtain ⟨d, ds, hd, he, sd, se, q⟩ := h
  obtain ⟨as, r1⟩ := Dp.reads I d x v hd rx
  obtain ⟨bs, r2⟩ := Dp.reads I (.tuple ds) y u he ry
  exact SeqAt.in_tuple_reads r2 r1 (SeqAt.canLay_of_shaped (shaped_lt se)) (SeqAt.canLay_of_shaped sd) (room_in_shaped sd hu) ⟨.bl _, H, I, rfl, q⟩
theorem op_notInT (hu : X.A.units + 65 < cLine) : OpR X (compareOp .NotIn) (rInT X.K true) := by
  intro pins s σ H x y v u Q I rx ry h
  obtain ⟨d, ds, hd, he, sd, se, q⟩ := h
  obtain ⟨as, r1⟩ := Dp.reads I d x v hd rx
  obtain ⟨bs, r2⟩ := Dp.reads I (.tuple ds) y u he ry
  exact SeqAt.notIn_tuple_reads r2 r1 (SeqAt.canLay_of_shaped (shaped_lt se)) (SeqAt.canLay_of_shaped sd) (room_in_shaped sd hu) ⟨.bl _, H, I, rfl, q⟩
/-- t.count(x), data at any depth -/
def rCountT (K : PySem.W.Frag) : V → List V → Hp → VK → Prop := fun x xs H Q => ∃ y d ds, xs = [y] ∧ Dp K H x (.tuple ds) ∧ Dp K H y d ∧ SeqAt.shaped d = true ∧ SeqAt.shaped (.tuple ds) = true ∧ Q (.int (ds.countP fun z => PyData.eqv z d : Nat)) H
theorem mt_tcount (hu : X.A.units + 65 < cLine) : MtR X "tuple.count" (rCountT X.K) := by
  intro pins s σ H x xs v us Q I rx rxs h
  obtain ⟨y, d, ds, rfl, hx, hy, sd, se, q⟩ := h
  obtain ⟨u, rfl, ru⟩ := rxs.one
  obtain ⟨bs, r1⟩ := Dp.reads I d y u hy ru
  cases hx with
  | @tup a vs _ ht ha =>
    cases rx
    obtain ⟨its, rv, hl, _⟩ := I.tuple ht
    obtain ⟨as, r2⟩ := Dp.readsAll I ds _ its ha rv
    have c := SeqAt.canLay_of_shaped (shaped_lt se)
    have c2 := SeqAt.canLay_of_shaped sd
    exact SeqAt.count_tuple_data hl r2 r1 (PyData.plainAll_of_canLay0 _ c) (PyData.plain_of_canLay0 _ c2) (room_in_shaped sd hu) ⟨.int _, H, I.tok _, ⟨_, rfl⟩, q⟩
/-- tuple(l), the new tuple by its object -/
def rTupF : List V → Hp → VK → Prop := fun xs H Q => ∃ p ys, xs = [V.ref p] ∧ H p = some (.lst ys) ∧ ∀ l (o : Obj), H l = none → o.dict = none → Q (.ref l) (upd H l (.frz o (.tup ys)))
theorem call_tupF : CallR X (.type "tuple") rTupF := by
  intro pins s σ H xs us Q I r h
  obtain ⟨p, ys, rfl, h1, q⟩ := h
  rw [Vals.ref1 r]
  obtain ⟨its, r', pl, hz⟩ := I.list (SqL.of h1)
  have hlen := r'.length
  refine call_tuple_list pl.isList (fun h' kp => ?_) (by simp only [List.size_toArray] <;> omega)
  have I1 : Inv X pins σ H { s with heap := h' } := I.kept (t' := s.toks) kp
  have I2 : Inv X pins σ (upd H h'.objs.size (.frz { cls := .type "tuple", data := .seq its.toArray } (.tup ys))) { s with heap := h'.push { cls := .type "tuple", data := .seq its.toArray } } :=
    I1.laid (t' := s.toks) (fun b o e => Heap.get?_push_of_some _ e) (Nat.le_refl _) (show ObjOk X.prog X.w _ _ _ (.frz { cls := .type "tuple", data := .seq its.toArray } (.tup ys)) from ⟨Heap.get?_push_size _ rfl, hz, its, r', IsTup.new _ _⟩)
  exact ⟨.ref h'.objs.size, _, I2, rfl, q _ _ (I1.hok.fresh (Nat.le_refl _)) rfl⟩
/-- max of three ints -/
theorem call_max3I (hc : X.calm = true) : CallR X (.builtin "max") (fun xs H Q => ∃ i j k, xs = [.int i, .int j, .int k] ∧ Q (.int (maxI i [j, k])) H) := by
  intro pins s σ H xs us Q I r h
  obtain ⟨i, j, k, rfl, q⟩ := h
  refine call_max3Nu hc pins s σ H _ us Q I r ⟨.int i, .int j, .int k, .int (maxI i [j, k]), rfl, ?_, q⟩
  by_cases h1 : i < j <;> by_cases h2 : j < k <;> by_cases h3 : i < k <;> simp [nuMax3, nuMax2, nuLt, nuCB, maxI, h1, h2, h3] <;> omega
end
end MP
end
section
set_option Elab.async false
set_option linter.all false
set_option maxRecDepth 100000
set_option maxHeartbeats 4000000
/-! MPF: the operators' rules by data, each. -/
namespace MP
open PySem PySem.Spec PyProof.Rows L2

theorem Reps.flat_rep {K : PySem.W.Frag} {mg : Str → Option Value} {H : Hp} {ds : List D} {vs : List V} (h : Reps K mg H ds vs) : ∀ k : Nat, Reps K mg H (List.replicate k ds).flatten (List.replicate k vs).flatten
  | 0 => by simp only [List.replicate_zero, List.flatten_nil]; exact Reps.nil
  | k + 1 => by simp only [List.replicate_succ, List.flatten_cons]; exact h.append (h.flat_rep k)
theorem Reps.cut {K : PySem.W.Frag} {mg : Str → Option Value} {H : Hp} {ds : List D} {vs : List V} (h : Reps K mg H ds vs) (lo hi : Option Int) : Reps K mg H (cutD ds lo hi) (cutV vs lo hi) := by
  unfold cutD cutV
  rw [h.length]
  exact (h.drop _).take _

def rBin (K : PySem.W.Frag) : Bin → R2
  | .add => fun x y H Q => rI0 (fun i j => .int (i + j)) x y H Q ∨ rCatA K x y H Q ∨ rCat x y H Q
  | .sub => rI0 fun i j => .int (i - j)
  | .mul => fun x y H Q => rI (fun i j => mulOk i j = true) (fun i j => .int (i * j)) x y H Q ∨ rRepA K x y H Q ∨ rRep x y H Q
  | .fdiv => rI (fun _ j => j ≠ 0 ∧ j.natAbs.log2 < 9000) fun i j => .int (i.fdiv j)
  | .mod => rI (fun _ j => j ≠ 0) fun i j => .int (i.fmod j)
theorem op_bin {X : Cx} {o : Bin} {op : Operator} (h : opIs o op = true) : OpR X (binaryOp op) (rBin X.K o) := by
  cases o <;> cases op <;> first | (cases h; done) | skip
  · exact op_add.or (op_catA.or op_cat)
  · exact op_sub
  · exact op_mulA.or (op_repA.or op_rep)
  · exact op_fdivA
  · exact op_modN
section
variable {K : PySem.W.Frag} {mg : Str → Option Value}
theorem bin_ok (o : Bin) : OpOk K mg (r2of (rBin K o)) (fun ds => match ds with | [d, e] => binD o d e | _ => none) := by
  intro S H ds vs rd Q hS t f q
  match ds, t, f with
  | [d, e], t, f =>
    obtain ⟨v, u, rfl, tv, tu⟩ := t.two
    refine ⟨v, u, rfl, ?_⟩
    have f : binD o d e = some rd := f
    unfold binD at f
    split at f
    · cases f
      obtain rfl := tv.int
      obtain rfl := tu.int
      exact .inl ⟨_, _, rfl, rfl, q _ _ OpPost.int⟩
    · rename_i da db
      split at f
      · rename_i hs
        have hs := of_decide_eq_true hs
        cases f
        obtain ⟨a, xs, rfl, h1, r1⟩ := tv.tup
        obtain ⟨b, ys, rfl, h2, r2⟩ := tu.tup
        refine .inr (.inl ⟨a, b, xs, ys, rfl, rfl, SqT.of h1, SqT.of h2, by rw [← r1.length, ← r2.length]; exact hs, fun e => ?_, fun _ e => ?_, fun _ _ p hp => q _ _ (OpPost.tup hS hp (r1.append r2))⟩)
        · subst e
          have z := r1.length
          simp only [List.length_nil, List.length_eq_zero_iff] at z
          subst z
          refine q _ _ ⟨Same.refl H, ?_⟩
          simp only [Rep, List.nil_append]
          exact ⟨b, ys, rfl, msk_some.mpr ⟨fun z => by obtain ⟨o, e, m⟩ := hS b z; rw [h2] at e; cases e; exact m, h2⟩, r2⟩
        · subst e
          have z := r2.length
          simp only [List.length_nil, List.length_eq_zero_iff] at z
          subst z
          refine q _ _ ⟨Same.refl H, ?_⟩
          simp only [Rep, List.append_nil]
          exact ⟨a, xs, rfl, msk_some.mpr ⟨fun z => by obtain ⟨o, e, m⟩ := hS a z; rw [h1] at e; cases e; exact m, h1⟩, r1⟩
      · cases f
    · split at f
      · rename_i hs
        have hs := of_decide_eq_true hs
        cases f
        obtain ⟨a, xs, rfl, h1, r1⟩ := tv.lst
        obtain ⟨b, ys, rfl, h2, r2⟩ := tu.lst
        exact .inr (.inr ⟨a, b, xs, ys, rfl, rfl, h1, h2, by rw [← r1.length, ← r2.length]; exact hs, fun p hp => q _ _ (OpPost.lst hp (r1.append r2))⟩)
      · cases f
    · cases f
      obtain rfl := tv.int
      obtain rfl := tu.int
      exact ⟨_, _, rfl, rfl, q _ _ OpPost.int⟩
    · split at f
      · rename_i hs
        cases f
        obtain rfl := tv.int
        obtain rfl := tu.int
        exact .inl ⟨_, _, rfl, rfl, hs, q _ _ OpPost.int⟩
      · cases f
    · split at f
      · rename_i hs
        cases f
        simp only [Bool.and_eq_true, decide_eq_true_eq] at hs
        obtain ⟨a, xs, rfl, h1, r1⟩ := tv.tup
        obtain rfl := tu.int
        refine .inr (.inl ⟨a, _, xs, rfl, rfl, h1, hs.1.1, hs.1.2, by rw [← r1.length]; exact hs.2, fun e => ?_, fun _ p hp => q _ _ (OpPost.tup hS hp (r1.flat_rep _))⟩)
        refine q _ _ ⟨Same.refl H, ?_⟩
        simp only [Rep]
        refine ⟨a, xs, rfl, msk_some.mpr ⟨fun z => by obtain ⟨o, e, m⟩ := hS a z; rw [h1] at e; cases e; exact m, h1⟩, ?_⟩
        rcases e with e | e
        · subst e
          have z := r1.length
          simp only [List.length_nil, List.length_eq_zero_iff] at z
          subst z
          rw [List.flatten_replicate_nil]
          exact Reps.nil
        · subst e
          simpa using r1
      · cases f
    · split at f
      · rename_i hs
        cases f
        simp only [Bool.and_eq_true, decide_eq_true_eq] at hs
        obtain ⟨a, xs, rfl, h1, r1⟩ := tv.lst
        obtain rfl := tu.int
        refine .inr (.inr ⟨a, _, xs, rfl, rfl, h1, by omega, by omega, ?_, fun p hp => q _ _ (OpPost.lst hp (r1.flat_rep _))⟩)
        rw [← r1.length, sizeLine_eq]
        exact Nat.le_trans (Nat.mul_le_mul hs.2 (show _ ≤ 1000 by omega)) (by decide)
      · cases f
    · split at f
      · rename_i hs
        cases f
        unfold divOk at hs
        simp only [Bool.and_eq_true, decide_eq_true_eq] at hs
        obtain rfl := tv.int
        obtain rfl := tu.int
        exact ⟨_, _, rfl, rfl, hs, q _ _ OpPost.int⟩
      · cases f
    · split at f
      · rename_i hs
        cases f
        obtain rfl := tv.int
        obtain rfl := tu.int
        exact ⟨_, _, rfl, rfl, hs, q _ _ OpPost.int⟩
      · cases f
    · cases f
end
end MP
end
section
set_option Elab.async false
set_option linter.all false
set_option maxRecDepth 100000
set_option maxHeartbeats 4000000
/-! MPG: comparisons, items, slices, built-ins by data. -/
namespace MP
open PySem PySem.Spec PyProof.Rows L2

def rCmp (K : PySem.W.Frag) : Cmp → R2
  | .eq => rEqD K
  | .ne => rNeD K
  | .lt => rI0 fun i j => .bl (decide (i < j))
  | .le => rI0 fun i j => .bl (decide (i ≤ j))
  | .gt => rI0 fun i j => .bl (decide (j < i))
  | .ge => rI0 fun i j => .bl (decide (j ≤ i))
  | .isN => fun x y H Q => y = .non ∧ Q (.bl (decide (x = .non))) H
  | .notN => fun x y H Q => y = .non ∧ Q (.bl (!decide (x = .non))) H
  | .isin => fun x y H Q => rInD K x y H Q ∨ rInT K false x y H Q
  | .notin => fun x y H Q => rNotInD K x y H Q ∨ rInT K true x y H Q
theorem op_cmp {X : Cx} {o : Cmp} {op : CmpOp} (hu : X.A.units + 65 < cLine) (h : cmpIs o op = true) : OpR X (compareOp op) (rCmp X.K o) := by
  cases o <;> cases op <;> first | (cases h; done) | skip
  · exact op_eqD (by omega)
  · exact op_neD (by omega)
  · exact op_lt
  · exact op_le
  · exact op_gt
  · exact op_ge
  · exact op_isN
  · exact op_notN
  · exact (op_inD hu).or (op_inT hu)
  · exact (op_notInD hu).or (op_notInT hu)
theorem pyEq_some {a b : D} {c : Bool} (h : pyEq a b = some c) : ∃ p q, a.py = some p ∧ b.py = some q ∧ SeqAt.shaped p = true ∧ SeqAt.shaped q = true ∧ c = PyData.eqv p q := by
  unfold pyEq at h
  cases ha : a.py with
  | none => rw [ha] at h; cases h
  | some p =>
    cases hb : b.py with
    | none => rw [ha, hb] at h; cases h
    | some q =>
      rw [ha, hb] at h
      simp only [Option.bind_some] at h
      split at h
      · rename_i hs
        rw [Bool.and_eq_true] at hs
        exact ⟨p, q, rfl, rfl, hs.1, hs.2, (Option.some.inj h).symm⟩
      · cases h
section
variable {K : PySem.W.Frag} {mg : Str → Option Value} {S : Addr → Prop} {H : Hp}
theorem inD_some {x y : D} {c : Bool} (h : inD x y = some c) : ∃ d ps, x.py = some d ∧ SeqAt.shaped d = true ∧ c = (ps.any fun z => PyData.eqv z d) ∧
    ((∃ l, y = .lst l ∧ pys l = some ps ∧ SeqAt.shaped (.list ps) = true) ∨ (∃ l, (y = .tup l ∨ y = .tf l) ∧ pys l = some ps ∧ SeqAt.shaped (.tuple ps) = true)) := by
  cases y <;> simp only [inD, reduceCtorEq] at h
  all_goals
    cases hx : x.py with
    | none => rw [hx] at h; cases h
    | some d =>
      rw [hx] at h
      rename_i l
      cases hl : pys l with
      | none => rw [hl] at h; cases h
      | some ps =>
        rw [hl] at h
        simp only [Option.bind_some] at h
        split at h
        · rename_i hs
          rw [Bool.and_eq_true] at hs
          refine ⟨d, ps, rfl, hs.1, (Option.some.inj h).symm, ?_⟩
          first | exact .inl ⟨l, rfl, hl, hs.2⟩ | exact .inr ⟨l, .inl rfl, hl, hs.2⟩ | exact .inr ⟨l, .inr rfl, hl, hs.2⟩
        · cases h
theorem Top.notNon {d : D} {v : V} (h : Top K mg S H d v) : decide (v = .non) = (match d with | .non => true | _ => false) := by
  cases d with
  | non => obtain rfl := h.non; rfl
  | bl b => obtain rfl := h.bl; rfl
  | int b => obtain rfl := h.int; rfl
  | str b => obtain rfl := h.str; rfl
  | tup l => obtain ⟨a, vs, rfl, _⟩ := h.tup; rfl
  | lst l => obtain ⟨a, vs, rfl, _⟩ := h.lst; rfl
  | fz l => obtain ⟨a, vs, rfl, _⟩ := h.fz; rfl
  | tf l => obtain ⟨a, vs, o, rfl, _⟩ := h.tf; rfl
  | dK ks l => simp only [Top] at h; obtain ⟨a, vs, rfl, _⟩ := h; rfl
  | dT ks l => simp only [Top] at h; obtain ⟨a, vs, rfl, _⟩ := h; rfl
  | ins c fs l => simp only [Top] at h; obtain ⟨a, C, dx, vs, rfl, _⟩ := h; rfl
  | gl x => obtain ⟨f, rfl, _⟩ := h.gl; rfl
  | ty n => obtain rfl := h.ty; rfl
theorem cmp_ok (o : Cmp) : OpOk K mg (r2of (rCmp K o)) (fun ds => match ds with | [d, e] => (cmpD o d e).map fun b => .val (.bl b) | _ => none) := by
  intro S H ds vs rd Q hS t f q
  match ds, t, f with
  | [d, e], t, f =>
    obtain ⟨v, u, rfl, tv, tu⟩ := t.two
    refine ⟨v, u, rfl, ?_⟩
    have f : (cmpD o d e).map (fun b => R.val (.bl b)) = some rd := f
    cases hc : cmpD o d e with
    | none => rw [hc] at f; cases f
    | some b =>
      rw [hc] at f
      simp only [Option.map_some, Option.some.injEq] at f
      subst f
      clear t
      unfold cmpD at hc
      split at hc
      · obtain ⟨p, r, h1, h2, h3, h4, rfl⟩ := pyEq_some hc
        exact ⟨p, r, Rep.dp tv.rep h1, Rep.dp tu.rep h2, h3, h4, q _ _ OpPost.bl⟩
      · cases hp : pyEq d e with
        | none => rw [hp] at hc; cases hc
        | some c =>
          rw [hp] at hc
          simp only [Option.map_some, Option.some.injEq] at hc
          subst hc
          obtain ⟨p, r, h1, h2, h3, h4, rfl⟩ := pyEq_some hp
          exact ⟨p, r, Rep.dp tv.rep h1, Rep.dp tu.rep h2, h3, h4, q _ _ OpPost.bl⟩
      · cases hc; obtain rfl := tv.int; obtain rfl := tu.int; exact ⟨_, _, rfl, rfl, q _ _ OpPost.bl⟩
      · cases hc; obtain rfl := tv.int; obtain rfl := tu.int; exact ⟨_, _, rfl, rfl, q _ _ OpPost.bl⟩
      · cases hc; obtain rfl := tv.int; obtain rfl := tu.int; exact ⟨_, _, rfl, rfl, q _ _ OpPost.bl⟩
      · cases hc; obtain rfl := tv.int; obtain rfl := tu.int; exact ⟨_, _, rfl, rfl, q _ _ OpPost.bl⟩
      · cases hc; obtain rfl := tv.non; obtain rfl := tu.non; exact ⟨rfl, q _ _ OpPost.bl⟩
      · rename_i hn
        cases hc; obtain rfl := tu.non
        refine ⟨rfl, ?_⟩
        rw [tv.notNon]
        cases d <;> first | exact q _ _ OpPost.bl | exact (hn rfl).elim
      · cases hc; obtain rfl := tv.non; obtain rfl := tu.non; exact ⟨rfl, q _ _ OpPost.bl⟩
      · rename_i hn
        cases hc; obtain rfl := tu.non
        refine ⟨rfl, ?_⟩
        rw [tv.notNon]
        cases d <;> first | exact q _ _ OpPost.bl | exact (hn rfl).elim
      · obtain ⟨p, ps, h1, h2, rfl, h3⟩ := inD_some hc
        rcases h3 with ⟨l, rfl, h4, h5⟩ | ⟨l, rfl | rfl, h4, h5⟩
        · exact .inl ⟨p, ps, Rep.dp tv.rep h1, Rep.dp tu.rep (by simp only [D.py, h4, Option.map_some]), h2, h5, q _ _ OpPost.bl⟩
        · exact .inr ⟨p, ps, Rep.dp tv.rep h1, Rep.dp tu.rep (by simp only [D.py, h4, Option.map_some]), h2, h5, q _ _ OpPost.bl⟩
        · exact .inr ⟨p, ps, Rep.dp tv.rep h1, Rep.dp tu.rep (by simp only [D.py, h4, Option.map_some]), h2, h5, q _ _ OpPost.bl⟩
      · cases hp : inD d e with
        | none => rw [hp] at hc; cases hc
        | some c =>
          rw [hp] at hc
          simp only [Option.map_some, Option.some.injEq] at hc
          subst hc
          obtain ⟨p, ps, h1, h2, rfl, h3⟩ := inD_some hp
          rcases h3 with ⟨l, rfl, h4, h5⟩ | ⟨l, rfl | rfl, h4, h5⟩
          · exact .inl ⟨p, ps, Rep.dp tv.rep h1, Rep.dp tu.rep (by simp only [D.py, h4, Option.map_some]), h2, h5, q _ _ OpPost.bl⟩
          · exact .inr ⟨p, ps, Rep.dp tv.rep h1, Rep.dp tu.rep (by simp only [D.py, h4, Option.map_some]), h2, h5, q _ _ OpPost.bl⟩
          · exact .inr ⟨p, ps, Rep.dp tv.rep h1, Rep.dp tu.rep (by simp only [D.py, h4, Option.map_some]), h2, h5, q _ _ OpPost.bl⟩
      · cases hc

/-! ### items, slices -/
theorem atI_map {ds : List D} {vs : List V} {i : Int} {d : D} (h : Reps K mg (msk S H) ds vs) (e : atI ds i = some d) : ∃ v, atI vs i = some v ∧ Rep K mg (msk S H) d v := by
  unfold atI at e ⊢
  rw [← h.length]
  cases hi : ixN ds.length i with
  | none => rw [hi] at e; cases e
  | some j =>
    rw [hi] at e
    simp only [Option.bind_some] at e ⊢
    exact h.get e
theorem ix_ok : OpOk K mg (r2of (rIx K)) (fun ds => match ds with | [d, e] => ixD d e | _ => none) := by
  intro S H ds vs rd Q hS t f q
  match ds, t, f with
  | [d, e], t, f =>
    obtain ⟨v, u, rfl, tv, tu⟩ := t.two
    refine ⟨v, u, rfl, ?_⟩
    have f : ixD d e = some rd := f
    unfold ixD at f
    split at f
    · obtain ⟨x, hm, rfl⟩ := Option.map_eq_some_iff.mp f
      · obtain rfl := tu.int
        obtain ⟨a, xs, rfl, h1, r1⟩ := tv.tup
        obtain ⟨v, e1, e2⟩ := atI_map r1 hm
        exact .inr (.inl ⟨a, xs, _, v, rfl, rfl, SqT.of h1, e1, q _ _ (OpPost.flat e2)⟩)
    · obtain ⟨x, hm, rfl⟩ := Option.map_eq_some_iff.mp f
      · obtain rfl := tu.int
        obtain ⟨a, xs, rfl, h1, r1⟩ := tv.lst
        obtain ⟨v, e1, e2⟩ := atI_map r1 hm
        exact .inl ⟨a, xs, _, v, rfl, rfl, SqL.of h1, e1, q _ _ (OpPost.flat e2)⟩
    · obtain ⟨x, hm, rfl⟩ := Option.map_eq_some_iff.mp f
      · obtain rfl := tu.int
        obtain ⟨a, xs, rfl, h1, r1⟩ := tv.fz
        obtain ⟨v, e1, e2⟩ := atI_map r1 hm
        exact .inl ⟨a, xs, _, v, rfl, rfl, h1, e1, q _ _ (OpPost.flat e2)⟩
    · obtain ⟨x, hm, rfl⟩ := Option.map_eq_some_iff.mp f
      · obtain rfl := tu.int
        obtain ⟨a, xs, o, rfl, h1, _, r1⟩ := tv.tf
        obtain ⟨v, e1, e2⟩ := atI_map r1 hm
        exact .inr (.inl ⟨a, xs, _, v, rfl, rfl, .inl (.inr ⟨o, h1⟩), e1, q _ _ (OpPost.flat e2)⟩)
    · cases f
/-- a slice, by what it asks at the end -/
theorem sl_ok {d : D} {v : V} {lo hi : Option Int} {rd : R} {Q : VK} (hS : ∀ a, S a → ∃ o, H a = some o ∧ MutO o) (t : Top K mg S H d v) (f : slD d lo hi = some rd) (q : ∀ v H3, OpPost K mg S H H3 v rd → Q v H3) :
    rSlA K v lo hi H Q ∨ rSlL K v lo hi H Q := by
  unfold slD at f
  split at f
  · cases f
    obtain ⟨a, xs, rfl, h1, r1⟩ := t.tup
    refine .inl ⟨a, xs, rfl, SqT.of h1, fun e => q _ _ ⟨Same.refl H, ?_⟩, fun _ p hp => q _ _ (OpPost.tup hS hp (r1.cut lo hi))⟩
    simp only [Rep]
    refine ⟨a, xs, rfl, msk_some.mpr ⟨fun z => by obtain ⟨o, e, m⟩ := hS a z; rw [h1] at e; cases e; exact m, h1⟩, ?_⟩
    have c := r1.cut lo hi
    have e2 : cutV xs lo hi = xs := by
      unfold cutV
      rw [e.1, e.2]
      simp
    rw [e2] at c
    exact c
  · cases f
    obtain ⟨a, xs, rfl, h1, r1⟩ := t.lst
    exact .inr ⟨a, xs, rfl, SqL.of h1, fun p hp => q _ _ (OpPost.lst hp (r1.cut lo hi))⟩
  · cases f
    obtain ⟨a, xs, rfl, h1, r1⟩ := t.fz
    exact .inr ⟨a, xs, rfl, h1, fun p hp => q _ _ (OpPost.lst hp (r1.cut lo hi))⟩
  · cases f
end
end MP
end
section
set_option Elab.async false
set_option linter.all false
set_option maxRecDepth 100000
set_option maxHeartbeats 4000000
/-! MPH: the built-ins by data. -/
namespace MP
open PySem PySem.Spec PyProof.Rows L2

/-! ### sorted, greatest, least -/
theorem insI_perm (x : Int) : ∀ l : List Int, (insI x l).Perm (x :: l)
  | [] => List.Perm.refl _
  | y :: r => by
    unfold insI
    split
    · exact List.Perm.refl _
    · exact ((insI_perm x r).cons y).trans (List.Perm.swap _ _ _)
theorem sortI_perm : ∀ l : List Int, (sortI l).Perm l
  | [] => List.Perm.refl _
  | x :: r => by
    unfold sortI
    exact (insI_perm x _).trans ((sortI_perm r).cons x)
theorem insI_sorted (x : Int) : ∀ l : List Int, l.Pairwise (· ≤ ·) → (insI x l).Pairwise (· ≤ ·)
  | [], _ => by simp [insI]
  | y :: r, h => by
    unfold insI
    obtain ⟨h1, h2⟩ := List.pairwise_cons.mp h
    split
    · rename_i hx
      refine List.pairwise_cons.mpr ⟨fun z hz => ?_, h⟩
      rcases List.mem_cons.mp hz with rfl | hz
      · exact hx
      · exact Int.le_trans hx (h1 z hz)
    · rename_i hx
      refine List.pairwise_cons.mpr ⟨fun z hz => ?_, insI_sorted x r h2⟩
      have hz2 := (insI_perm x r).mem_iff.mp hz
      rcases List.mem_cons.mp hz2 with rfl | hz2
      · omega
      · exact h1 z hz2
theorem sortI_sorted : ∀ l : List Int, (sortI l).Pairwise (· ≤ ·)
  | [] => List.Pairwise.nil
  | x :: r => insI_sorted x _ (sortI_sorted r)
theorem sorted_unique : ∀ {l m : List Int}, l.Perm m → l.Pairwise (· ≤ ·) → m.Pairwise (· ≤ ·) → l = m
  | [], m, p, _, _ => (List.Perm.nil_eq p)
  | x :: l, [], p, _, _ => by have := p.length_eq; simp at this
  | x :: l, y :: m, p, h1, h2 => by
    obtain ⟨a1, a2⟩ := List.pairwise_cons.mp h1
    obtain ⟨b1, b2⟩ := List.pairwise_cons.mp h2
    have e : x = y := by
      have hx : x ∈ y :: m := p.mem_iff.mp (List.mem_cons_self)
      have hy : y ∈ x :: l := p.mem_iff.mpr (List.mem_cons_self)
      rcases List.mem_cons.mp hx with e | hx
      · exact e
      · rcases List.mem_cons.mp hy with e | hy
        · exact e.symm
        · exact Int.le_antisymm (a1 y hy) (b1 x hx)
    subst e
    rw [sorted_unique (List.Perm.cons_inv p) a2 b2]
theorem sortI_eq {l m : List Int} (p : m.Perm l) (h : m.Pairwise (· ≤ ·)) : m = sortI l := sorted_unique (p.trans (sortI_perm l).symm) h (sortI_sorted l)
theorem maxI_le : ∀ (l : List Int) (m : Int), m ≤ maxI m l ∧ (∀ y ∈ l, y ≤ maxI m l) ∧ (maxI m l = m ∨ maxI m l ∈ l)
  | [], m => ⟨Int.le_refl _, by simp, .inl rfl⟩
  | x :: r, m => by
    unfold maxI
    obtain ⟨h1, h2, h3⟩ := maxI_le r (if x > m then x else m)
    refine ⟨by split at h1 <;> split <;> omega, fun y hy => ?_, ?_⟩
    · rcases List.mem_cons.mp hy with rfl | hy
      · split at h1 <;> split <;> omega
      · exact h2 y hy
    · rcases h3 with h3 | h3
      · rw [h3]
        split
        · exact .inr List.mem_cons_self
        · exact .inl rfl
      · exact .inr (List.mem_cons_of_mem _ h3)
theorem minI_le : ∀ (l : List Int) (m : Int), minI m l ≤ m ∧ (∀ y ∈ l, minI m l ≤ y) ∧ (minI m l = m ∨ minI m l ∈ l)
  | [], m => ⟨Int.le_refl _, by simp, .inl rfl⟩
  | x :: r, m => by
    unfold minI
    obtain ⟨h1, h2, h3⟩ := minI_le r (if x < m then x else m)
    refine ⟨by split at h1 <;> split <;> omega, fun y hy => ?_, ?_⟩
    · rcases List.mem_cons.mp hy with rfl | hy
      · split at h1 <;> split <;> omega
      · exact h2 y hy
    · rcases h3 with h3 | h3
      · rw [h3]
        split
        · exact .inr List.mem_cons_self
        · exact .inl rfl
      · exact .inr (List.mem_cons_of_mem _ h3)

def Blt.val : Blt → Value
  | .abs => .builtin "abs" | .len => .builtin "len" | .int => .type "int" | .list => .type "list" | .tuple => .type "tuple" | .tupleF => .type "tuple" | .sorted => .builtin "sorted" | .sum => .builtin "sum" | .max => .builtin "max" | .min => .builtin "min" | .any => .builtin "any" | .all => .builtin "all" | .isi => .builtin "isinstance"
theorem boot_blt (b : Blt) : bootBuiltins b.name = some b.val := by cases b <;> decide +kernel
def rBlt (K : PySem.W.Frag) : Blt → List V → Hp → VK → Prop
  | .abs => fun xs H Q => ∃ i, xs = [.int i] ∧ Q (.int (if i < 0 then -i else i)) H
  | .len => fun xs H Q => ∃ x n, xs = [x] ∧ LenV K x H n ∧ Q (.int n) H
  | .int => fun xs H Q => (∃ i, xs = [.int i] ∧ Q (.int i) H) ∨ ∃ k, xs = [.bl k] ∧ Q (.int (if k then 1 else 0)) H
  | .list => fun xs H Q => ∃ p ys, xs = [.ref p] ∧ (SqL K H p ys ∨ SqT K H p ys) ∧ ∀ l, H l = none → Q (.ref l) (upd H l (.lst ys))
  | .tuple => fun xs H Q => ∃ p ys, xs = [.ref p] ∧ ((SqL K H p ys ∧ ∀ l, H l = none → Q (.ref l) (upd H l (.tup ys))) ∨ (SqT K H p ys ∧ Q (.ref p) H))
  | .tupleF => rTupF
  | .sorted => fun xs H Q => rSortedI K xs H Q ∨ rSortedTu K xs H Q
  | .sum => rSum K
  | .max => fun xs H Q => rMax K xs H Q ∨ (∃ i j, xs = [.int i, .int j] ∧ Q (.int (if j > i then j else i)) H) ∨ (∃ i j k, xs = [.int i, .int j, .int k] ∧ Q (.int (maxI i [j, k])) H)
  | .min => fun xs H Q => rMin K xs H Q ∨ (∃ i j, xs = [.int i, .int j] ∧ Q (.int (if j < i then j else i)) H)
  | .any => rAny K
  | .all => rAll K
  | .isi => rIsi K
theorem call_blt {X : Cx} (hc : X.calm = true) (b : Blt) : CallR X b.val (rBlt X.K b) := by
  cases b
  · exact call_abs
  · exact call_len
  · exact call_int1
  · exact call_list_of
  · exact call_tuple_of
  · exact call_tupF
  · exact cr_sortedI.or cr_sortedTu
  · exact cr_sum hc
  · exact (cr_max hc).or ((call_max2 hc).or (call_max3I hc))
  · exact (cr_min hc).or (call_min2 hc)
  · exact cr_any hc
  · exact cr_all hc
  · exact call_isi

section
variable {K : PySem.W.Frag} {mg : Str → Option Value} {S : Addr → Prop} {H : Hp}
/-- a sequence's items as they stand -/
theorem Top.seq {d : D} {v : V} {l : List D} (h : Top K mg S H d v) (e : seq? d = some l) : ∃ a vs, v = .ref a ∧ (SqL K H a vs ∨ SqT K H a vs) ∧ Reps K mg (msk S H) l vs := by
  cases d <;> simp only [seq?, Option.some.injEq, reduceCtorEq] at e
  · subst e; obtain ⟨a, vs, rfl, h1, r⟩ := h.tup; exact ⟨a, vs, rfl, .inr (SqT.of h1), r⟩
  · subst e; obtain ⟨a, vs, rfl, h1, r⟩ := h.lst; exact ⟨a, vs, rfl, .inl (SqL.of h1), r⟩
  · subst e; obtain ⟨a, vs, rfl, h1, r⟩ := h.fz; exact ⟨a, vs, rfl, .inl h1, r⟩
  · subst e; obtain ⟨a, vs, o, rfl, h1, _, r⟩ := h.tf; exact ⟨a, vs, rfl, .inr (.inl (.inr ⟨o, h1⟩)), r⟩
theorem tuple_private {a : Addr} {vs : List V} (hS : ∀ a, S a → ∃ o, H a = some o ∧ MutO o) (h : H a = some (.tup vs)) : msk S H a = some (.tup vs) :=
  msk_some.mpr ⟨fun z => by obtain ⟨o, e, m⟩ := hS a z; rw [h] at e; cases e; exact m, h⟩
theorem Top.tyx {d : D} {v : V} {t : String} (h : Top K mg S H d v) (e : d.tyName = some t) : TyX K H v (.type t) := by
  cases d <;> simp only [D.tyName, Option.some.injEq, reduceCtorEq] at e <;> subst e
  · obtain rfl := h.non; exact .base .non
  · obtain rfl := h.bl; exact .base (.bl _)
  · obtain rfl := h.int; exact .base (.int _)
  · obtain rfl := h.str; exact .base (.str _)
  · obtain ⟨a, vs, rfl, h1, r⟩ := h.tup; exact .base (.tup h1)
  · obtain ⟨a, vs, rfl, h1, r⟩ := h.lst; exact .base (.lst h1)
  · obtain ⟨a, vs, rfl, h1, r⟩ := h.fz
    rcases h1 with (h1 | ⟨o, h1⟩) | ⟨o, its, n, h1, h2, _⟩
    · exact .base (.lst h1)
    · exact .base (.frz h1)
    · exact .kList h1 h2
  · obtain ⟨a, vs, o, rfl, h1, _, r⟩ := h.tf; exact .fTuple h1
  · simp only [Top] at h; obtain ⟨a, vs, rfl, h1, _⟩ := h; exact .base (.dK h1)
  · simp only [Top] at h; obtain ⟨a, vs, rfl, h1, _⟩ := h; exact .base (.dT h1)
def tyPairs : Bool := (["NoneType", "bool", "int", "str", "tuple", "list", "dict"] : List String).all fun t => (["bool", "int", "str", "tuple", "list", "dict"] : List String).all fun T => kitB t T == some (t == T || (t == "bool" && T == "int"))
theorem tyPairs_ok : tyPairs = true := by decide +kernel
theorem tyName_mem {d : D} {t : String} (e : d.tyName = some t) : t ∈ (["NoneType", "bool", "int", "str", "tuple", "list", "dict"] : List String) := by
  cases d <;> simp only [D.tyName, Option.some.injEq, reduceCtorEq] at e <;> subst e <;> simp
theorem isTy_kit {d : D} {t T : String} {b : Bool} (h : d.tyName = some t) (e : isTy t T = some b) : PySem.W.kitOne K (.type t) (.type T) = some b := by
  unfold isTy at e
  split at e
  · rename_i hT
    have h1 := tyPairs_ok
    unfold tyPairs at h1
    rw [List.all_eq_true] at h1
    have h2 := h1 t (tyName_mem h)
    rw [List.all_eq_true] at h2
    have h3 := h2 T (by simpa using hT)
    rw [beq_iff_eq] at h3
    cases e
    exact kit_ty h3
  · cases e
theorem blt_ok (b : Blt) : OpOk K mg (rBlt K b) (bltD b) := by
  intro S H ds vs rd Q hS t f q
  unfold bltD at f
  split at f
  · cases f
    obtain ⟨v, rfl, tv⟩ := t.one
    obtain rfl := tv.int
    exact ⟨_, rfl, q _ _ OpPost.int⟩
  · split at f
    · rename_i hs
      cases f
      obtain ⟨v, rfl, tv⟩ := t.one
      obtain rfl := tv.str
      exact ⟨_, _, rfl, ⟨of_decide_eq_true hs, rfl⟩, q _ _ OpPost.int⟩
    · cases f
  · obtain ⟨l, hl, rfl⟩ := Option.map_eq_some_iff.mp f
    obtain ⟨v, rfl, tv⟩ := t.one
    obtain ⟨a, xs, rfl, h1, r⟩ := tv.seq hl
    refine ⟨_, l.length, rfl, ?_, q _ _ OpPost.int⟩
    rw [r.length]
    rcases h1 with h1 | h1
    · exact .inl ⟨xs, h1, rfl⟩
    · exact .inr ⟨xs, h1, rfl⟩
  · cases f
    obtain ⟨v, rfl, tv⟩ := t.one
    obtain rfl := tv.int
    exact .inl ⟨_, rfl, q _ _ OpPost.int⟩
  · cases f
    obtain ⟨v, rfl, tv⟩ := t.one
    obtain rfl := tv.bl
    exact .inr ⟨_, rfl, q _ _ OpPost.int⟩
  · obtain ⟨l, hl, rfl⟩ := Option.map_eq_some_iff.mp f
    obtain ⟨v, rfl, tv⟩ := t.one
    obtain ⟨a, xs, rfl, h1, r⟩ := tv.seq hl
    refine ⟨a, xs, rfl, ?_, fun p hp => q _ _ (OpPost.lst hp r)⟩
    rcases h1 with h1 | h1
    · exact .inl h1
    · exact .inr h1
  · cases f
    obtain ⟨v, rfl, tv⟩ := t.one
    obtain ⟨a, xs, o, rfl, h1, hn, r⟩ := tv.tf
    refine ⟨a, xs, rfl, .inr ⟨.inl (.inr ⟨o, h1⟩), q _ _ ⟨Same.refl H, ?_⟩⟩⟩
    simp only [Rep]
    exact ⟨a, xs, o, rfl, msk_some.mpr ⟨fun z => by obtain ⟨o, e, m⟩ := hS a z; rw [h1] at e; cases e; exact m, h1⟩, hn, r⟩
  · rename_i hnt
    obtain ⟨l, hl, rfl⟩ := Option.map_eq_some_iff.mp f
    obtain ⟨v, rfl, tv⟩ := t.one
    rename_i d
    cases d <;> simp only [seq?, Option.some.injEq, reduceCtorEq] at hl
    · subst hl
      obtain ⟨a, xs, rfl, h1, r⟩ := tv.tup
      refine ⟨a, xs, rfl, .inr ⟨SqT.of h1, q _ _ ⟨Same.refl H, ?_⟩⟩⟩
      simp only [Rep]
      exact ⟨a, xs, rfl, tuple_private hS h1, r⟩
    · subst hl
      obtain ⟨a, xs, rfl, h1, r⟩ := tv.lst
      exact ⟨a, xs, rfl, .inl ⟨SqL.of h1, fun p hp => q _ _ (OpPost.tup hS hp r)⟩⟩
    · subst hl
      obtain ⟨a, xs, rfl, h1, r⟩ := tv.fz
      exact ⟨a, xs, rfl, .inl ⟨h1, fun p hp => q _ _ (OpPost.tup hS hp r)⟩⟩
    · exact (hnt _ rfl).elim
  · cases f
    obtain ⟨v, rfl, tv⟩ := t.one
    obtain ⟨a, xs, rfl, h1, r⟩ := tv.lst
    refine ⟨a, xs, rfl, h1, fun p o hp ho => q _ _ ⟨same_upd hp, ?_⟩⟩
    simp only [Rep]
    refine ⟨p, xs, o, rfl, msk_some.mpr ⟨fun z => ?_, upd_same⟩, ho, r.mono (msk_mono (fun a z => .inl z) fun a o _ e => same_upd hp a o e)⟩
    obtain ⟨o, e, _⟩ := hS p z
    rw [hp] at e; cases e
  · obtain ⟨l, hl, f⟩ := Option.bind_eq_some_iff.mp f
    obtain ⟨ns, hn, rfl⟩ := Option.map_eq_some_iff.mp f
    obtain ⟨v, rfl, tv⟩ := t.one
    obtain ⟨a, xs, rfl, h1, r⟩ := tv.seq hl
    have e := r.ints hn
    subst e
    rcases h1 with h1 | h1
    · refine .inl ⟨a, ns, rfl, h1, fun ns' p hp1 hp2 hp => ?_⟩
      rw [sortI_eq hp1 hp2]
      exact q _ _ (OpPost.lst hp (Reps.of_ints _))
    · refine .inr ⟨a, ns, rfl, h1, fun ns' p hp1 hp2 hp => ?_⟩
      rw [sortI_eq hp1 hp2]
      exact q _ _ (OpPost.lst hp (Reps.of_ints _))
  · obtain ⟨ns, hn, rfl⟩ := Option.map_eq_some_iff.mp f
    obtain ⟨v, rfl, tv⟩ := t.one
    obtain ⟨a, xs, rfl, h1, r⟩ := tv.lst
    have e := r.ints hn
    subst e
    exact ⟨a, ns, rfl, SqL.of h1, q _ _ OpPost.int⟩
  · obtain ⟨ns, hn, f⟩ := Option.bind_eq_some_iff.mp f
    obtain ⟨v, rfl, tv⟩ := t.one
    obtain ⟨a, xs, rfl, h1, r⟩ := tv.lst
    have e := r.ints hn
    subst e
    cases ns with
    | nil => cases f
    | cons x ns =>
      cases f
      refine .inl ⟨a, x :: ns, rfl, SqL.of h1, by simp, fun m hm hle => ?_⟩
      obtain ⟨z1, z2, z3⟩ := maxI_le ns x
      have e : m = maxI x ns := by
        refine Int.le_antisymm ?_ ?_
        · rcases List.mem_cons.mp hm with rfl | hm
          · exact z1
          · exact z2 m hm
        · rcases z3 with z3 | z3
          · rw [z3]; exact hle _ List.mem_cons_self
          · exact hle _ (List.mem_cons_of_mem _ z3)
      rw [e]
      exact q _ _ OpPost.int
  · obtain ⟨ns, hn, f⟩ := Option.bind_eq_some_iff.mp f
    obtain ⟨v, rfl, tv⟩ := t.one
    obtain ⟨a, xs, rfl, h1, r⟩ := tv.lst
    have e := r.ints hn
    subst e
    cases ns with
    | nil => cases f
    | cons x ns =>
      cases f
      refine .inl ⟨a, x :: ns, rfl, SqL.of h1, by simp, fun m hm hle => ?_⟩
      obtain ⟨z1, z2, z3⟩ := minI_le ns x
      have e : m = minI x ns := by
        refine Int.le_antisymm ?_ ?_
        · rcases z3 with z3 | z3
          · rw [z3]; exact hle _ List.mem_cons_self
          · exact hle _ (List.mem_cons_of_mem _ z3)
        · rcases List.mem_cons.mp hm with rfl | hm
          · exact z1
          · exact z2 m hm
      rw [e]
      exact q _ _ OpPost.int
  · cases f
    obtain ⟨v, u, rfl, tv, tu⟩ := t.two
    obtain rfl := tv.int
    obtain rfl := tu.int
    exact .inr (.inl ⟨_, _, rfl, q _ _ OpPost.int⟩)
  · cases f
    obtain ⟨v, u, rfl, tv, tu⟩ := t.two
    obtain rfl := tv.int
    obtain rfl := tu.int
    exact .inr ⟨_, _, rfl, q _ _ OpPost.int⟩
  · cases f
    obtain ⟨v, u, w, rfl, tv, tu, tw⟩ := t.three
    obtain rfl := tv.int
    obtain rfl := tu.int
    obtain rfl := tw.int
    exact .inr (.inr ⟨_, _, _, rfl, q _ _ OpPost.int⟩)
  · obtain ⟨bs, hn, rfl⟩ := Option.map_eq_some_iff.mp f
    obtain ⟨v, rfl, tv⟩ := t.one
    obtain ⟨a, xs, rfl, h1, r⟩ := tv.lst
    have e := r.bls hn
    subst e
    exact ⟨a, bs, rfl, SqL.of h1, q _ _ OpPost.bl⟩
  · obtain ⟨bs, hn, rfl⟩ := Option.map_eq_some_iff.mp f
    obtain ⟨v, rfl, tv⟩ := t.one
    obtain ⟨a, xs, rfl, h1, r⟩ := tv.lst
    have e := r.bls hn
    subst e
    exact ⟨a, bs, rfl, SqL.of h1, q _ _ OpPost.bl⟩
  · obtain ⟨ty, hty, f⟩ := Option.bind_eq_some_iff.mp f
    obtain ⟨b, hb, rfl⟩ := Option.map_eq_some_iff.mp f
    obtain ⟨v, u, rfl, tv, tu⟩ := t.two
    obtain rfl := tu.ty
    exact ⟨v, _, .type ty, _, b, rfl, .ty _, tv.tyx hty, isTy_kit hty hb, q _ _ OpPost.bl⟩
  · cases f
end
end MP
end
section
set_option Elab.async false
set_option linter.all false
set_option maxRecDepth 100000
set_option maxHeartbeats 1000000
/-! MPI: readings by the evaluator; contexts; what a def promises. -/
namespace MP
open PySem PySem.Spec PyProof.Rows L2

/-- an exception as it lies -/
def XRep (K : PySem.W.Frag) (mg : Str → Option Value) (x : Exn) (cls : Value) (od : Option Addr) (H : Hp) : Prop :=
  mg x.c = some cls ∧ match x.fs with
    | none => od = none
    | some fs => D.flat.flats (fs.map (·.2)) = true ∧ ∃ d vs, od = some d ∧ H d = some (.xd ((fs.map (·.1)).zip vs)) ∧ Reps K mg H (fs.map (·.2)) vs

section
variable (K : PySem.W.Frag) (mg : Str → Option Value)
def TRes {β : Type} (W : Value → Option Addr → Hp → Prop) (P : Addr → Prop) (O : Nat → Option Addr) (H : Hp) (σ : L2.St) (env : Env) (res : RE (β × Env)) (k : β → Env → Hp → (Nat → Option Addr) → Prop) : Prop :=
  match res with
  | .ok z => ∀ H' O', Post K mg P O H σ env H' z.2 O' → k z.1 z.2 H' O'
  | .exc z => ∀ H' O' cls od, Post K mg P O H σ env H' z.2 O' → XRep K mg z.1 cls od H' → W cls od H'
  | .bad => False
end
section
variable {K : PySem.W.Frag} {mg : Str → Option Value} {W : Value → Option Addr → Hp → Prop} {P : Addr → Prop} {O O1 : Nat → Option Addr} {H H0 H1 : Hp} {σ : L2.St} {env env1 : Env}
theorem TRes.bind {β γ : Type} {res : RE (β × Env)} {f : β × Env → RE (γ × Env)} {k : γ → Env → Hp → (Nat → Option Addr) → Prop} (h : TRes K mg W P O H σ env (res.bind f) k) :
    TRes K mg W P O H σ env res (fun b env1 H1 O1 => Post K mg P O H σ env H1 env1 O1 ∧ TRes K mg W P O1 H1 σ env1 (f (b, env1)) k) := by
  cases res with
  | bad => exact h
  | exc z => exact h
  | ok z =>
    obtain ⟨b, env1⟩ := z
    intro H1 O1 p
    refine ⟨p, ?_⟩
    have h : TRes K mg W P O H σ env (f (b, env1)) k := h
    cases q : f (b, env1) with
    | bad => rw [q] at h; exact h
    | exc y =>
      rw [q] at h
      exact fun H2 O2 cls od p2 x => h H2 O2 cls od (p.trans p2) x
    | ok y =>
      rw [q] at h
      exact fun H2 O2 p2 => h H2 O2 (p.trans p2)
theorem TRes.imp {β : Type} {res : RE (β × Env)} {k k' : β → Env → Hp → (Nat → Option Addr) → Prop} (h : TRes K mg W P O H σ env res k) (i : ∀ b e H' O', Post K mg P O H σ env H' e O' → k b e H' O' → k' b e H' O') : TRes K mg W P O H σ env res k' := by
  cases res with
  | bad => exact h
  | exc z => exact h
  | ok z => exact fun H' O' p => i _ _ _ _ p (h H' O' p)
theorem ROk.dom {H' : Hp} {env' : Env} {O' : Nat → Option Addr} {v : V} {r : R} (hd : ∀ a o, H0 a = some o → ∃ o', H a = some o') (h : ROk K mg P H σ H' env' O' v r) : ROk K mg P H0 σ H' env' O' v r := by
  cases r with
  | val d => exact h
  | own i => exact h
  | fr d =>
    obtain ⟨p, e, hp, q⟩ := h
    refine ⟨p, e, ?_, q⟩
    cases z : H0 p with
    | none => rfl
    | some o =>
      obtain ⟨o', e'⟩ := hd p o z
      rw [hp] at e'; cases e'
/-- an operator's end, in the frame -/
theorem OpPost.fin {H3 : Hp} {v : V} {rd : R} (E : EnvOk K mg P O H σ env) (h : OpPost K mg (Priv P O) H H3 v rd) : Post K mg P O H σ env H3 env O ∧ ROk K mg P H σ H3 env O v rd := by
  cases rd with
  | val d => exact ⟨Post.same E h.1, h.2⟩
  | fr d =>
    obtain ⟨k, p, e, hp, ow⟩ := h
    obtain ⟨o, ho, m⟩ := ow.mut
    refine ⟨Post.same E k, p, e, hp, E.fresh k hp ho m, ow.mono (msk_mono (fun a z => .inl ?_) fun a o _ e => e)⟩
    rcases z with (z | z) | z
    · exact .inl (.inl z)
    · exact .inr z
    · exact .inl (.inr z)
  | own i => exact h.elim
theorem strict_go {r : List V → Hp → VK → Prop} {f : List D → Option R} {as : List A} {vs : List V} {Q : VK} (E : EnvOk K mg P O H σ env) (ak : AOks K mg P σ H O as vs) (ok : OpOk K mg r f) (hd : ∀ a o, H0 a = some o → ∃ o', H a = some o')
    (h : TRes K mg W P O H σ env (strict f as env) (fun rd env' H' O' => ∀ v, ROk K mg P H0 σ H' env' O' v rd → Q v H')) : r vs H Q := by
  unfold strict at h
  cases hds : derefs env as with
  | none => rw [hds] at h; exact h.elim
  | some ds =>
    rw [hds] at h
    simp only at h
    cases hf : f ds with
    | none => rw [hf] at h; exact h.elim
    | some rd =>
      rw [hf] at h
      refine ok _ H ds vs rd Q E.priv (ak.tops E hds) hf fun v H3 op => ?_
      obtain ⟨po, ro⟩ := op.fin E
      exact h H3 O po v (ro.dom hd)
end

/-! ### what a def promises -/
def mergeO : List Bool → List D → List D → List D
  | true :: bs, _ :: ds, o :: os => o :: mergeO bs ds os
  | true :: bs, d :: ds, [] => d :: mergeO bs ds []
  | false :: bs, d :: ds, os => d :: mergeO bs ds os
  | [], ds, _ => ds
  | _, [], _ => []
def ofIo (A : Nat → Option Addr) (a : Addr) : Prop := ∃ i, A i = some a
/-- behind a call -/
structure CallOk (K : PySem.W.Frag) (mg : Str → Option Value) (P' : Addr → Prop) (A : Nat → Option Addr) (H : Hp) (vs : List V) (io : List Bool) (ds outs : List D) (H' : Hp) : Prop where
  eff : Eff (ofIo A) H H'
  dom : ∀ a o, H a = some o → ∃ o', H' a = some o'
  ok : EnvOk K mg P' A H' (vs.map some) (startE io (mergeO io ds outs) ds.length)
def spF (K : PySem.W.Frag) (mg : Str → Option Value) (io : List Bool) (np : Nat) (g : List D → RC) : Sp := fun vs H Q E => ∃ P A ds, vs.length = np ∧ ds.length = np ∧ EnvOk K mg P A H (vs.map some) (startE io ds ds.length) ∧
  match g ds with
  | .ok z => ∀ v H', (if z.2.1 then ∃ p, v = .ref p ∧ H p = none ∧ CallOk K mg (plus P p) A H vs io ds z.2.2 H' ∧ Own K mg (msk (Priv (plus P p) A) H') (H' p) z.1
      else CallOk K mg P A H vs io ds z.2.2 H' ∧ Rep K mg (msk (Priv P A) H') z.1 v) → Q v H'
  | .exc z => ∀ H' cls od, CallOk K mg P A H vs io ds z.2 H' → XRep K mg z.1 cls od H' → E cls od H'
  | .bad => False

/-- the defs of the text, as they may be called from X -/
structure DefOk (X : Cx) (io : List Bool) (x : Str) (g : List D → RC) : Prop where
  ex : ∃ (n : Nat) (f : Addr) (fd : FuncData) (ps : List Str), X.mg x = some (.ref f) ∧ PySem.W.keepIn X.K (.ref f) = true ∧ Binds X.K fd ps [] ∧ Room n X.A ∧ (∀ ds, g ds ≠ .bad → ds.length = ps.length) ∧ FnOk X.prog X.w X.K X.mg X.base (CX X.prog X.w) n f fd ps (spF X.K X.mg io ps.length g)
/-- the context of code -/
structure Okc (X : Cx) (k : Kx) (W : WX) (io : Str → List Bool) (cf : Str → List D → RC) : Prop where
  sc : X.env.scope = k.sc
  fn : X.fn = k.fn
  N : X.N = k.N
  nd : k.N.Nodup
  calm : X.calm = true
  room : Room 1 X.A
  blt : ∀ x ∈ bltNames, X.mg x = none
  dfs : ∀ x ∈ k.dfs, DefOk X (io x) x (cf x)
  kind : k.sc.kind = .function
  pass : ∀ σ, PassesAt (CX X.prog X.w) X σ (WE W σ)
  own : ∀ e s, ¬ X.xe e s → True
section
variable (K : PySem.W.Frag) (mg : Str → Option Value) (fx : List Nat) (io : Str → List Bool) (cf : Str → List D → RC) (W : WX)
def tE (e : Ex) : TE := fun σ H Q => ∃ P O env, EnvOk K mg P O H σ env ∧ TRes K mg (fun c d H' => W c d σ H') P O H σ env (ev fx io cf e env) (fun r env' H' O' => ∀ v, ROk K mg P H σ H' env' O' v r → Q v H')
def tAs (l : Exs) : TA := fun σ H Q => ∃ P O env, EnvOk K mg P O H σ env ∧ TRes K mg (fun c d H' => W c d σ H') P O H σ env (evs fx io cf l env) (fun as env' H' O' => ∀ vs, AOks K mg P σ H' O' as vs → Q vs H')
def tTt (e : Ex) : TT := fun σ H Q => ∃ P O env, EnvOk K mg P O H σ env ∧ TRes K mg (fun c d H' => W c d σ H') P O H σ env ((ev fx io cf e env).bind testR) (fun b env' H' O' => Q b H')
end
/-- weaker readings -/
theorem _root_.L2.PE.imp {X : Cx} {e : Expr} {t t' : TE} (h : PE X e t) (i : ∀ σ H Q, t' σ H Q → t σ H Q) : PE X e t' := ⟨fun pins s σ H Q I q => h.run pins s σ H Q I (i σ H Q q)⟩
theorem _root_.L2.PT.imp {X : Cx} {e : Expr} {t t' : TT} (h : PT X e t) (i : ∀ σ H Q, t' σ H Q → t σ H Q) : PT X e t' := ⟨fun pins s σ H Q I q => h.run pins s σ H Q I (i σ H Q q)⟩
theorem _root_.L2.PA.imp {X : Cx} {e : List Expr} {t t' : TA} (h : PA X e t) (i : ∀ σ H Q, t' σ H Q → t σ H Q) : PA X e t' := ⟨fun pos pins s σ H Q I q => h.run pos pins s σ H Q I (i σ H Q q)⟩
theorem _root_.L2.PS.imp {X : Cx} {e : Stmt} {t t' : TS} (h : PS X e t) (i : ∀ D σ H, t' D σ H → t D σ H) : PS X e t' := ⟨fun pins s σ H D I q => h.run pins s σ H D I (i D σ H q)⟩
theorem _root_.L2.PSs.imp {X : Cx} {e : List Stmt} {t t' : TS} (h : PSs X e t) (i : ∀ D σ H, t' D σ H → t D σ H) : PSs X e t' := ⟨fun pins s σ H D I q => h.run pins s σ H D I (i D σ H q)⟩
theorem _root_.L2.PI.imp {X : Cx} {tg it : Expr} {t t' : TI} (h : PI X tg it t) (i : ∀ σ H R, t' σ H R → t σ H R) : PI X tg it t' := ⟨fun pins s σ H R I q => h.run pins s σ H R I (i σ H R q)⟩
theorem _root_.L2.PG.imp {X : Cx} {tg : Expr} {t t' : TG} (h : PG X tg t) (i : ∀ v σ H Q, t' v σ H Q → t v σ H Q) : PG X tg t' := ⟨fun pins s σ H v u Q I r q => h.run pins s σ H v u Q I r (i v σ H Q q)⟩
end MP
end
section
set_option Elab.async false
set_option linter.all false
set_option maxRecDepth 100000
set_option maxHeartbeats 1000000
/-! MPJ: slots that are frozen, locked, stored. -/
namespace MP
open PySem PySem.Spec PyProof.Rows L2

theorem mod_self {env : Env} {i : Nat} {f : Slot → Slot} : (env.modify i f)[i]? = (env[i]?).map f := by
  rw [List.getElem?_modify]; simp
theorem mod_ne {env : Env} {i j : Nat} {f : Slot → Slot} (h : i ≠ j) : (env.modify i f)[j]? = env[j]? := by
  rw [List.getElem?_modify]; simp [h]
theorem mod_len {env : Env} {i : Nat} {f : Slot → Slot} : (env.modify i f).length = env.length := by simp
theorem slotD_sh (s : Slot) : slotD (toSh s) = slotD s := by cases s <;> rfl
theorem slotD_lk (s : Slot) : slotD (toLk s) = slotD s := by cases s <;> rfl
theorem slotD_ow (s : Slot) : slotD (toOw s) = slotD s := by cases s <;> rfl
theorem deref_mod {env : Env} {i : Nat} {f : Slot → Slot} (hf : ∀ s, slotD (f s) = slotD s) (a : A) : deref (env.modify i f) a = deref env a := by
  cases a with
  | val d => rfl
  | own j =>
    simp only [deref]
    by_cases e : i = j
    · subst e
      rw [mod_self]
      cases env[i]? with
      | none => rfl
      | some s => simp [hf]
    · rw [mod_ne e]
theorem deref_frz1 {env : Env} (b a : A) : deref (frz1 env b) a = deref env a := by
  cases b with
  | val d => rfl
  | own i => exact deref_mod slotD_sh a
theorem derefs_frz1 {env : Env} (b : A) : ∀ as : List A, derefs (frz1 env b) as = derefs env as
  | [] => rfl
  | a :: as => by simp only [derefs, deref_frz1, derefs_frz1 b as]
theorem deref_frz : ∀ (bs : List A) {env : Env} (a : A), deref (frz env bs) a = deref env a
  | [], _, _ => rfl
  | b :: bs, env, a => by rw [frz, deref_frz bs, deref_frz1]
theorem derefs_frz (bs : List A) {env : Env} : ∀ as : List A, derefs (frz env bs) as = derefs env as
  | [] => rfl
  | a :: as => by simp only [derefs, deref_frz, derefs_frz bs as]

section
variable {K : PySem.W.Frag} {mg : Str → Option Value} {P : Addr → Prop} {O O' : Nat → Option Addr} {H H' : Hp} {σ : L2.St} {env env' : Env} {v : V}
/-- no slot's address but these -/
def drop1 (O : Nat → Option Addr) (i : Nat) : Nat → Option Addr := fun j => if j = i then none else O j
theorem drop1_some {i j : Nat} {a : Addr} (h : drop1 O i j = some a) : j ≠ i ∧ O j = some a := by
  unfold drop1 at h
  split at h
  · cases h
  · exact ⟨by assumption, h⟩
theorem drop1_self {i : Nat} : drop1 O i i = none := by unfold drop1; rw [if_pos rfl]
theorem drop1_ne {i j : Nat} (h : j ≠ i) : drop1 O i j = O j := by unfold drop1; rw [if_neg h]
theorem priv_drop1 {i : Nat} {a : Addr} (h : Priv P (drop1 O i) a) : Priv P O a := by
  rcases h with h | ⟨j, h⟩
  · exact .inl h
  · exact .inr ⟨j, (drop1_some h).2⟩
theorem EnvOk.not_priv (E : EnvOk K mg P O H σ env) {i : Nat} {a : Addr} (h : O i = some a) : ¬ Priv P (drop1 O i) a := fun z => by
  rcases z with z | ⟨j, z⟩
  · exact E.apart i a h z
  · obtain ⟨ne, e⟩ := drop1_some z
    exact ne (E.inj j i a e h)
/-- a slot's own object is given up -/
theorem EnvOk.give (E : EnvOk K mg P O H σ env) {i : Nat} {s s' : Slot} (hs : env[i]? = some s) (hs' : ∀ f : Slot → Slot, f s = s' → SlotOk K mg (Priv P (drop1 O i)) none H σ[i]? s') {f : Slot → Slot} (hf : f s = s') (hp : ∀ d, s' ≠ .ow d) (hq : ∀ d, s' ≠ .lk d) :
    Post K mg P O H σ env H (env.modify i f) (drop1 O i) := by
  have mono : Same (msk (Priv P O) H) (msk (Priv P (drop1 O i)) H) := msk_mono (fun a z => .inl (priv_drop1 z)) fun a o _ e => e
  refine ⟨fun j a h => (drop1_some h).2, Eff.refl, fun a ⟨j, d, h1, h2⟩ => ?_, fun a o h => ⟨o, h⟩, fun j d h => ?_, ⟨?_, fun j t ht => ?_, fun j h => ?_, fun j l a h1 h2 => E.inj j l a (drop1_some h1).2 (drop1_some h2).2, fun j a h => E.apart j a (drop1_some h).2, E.tr⟩⟩
  · obtain ⟨ne, e⟩ := drop1_some h2
    rw [mod_ne (Ne.symm ne)] at h1
    exact ⟨j, d, h1, e⟩
  · by_cases e : i = j
    · subst e
      rw [mod_self, hs] at h
      simp only [Option.map_some, Option.some.injEq] at h
      rw [hf] at h
      exact absurd h (hq d)
    · rw [mod_ne e] at h
      exact ⟨d, h⟩
  · rw [mod_len]; exact E.len
  · by_cases e : i = j
    · subst e
      rw [mod_self, hs] at ht
      simp only [Option.map_some, Option.some.injEq] at ht
      rw [drop1_self]
      rw [← ht]
      rw [hf]
      exact hs' f hf
    · rw [mod_ne e] at ht
      rw [drop1_ne (Ne.symm e)]
      exact (E.sl j t ht).mono mono fun a h => rfl
  · by_cases e : j = i
    · subst e; exact drop1_self
    · rw [drop1_ne e]
      rw [mod_ne (Ne.symm e)] at h
      exact E.out j h
theorem mod_id {env : Env} {i : Nat} {f : Slot → Slot} (h : ∀ s, env[i]? = some s → f s = s) : env.modify i f = env := by
  refine List.ext_getElem? fun j => ?_
  by_cases e : i = j
  · subst e
    rw [mod_self]
    cases q : env[i]? with
    | none => rfl
    | some s => simp [h s q]
  · rw [mod_ne e]
/-- a slot's object as plain data: it is nobody's own any more -/
theorem EnvOk.frz1 (E : EnvOk K mg P O H σ env) {a : A} (h : AOk K mg P σ H O v a) : ∃ O', Post K mg P O H σ env H (frz1 env a) O' ∧ ∀ d, deref env a = some d → Rep K mg (msk (Priv P O') H) d v := by
  cases a with
  | val x => exact ⟨O, Post.refl E, fun d e => by simp only [deref, Option.some.injEq] at e; subst e; exact h⟩
  | own i =>
    have h : σ[i]? = some (some v) := h
    cases q : env[i]? with
    | none =>
      refine ⟨O, ?_, fun d e => by simp only [deref, q] at e; cases e⟩
      show Post K mg P O H σ env H (env.modify i toSh) O
      rw [mod_id fun s z => by rw [q] at z; cases z]
      exact Post.refl E
    | some s =>
      have z := E.sl i s q
      have noChange : toSh s = s → Post K mg P O H σ env H (MP.frz1 env (.own i)) O := fun e => by
        show Post K mg P O H σ env H (env.modify i toSh) O
        rw [mod_id fun t y => by rw [q] at y; cases y; exact e]
        exact Post.refl E
      have give : ∀ a d, O i = some a → σ[i]? = some (some (.ref a)) → Own K mg (msk (Priv P O) H) (H a) d → toSh s = .sh d → Post K mg P O H σ env H (MP.frz1 env (.own i)) (drop1 O i) ∧ Rep K mg (msk (Priv P (drop1 O i)) H) d v := fun a d e1 e2 ow e3 => by
        have mono : Same (msk (Priv P O) H) (msk (Priv P (drop1 O i)) H) := msk_mono (fun a z => .inl (priv_drop1 z)) fun a o _ e => e
        have r : Rep K mg (msk (Priv P (drop1 O i)) H) d (.ref a) := ow.rep mono (msk_out (E.not_priv e1))
        refine ⟨E.give q (s' := .sh d) (fun f hf => ⟨rfl, .ref a, e2, r⟩) e3 (fun d z => by cases z) (fun d z => by cases z), ?_⟩
        rw [h] at e2; cases e2
        exact r
      cases s with
      | un => exact ⟨O, noChange rfl, fun d e => by simp only [deref, q, Option.bind_some, slotD] at e; cases e⟩
      | sh x =>
        refine ⟨O, noChange rfl, fun d e => ?_⟩
        simp only [deref, q, Option.bind_some, slotD, Option.some.injEq] at e; subst e
        obtain ⟨_, u, e1, e2⟩ := z
        rw [h] at e1; cases e1
        exact e2
      | ow x =>
        obtain ⟨a, e1, e2, e3⟩ := z
        obtain ⟨g1, g2⟩ := give a x e1 e2 e3 rfl
        exact ⟨_, g1, fun d e => by simp only [deref, q, Option.bind_some, slotD, Option.some.injEq] at e; subst e; exact g2⟩
      | lk x =>
        obtain ⟨a, e1, e2, e3⟩ := z
        obtain ⟨g1, g2⟩ := give a x e1 e2 e3 rfl
        exact ⟨_, g1, fun d e => by simp only [deref, q, Option.bind_some, slotD, Option.some.injEq] at e; subst e; exact g2⟩
theorem EnvOk.frz : ∀ {as : List A} {vs : List V} {env : Env} {O : Nat → Option Addr}, EnvOk K mg P O H σ env → AOks K mg P σ H O as vs → ∃ O', Post K mg P O H σ env H (frz env as) O' ∧ ∀ ds, derefs env as = some ds → Reps K mg (msk (Priv P O') H) ds vs
  | [], vs, env, O, E, h => ⟨O, Post.refl E, fun ds e => by
      simp only [derefs, Option.some.injEq] at e; subst e
      rw [show vs = [] from h]; exact Reps.nil⟩
  | a :: as, vs, env, O, E, h => by
    obtain ⟨v, r, rfl, h1, h2⟩ := h
    obtain ⟨O1, p1, r1⟩ := E.frz1 h1
    obtain ⟨O2, p2, r2⟩ := EnvOk.frz p1.ok (AOks.keep E p1 h2)
    refine ⟨O2, p1.trans p2, fun ds e => ?_⟩
    simp only [derefs] at e
    obtain ⟨d, e1, e⟩ := Option.bind_eq_some_iff.mp e
    obtain ⟨ds', e2, rfl⟩ := Option.map_eq_some_iff.mp e
    rw [derefs_frz1] at r2
    exact Reps.cons ((r1 d e1).mono (keep_msk p1.ok p2.sub p2.eff)) (r2 ds' e2)
end
end MP
end
section
set_option Elab.async false
set_option linter.all false
set_option maxRecDepth 100000
set_option maxHeartbeats 1000000
/-! MPK: the evaluator is sound: expressions. -/
namespace MP
open PySem PySem.Spec PyProof.Rows L2

/-! ### the text's forms -/
section
variable {k : Kx} {e : Expr}
theorem chkE_var {i : Nat} (h : chkE (.var i) k e = true) : ∃ x p, e = .Name x p ∧ k.slot i x = true ∧ k.vis x = true := by
  cases e <;> first | exact Bool.noConfusion (show false = true from h) | skip
  rename_i x p
  exact ⟨x, p, rfl, Bool.and_eq_true_iff.mp (show (k.slot i x && k.vis x) = true from h)⟩
theorem chkE_int {i : Int} (h : chkE (.int i) k e = true) : ∃ c p, e = .Constant (.int i) c p := by
  cases e <;> first | exact Bool.noConfusion (show false = true from h) | skip
  rename_i v c p
  cases v <;> first | exact Bool.noConfusion (show false = true from h) | skip
  rename_i j
  have : i = j := of_decide_eq_true h
  subst this
  exact ⟨c, p, rfl⟩
theorem chkE_bl {b : Bool} (h : chkE (.bl b) k e = true) : ∃ c p, e = .Constant (.bool b) c p := by
  cases e <;> first | exact Bool.noConfusion (show false = true from h) | skip
  rename_i v c p
  cases v <;> first | exact Bool.noConfusion (show false = true from h) | skip
  rename_i j
  have : b = j := beq_iff_eq.mp h
  subst this
  exact ⟨c, p, rfl⟩
theorem chkE_non (h : chkE .non k e = true) : ∃ c p, e = .Constant .none c p := by
  cases e <;> first | exact Bool.noConfusion (show false = true from h) | skip
  rename_i v c p
  cases v <;> first | exact Bool.noConfusion (show false = true from h) | skip
  exact ⟨c, p, rfl⟩
theorem chkE_str {x : Str} (h : chkE (.str x) k e = true) : ∃ c p, e = .Constant (.str x) c p := by
  cases e <;> first | exact Bool.noConfusion (show false = true from h) | skip
  rename_i v c p
  cases v <;> first | exact Bool.noConfusion (show false = true from h) | skip
  rename_i j
  have : x = j := of_decide_eq_true h
  subst this
  exact ⟨c, p, rfl⟩
theorem chkE_gl {x : Str} (h : chkE (.gl x) k e = true) : ∃ p, e = .Name x p ∧ k.gl x = true ∧ x ∈ k.dfs := by
  cases e <;> first | exact Bool.noConfusion (show false = true from h) | skip
  rename_i y p
  have h : (decide (x = y) && k.gl y && k.dfs.contains x) = true := h
  simp only [Bool.and_eq_true, decide_eq_true_eq] at h
  obtain ⟨⟨rfl, h1⟩, h2⟩ := h
  exact ⟨p, rfl, h1, by simpa using h2⟩
theorem chkE_ty {n : String} (h : chkE (.ty n) k e = true) : ∃ p, e = .Name (Str.ofString n) p ∧ k.gl (Str.ofString n) = true ∧ n ∈ tyNames := by
  cases e <;> first | exact Bool.noConfusion (show false = true from h) | skip
  rename_i y p
  have h : (decide (y = Str.ofString n) && k.gl y && tyNames.contains n) = true := h
  simp only [Bool.and_eq_true, decide_eq_true_eq] at h
  obtain ⟨⟨rfl, h1⟩, h2⟩ := h
  exact ⟨p, rfl, h1, by simpa using h2⟩
theorem chkE_bin {o : Bin} {a b : Ex} (h : chkE (.bin o a b) k e = true) : ∃ x op y p, e = .BinOp x op y p ∧ opIs o op = true ∧ chkE a k x = true ∧ chkE b k y = true := by
  cases e <;> first | exact Bool.noConfusion (show false = true from h) | skip
  rename_i x op y p
  have h : (opIs o op && (chkE a k x && chkE b k y)) = true := h
  simp only [Bool.and_eq_true] at h
  exact ⟨x, op, y, p, rfl, h.1, h.2.1, h.2.2⟩
theorem chkE_neg {a : Ex} (h : chkE (.neg a) k e = true) : ∃ x p, e = .UnaryOp .USub x p ∧ chkE a k x = true := by
  cases e <;> first | exact Bool.noConfusion (show false = true from h) | skip
  rename_i op x p
  cases op <;> first | exact Bool.noConfusion (show false = true from h) | skip
  exact ⟨x, p, rfl, h⟩
theorem chkE_cmp {o : Cmp} {a b : Ex} (h : chkE (.cmp o a b) k e = true) : ∃ x op y p, e = .Compare x [op] [y] p ∧ cmpIs o op = true ∧ behindInMarks op y = false ∧ chkE a k x = true ∧ chkE b k y = true := by
  cases e <;> first | exact Bool.noConfusion (show false = true from h) | skip
  rename_i x ops ys p
  match ops, ys, h with
  | [op], [y], h =>
    have h : (cmpIs o op && !behindInMarks op y && (chkE a k x && chkE b k y)) = true := h
    simp only [Bool.and_eq_true, Bool.not_eq_true'] at h
    exact ⟨x, op, y, p, rfl, h.1.1, h.1.2, h.2.1, h.2.2⟩
theorem chkE_chain {o o2 : Cmp} {a b c : Ex} (h : chkE (.chain o o2 a b c) k e = true) : ∃ x op op2 y z p, e = .Compare x [op, op2] [y, z] p ∧ cmpIs o op = true ∧ cmpIs o2 op2 = true ∧ behindInMarks op y = false ∧ behindInMarks op2 z = false ∧ chkE a k x = true ∧ chkE b k y = true ∧ chkE c k z = true := by
  cases e <;> first | exact Bool.noConfusion (show false = true from h) | skip
  rename_i x ops ys p
  match ops, ys, h with
  | [op, op2], [y, z], h =>
    have h : (cmpIs o op && cmpIs o2 op2 && !behindInMarks op y && !behindInMarks op2 z && (chkE a k x && (chkE b k y && chkE c k z))) = true := h
    simp only [Bool.and_eq_true, Bool.not_eq_true'] at h
    exact ⟨x, op, op2, y, z, p, rfl, h.1.1.1.1, h.1.1.1.2, h.1.1.2, h.1.2, h.2.1, h.2.2.1, h.2.2.2⟩
theorem chkE_not {a : Ex} (h : chkE (.not a) k e = true) : ∃ x p, e = .UnaryOp .Not x p ∧ chkE a k x = true := by
  cases e <;> first | exact Bool.noConfusion (show false = true from h) | skip
  rename_i op x p
  cases op <;> first | exact Bool.noConfusion (show false = true from h) | skip
  exact ⟨x, p, rfl, h⟩
theorem chkE_and {a b : Ex} (h : chkE (.and a b) k e = true) : ∃ x y r p, e = .BoolOp .And (x :: y :: r) p ∧ chkE a k x = true ∧ ((r = [] ∧ chkE b k y = true) ∨ (r ≠ [] ∧ chkE b k (.BoolOp .And (y :: r) p) = true)) := by
  cases e <;> first | exact Bool.noConfusion (show false = true from h) | skip
  rename_i op l p
  cases op <;> first | exact Bool.noConfusion (show false = true from h) | skip
  match l, h with
  | [x, y], h =>
    have h : (chkE a k x && chkE b k y) = true := h
    simp only [Bool.and_eq_true] at h
    exact ⟨x, y, [], p, rfl, h.1, .inl ⟨rfl, h.2⟩⟩
  | x :: y :: z :: r, h =>
    have h : (chkE a k x && chkE b k (.BoolOp .And (y :: z :: r) p)) = true := h
    simp only [Bool.and_eq_true] at h
    exact ⟨x, y, z :: r, p, rfl, h.1, .inr ⟨by simp, h.2⟩⟩
theorem chkE_or {a b : Ex} (h : chkE (.or a b) k e = true) : ∃ x y r p, e = .BoolOp .Or (x :: y :: r) p ∧ chkE a k x = true ∧ ((r = [] ∧ chkE b k y = true) ∨ (r ≠ [] ∧ chkE b k (.BoolOp .Or (y :: r) p) = true)) := by
  cases e <;> first | exact Bool.noConfusion (show false = true from h) | skip
  rename_i op l p
  cases op <;> first | exact Bool.noConfusion (show false = true from h) | skip
  match l, h with
  | [x, y], h =>
    have h : (chkE a k x && chkE b k y) = true := h
    simp only [Bool.and_eq_true] at h
    exact ⟨x, y, [], p, rfl, h.1, .inl ⟨rfl, h.2⟩⟩
  | x :: y :: z :: r, h =>
    have h : (chkE a k x && chkE b k (.BoolOp .Or (y :: z :: r) p)) = true := h
    simp only [Bool.and_eq_true] at h
    exact ⟨x, y, z :: r, p, rfl, h.1, .inr ⟨by simp, h.2⟩⟩
theorem chkE_ite {c a b : Ex} (h : chkE (.ite c a b) k e = true) : ∃ x y z p, e = .IfExp x y z p ∧ chkE c k x = true ∧ chkE a k y = true ∧ chkE b k z = true := by
  cases e <;> first | exact Bool.noConfusion (show false = true from h) | skip
  rename_i x y z p
  have h : (chkE c k x && (chkE a k y && chkE b k z)) = true := h
  simp only [Bool.and_eq_true] at h
  exact ⟨x, y, z, p, rfl, h.1, h.2.1, h.2.2⟩
theorem chkE_tup {l : Exs} (h : chkE (.tup l) k e = true) : ∃ es c p, e = .Tuple es c p ∧ chks l k es = true := by
  cases e <;> first | exact Bool.noConfusion (show false = true from h) | skip
  exact ⟨_, _, _, rfl, h⟩
theorem chkE_lst {l : Exs} (h : chkE (.lst l) k e = true) : ∃ es p, e = .List es p ∧ chks l k es = true := by
  cases e <;> first | exact Bool.noConfusion (show false = true from h) | skip
  exact ⟨_, _, rfl, h⟩
theorem chkE_ix {a i : Ex} (h : chkE (.ix a i) k e = true) : ∃ x y p, e = .Subscript x y p ∧ isSlice y = false ∧ chkE a k x = true ∧ chkE i k y = true := by
  cases e <;> first | exact Bool.noConfusion (show false = true from h) | skip
  rename_i x y p
  have h : (!isSlice y && (chkE a k x && chkE i k y)) = true := by
    cases y <;> exact h
  simp only [Bool.and_eq_true, Bool.not_eq_true'] at h
  exact ⟨x, y, p, rfl, h.1, h.2.1, h.2.2⟩
theorem chkE_sl {a : Ex} {lo hi : Oe} (h : chkE (.sl a lo hi) k e = true) : ∃ x l u p p2, e = .Subscript x (.Slice l u none p2) p ∧ chkE a k x = true ∧ chkO lo k l = true ∧ chkO hi k u = true := by
  cases e <;> first | exact Bool.noConfusion (show false = true from h) | skip
  rename_i x y p
  cases y <;> first | exact Bool.noConfusion (show false = true from h) | skip
  rename_i l u st p2
  cases st <;> first | exact Bool.noConfusion (show false = true from h) | skip
  have h : (chkE a k x && (chkO lo k l && chkO hi k u)) = true := h
  simp only [Bool.and_eq_true] at h
  exact ⟨x, l, u, p, p2, rfl, h.1, h.2.1, h.2.2⟩
theorem chkE_call {x : Str} {l : Exs} (h : chkE (.call x l) k e = true) : ∃ p es p2, e = .Call (.Name x p) es [] p2 ∧ k.gl x = true ∧ x ∈ k.dfs ∧ es ≠ [] ∧ chks l k es = true := by
  cases e <;> first | exact Bool.noConfusion (show false = true from h) | skip
  rename_i f es kw p2
  cases f <;> first | exact Bool.noConfusion (show false = true from h) | skip
  rename_i y p
  cases kw <;> first | exact Bool.noConfusion (show false = true from h) | skip
  have h : (decide (x = y) && k.gl y && k.dfs.contains x && !es.isEmpty && chks l k es) = true := h
  simp only [Bool.and_eq_true, decide_eq_true_eq, Bool.not_eq_true', List.isEmpty_eq_false_iff] at h
  obtain ⟨⟨⟨⟨rfl, h1⟩, h2⟩, h3⟩, h4⟩ := h
  exact ⟨p, es, p2, rfl, h1, by simpa using h2, h3, h4⟩
theorem chkE_blt {b : Blt} {l : Exs} (h : chkE (.blt b l) k e = true) : ∃ p es p2, e = .Call (.Name b.name p) es [] p2 ∧ k.gl b.name = true ∧ es ≠ [] ∧ chks l k es = true := by
  cases e <;> first | exact Bool.noConfusion (show false = true from h) | skip
  rename_i f es kw p2
  cases f <;> first | exact Bool.noConfusion (show false = true from h) | skip
  rename_i y p
  cases kw <;> first | exact Bool.noConfusion (show false = true from h) | skip
  have h : (decide (y = b.name) && k.gl y && !es.isEmpty && chks l k es) = true := h
  simp only [Bool.and_eq_true, decide_eq_true_eq, Bool.not_eq_true', List.isEmpty_eq_false_iff] at h
  obtain ⟨⟨⟨rfl, h1⟩, h3⟩, h4⟩ := h
  exact ⟨p, es, p2, rfl, h1, h3, h4⟩
theorem chkE_pm {m : Pm} {o : Ex} {l : Exs} (h : chkE (.pm m o l) k e = true) : ∃ x ap es p2, e = .Call (.Attribute x m.name ap) es [] p2 ∧ es ≠ [] ∧ (ap.endLine == p2.line) = true ∧ es.length < 20 ∧ chkE o k x = true ∧ chks l k es = true := by
  cases e <;> first | exact Bool.noConfusion (show false = true from h) | skip
  rename_i f es kw p2
  cases f <;> first | exact Bool.noConfusion (show false = true from h) | skip
  rename_i x n ap
  cases kw <;> first | exact Bool.noConfusion (show false = true from h) | skip
  have h : (decide (n = m.name) && !es.isEmpty && (ap.endLine == p2.line) && decide (es.length < 20) && (chkE o k x && chks l k es)) = true := by
    cases x <;> exact h
  simp only [Bool.and_eq_true, decide_eq_true_eq, Bool.not_eq_true', List.isEmpty_eq_false_iff] at h
  obtain ⟨⟨⟨⟨rfl, h1⟩, h5⟩, h6⟩, h3, h4⟩ := h
  exact ⟨x, ap, es, p2, rfl, h1, h5, h6, h3, h4⟩
theorem chkE_mt {m : Mt} {i : Nat} {l : Exs} (h : chkE (.mt m i l) k e = true) : ∃ x p ap es p2, e = .Call (.Attribute (.Name x p) m.name ap) es [] p2 ∧ k.slot i x = true ∧ k.vis x = true ∧ (m = .pop ↔ es = []) ∧ (ap.endLine == p2.line) = true ∧ es.length < 20 ∧ chks l k es = true := by
  cases e <;> first | exact Bool.noConfusion (show false = true from h) | skip
  rename_i f es kw p2
  cases f <;> first | exact Bool.noConfusion (show false = true from h) | skip
  rename_i x n ap
  cases x <;> first | exact Bool.noConfusion (show false = true from h) | skip
  rename_i x p
  cases kw <;> first | exact Bool.noConfusion (show false = true from h) | skip
  have h : (decide (n = m.name) && k.slot i x && k.vis x && (decide (m = .pop) == es.isEmpty) && (ap.endLine == p2.line) && decide (es.length < 20) && chks l k es) = true := h
  simp only [Bool.and_eq_true, decide_eq_true_eq, beq_iff_eq] at h
  obtain ⟨⟨⟨⟨⟨⟨rfl, h1⟩, h2⟩, h3⟩, h5⟩, h6⟩, h4⟩ := h
  refine ⟨x, p, ap, es, p2, rfl, h1, h2, ?_, beq_iff_eq.mpr h5, h6, h4⟩
  cases es with
  | nil => simpa using h3
  | cons a r => simpa using h3
theorem chkE_comp {el : Ex} {t : Tg} {it : MP.It} {cs : Oe} {own : List Nat} (h : chkE (.comp el t it cs own) k e = true) : ∃ elt tg iter ifs scope p, e = .ListComp elt [⟨tg, iter, ifs, 0⟩] scope p ∧ blkC k.N k.sc scope (k.own own) = true ∧ chkI it k tg iter = true ∧
    chkT t (k.blk scope) tg = true ∧ chkC cs (k.blk scope) ifs = true ∧ chkE el (k.blk scope) elt = true := by
  cases e <;> first | exact Bool.noConfusion (show false = true from h) | skip
  rename_i elt gs scope p
  match gs, h with
  | [⟨tg, iter, ifs, 0⟩], h =>
    have h : (blkC k.N k.sc scope (k.own own) && (chkI it k tg iter && (chkT t (k.blk scope) tg && (chkC cs (k.blk scope) ifs && chkE el (k.blk scope) elt)))) = true := h
    simp only [Bool.and_eq_true] at h
    exact ⟨elt, tg, iter, ifs, scope, p, rfl, h.1, h.2.1, h.2.2.1, h.2.2.2.1, h.2.2.2.2⟩
theorem chks_nil {es : List Expr} (h : chks .nil k es = true) : es = [] := by
  cases es with
  | nil => rfl
  | cons a r => exact Bool.noConfusion (show false = true from h)
theorem chks_cons {el : Ex} {l : Exs} {es : List Expr} (h : chks (.cons el l) k es = true) : ∃ x r, es = x :: r ∧ chkE el k x = true ∧ chks l k r = true := by
  cases es with
  | nil => exact Bool.noConfusion (show false = true from h)
  | cons x r =>
    have h : (chkE el k x && chks l k r) = true := h
    simp only [Bool.and_eq_true] at h
    exact ⟨x, r, rfl, h.1, h.2⟩
def isStar : Expr → Bool
  | .Starred .. => true
  | _ => false
theorem no_star {el : Ex} {e : Expr} (h : chkE el k e = true) : isStar e = false := by
  cases e <;> first | rfl | skip
  exfalso
  cases el <;> exact Bool.noConfusion (show false = true from h)
end
end MP
end
section
set_option Elab.async false
set_option linter.all false
set_option maxRecDepth 100000
set_option maxHeartbeats 1000000
/-! MPL: the evaluator is sound: expressions, one by one. -/
namespace MP
open PySem PySem.Spec PyProof.Rows L2

section
variable (fx : List Nat) (io : Str → List Bool) (cf : Str → List D → RC)
def SE (ir : Ex) : Prop := ∀ (X : Cx) (k : Kx) (W : WX) (e : Expr), chkE ir k e = true → Okc X k W io cf → PE X e (tE X.K X.mg fx io cf W ir)
def ST (ir : Ex) : Prop := ∀ (X : Cx) (k : Kx) (W : WX) (e : Expr), chkE ir k e = true → Okc X k W io cf → PT X e (tTt X.K X.mg fx io cf W ir)
def SAs (l : Exs) : Prop := ∀ (X : Cx) (k : Kx) (W : WX) (es : List Expr), chks l k es = true → Okc X k W io cf → PA X es (tAs X.K X.mg fx io cf W l)
end
section
variable {X : Cx} {k : Kx} {W : WX} {fx : List Nat} {io : Str → List Bool} {cf : Str → List D → RC}
theorem Okc.visX (ok : Okc X k W io cf) {x : Str} (h : k.vis x = true) : Vis X.env.scope x ∧ (x == ("__debug__" : Str)) = false ∧ (x == ("__classdict__" : Str)) = false := by
  unfold Kx.vis at h
  simp only [Bool.and_eq_true, Bool.not_eq_true'] at h
  refine ⟨?_, h.1.2, h.2⟩
  have h1 := h.1.1
  unfold Kx.kind at h1
  rw [← ok.sc] at h1
  unfold Vis
  revert h1
  cases X.env.scope.names.lookup x with
  | none => intro h; cases h
  | some q => cases q <;> intro h <;> first | exact .inl rfl | exact .inr (.inl rfl) | exact .inr (.inr rfl) | cases h
theorem Okc.slotX (ok : Okc X k W io cf) {i : Nat} {x : Str} (h : k.slot i x = true) : X.N[i]? = some x := by
  rw [ok.N]; exact of_decide_eq_true h
theorem Okc.glX (ok : Okc X k W io cf) {x : Str} (h : k.gl x = true) : Gl X x ∧ (x == ("__debug__" : Str)) = false ∧ x ≠ "__name__" := by
  unfold Kx.gl at h
  simp only [Bool.and_eq_true, Bool.not_eq_true'] at h
  refine ⟨?_, h.1.2, fun e => ?_⟩
  · have h1 := h.1.1
    unfold Kx.kind at h1
    rw [← ok.sc] at h1
    show X.env.scope.names.lookup x = _
    revert h1
    cases X.env.scope.names.lookup x with
    | none => intro h; cases h
    | some q => cases q <;> intro h <;> first | rfl | cases h
  · have h2 := h.2
    subst e
    exact absurd h2 (by decide)
theorem Okc.locX (ok : Okc X k W io cf) {x : Str} (h : k.loc x = true) : L2.Loc X.env.scope x ∧ (X.fn x = true ∨ X.env.scope.names.lookup x = some .local) := by
  unfold Kx.loc Kx.kind at h
  rw [← ok.sc, ← ok.fn] at h
  unfold L2.Loc
  revert h
  cases X.env.scope.names.lookup x with
  | none => intro h; cases h
  | some q => cases q <;> intro h <;> first | exact ⟨.inl rfl, .inr rfl⟩ | exact ⟨.inr rfl, .inl h⟩ | cases h
theorem Okc.unit (ok : Okc X k W io cf) : X.A.units + 65 < cLine := by
  have := ok.room.un
  omega
theorem star_eq {e : Expr} {es : List Expr} {env : PySem.Env} (h : isStar e = false) : starEach (e :: es) env = (false, eval e env) :: starEach es env := by
  cases e <;> first | rfl | exact Bool.noConfusion (show true = false from h)
theorem noStars {l : Exs} : ∀ {es : List Expr} {env : PySem.Env} {pos : Pos}, chks l k es = true → (backTo pos (starEach es env)).any (·.1) = false := by
  intro es
  induction es generalizing l with
  | nil => intro env pos _; rfl
  | cons x r ih =>
    intro env pos h
    cases l with
    | nil => exact Bool.noConfusion (show false = true from h)
    | cons el l =>
      obtain ⟨x', r', e, h1, h2⟩ := chks_cons h
      cases e
      rw [star_eq (no_star h1)]
      show (false || (backTo pos (starEach r env)).any (·.1)) = false
      rw [ih h2]; rfl

/-! ### leaves -/
theorem se_var {i : Nat} : SE fx io cf (.var i) := by
  intro X k W e h ok
  obtain ⟨x, p, rfl, h1, h2⟩ := chkE_var h
  obtain ⟨v1, v2, v3⟩ := ok.visX h2
  refine (pe_var (ok.slotX h1) v1 v2 v3).imp fun σ H Q ⟨P, O, env, E, t⟩ => ?_
  cases q : env[i]? with
  | none => unfold ev at t; rw [q] at t; exact t.elim
  | some s =>
    have z := E.sl i s q
    cases s with
    | un => unfold ev at t; rw [q] at t; exact t.elim
    | sh d =>
      unfold ev at t; rw [q] at t
      obtain ⟨_, v, e1, e2⟩ := z
      exact ⟨v, e1, t H O (Post.refl E) v e2⟩
    | ow d =>
      unfold ev at t; rw [q] at t
      obtain ⟨a, _, e1, _⟩ := z
      exact ⟨_, e1, t H O (Post.refl E) _ e1⟩
    | lk d =>
      unfold ev at t; rw [q] at t
      obtain ⟨a, _, e1, _⟩ := z
      exact ⟨_, e1, t H O (Post.refl E) _ e1⟩
theorem se_const {ir : Ex} {d : D} {v : V} (hev : ∀ env, ev fx io cf ir env = .ok (.val d, env)) (hr : ∀ K mg H, Rep K mg H d v) {X : Cx} {W : WX} {σ : L2.St} {H : Hp} {Q : VK} (h : tE X.K X.mg fx io cf W ir σ H Q) : Q v H := by
  obtain ⟨P, O, env, E, t⟩ := h
  rw [hev] at t
  exact t H O (Post.refl E) v (hr _ _ _)
theorem se_int {i : Int} : SE fx io cf (.int i) := by
  intro X k W e h ok
  obtain ⟨c, p, rfl⟩ := chkE_int h
  exact pe_int.imp fun σ H Q t => se_const (fun env => by unfold ev; rfl) (fun _ _ _ => by simp only [Rep]) t
theorem se_bl {i : Bool} : SE fx io cf (.bl i) := by
  intro X k W e h ok
  obtain ⟨c, p, rfl⟩ := chkE_bl h
  exact pe_bl.imp fun σ H Q t => se_const (fun env => by unfold ev; rfl) (fun _ _ _ => by simp only [Rep]) t
theorem se_non : SE fx io cf .non := by
  intro X k W e h ok
  obtain ⟨c, p, rfl⟩ := chkE_non h
  exact pe_non.imp fun σ H Q t => se_const (fun env => by unfold ev; rfl) (fun _ _ _ => by simp only [Rep]) t
theorem se_str {i : Str} : SE fx io cf (.str i) := by
  intro X k W e h ok
  obtain ⟨c, p, rfl⟩ := chkE_str h
  exact pe_str.imp fun σ H Q t => se_const (fun env => by unfold ev; rfl) (fun _ _ _ => by simp only [Rep]) t
theorem se_gl {x : Str} : SE fx io cf (.gl x) := by
  intro X k W e h ok
  obtain ⟨p, rfl, h1, h2⟩ := chkE_gl h
  obtain ⟨g1, g2, _⟩ := ok.glX h1
  obtain ⟨n, f, fd, ps, hm, _⟩ := (ok.dfs x h2).ex
  refine (pe_glob (v := .ref f) g1 hm rfl g2).imp fun σ H Q ⟨P, O, env, E, t⟩ => ?_
  unfold ev at t
  exact t H O (Post.refl E) _ (by simp only [ROk, Rep]; exact ⟨f, rfl, hm⟩)
def tyBoot : Bool := tyNames.all fun n => decide (bootBuiltins (Str.ofString n) = some (.type n)) && bltNames.contains (Str.ofString n)
theorem tyBoot_ok : tyBoot = true := by decide +kernel
theorem se_ty {n : String} : SE fx io cf (.ty n) := by
  intro X k W e h ok
  obtain ⟨p, rfl, h1, h2⟩ := chkE_ty h
  obtain ⟨g1, g2, g3⟩ := ok.glX h1
  have tb := tyBoot_ok
  unfold tyBoot at tb
  rw [List.all_eq_true] at tb
  have tb := tb n h2
  simp only [Bool.and_eq_true, decide_eq_true_eq] at tb
  refine (pe_bltn (v := .ty n) g1 (ok.blt _ (by simpa using tb.2)) tb.1 rfl g3 g2).imp fun σ H Q ⟨P, O, env, E, t⟩ => ?_
  unfold ev at t
  exact t H O (Post.refl E) _ (by simp only [ROk, Rep])

/-! ### strict operators -/
/-- two parts, then a rule by their data -/
theorem two_parts {a b : Ex} {r : R2} {f : List D → Option R} {ta tb : TE} {W : WX} {X : Cx} {σ : L2.St} {H : Hp} {Q : VK} (ok : OpOk X.K X.mg (r2of r) f) 
    (h : ∃ P O env, EnvOk X.K X.mg P O H σ env ∧ TRes X.K X.mg (fun c d H' => W c d σ H') P O H σ env ((ev fx io cf a env).bind fun z => (ev fx io cf b z.2).bind fun y => strict f [z.1.arg, y.1.arg] y.2) (fun r env' H' O' => ∀ v, ROk X.K X.mg P H σ H' env' O' v r → Q v H')) :
    tOp r (tE X.K X.mg fx io cf W a) (tE X.K X.mg fx io cf W b) σ H Q := by
  obtain ⟨P, O, env, E, t⟩ := h
  refine ⟨P, O, env, E, t.bind.imp fun r1 env1 H1 O1 p1 ⟨_, t1⟩ v1 o1 => ?_⟩
  refine ⟨P, O1, env1, p1.ok, t1.bind.imp fun r2 env2 H2 O2 p2 ⟨_, t2⟩ v2 o2 => ?_⟩
  have a1 : AOk X.K X.mg P σ H2 O2 v1 r1.arg := AOk.keep p1.ok p2 (ROk.arg E p1 o1)
  have a2 : AOk X.K X.mg P σ H2 O2 v2 r2.arg := ROk.arg p1.ok p2 o2
  obtain ⟨x, y, e, q⟩ := strict_go (as := [r1.arg, r2.arg]) (vs := [v1, v2]) p2.ok ⟨v1, [v2], rfl, a1, v2, [], rfl, a2, rfl⟩ ok (p1.trans p2).dom t2
  cases e
  exact q
theorem se_bin {o : Bin} {a b : Ex} (ha : SE fx io cf a) (hb : SE fx io cf b) : SE fx io cf (.bin o a b) := by
  intro X k W e h ok
  obtain ⟨x, op, y, p, rfl, h0, h1, h2⟩ := chkE_bin h
  refine (pe_op (op_bin h0) (ha X k W x h1 ok) (hb X k W y h2 ok)).imp fun σ H Q t => two_parts (ta := tE X.K X.mg fx io cf W a) (tb := tE X.K X.mg fx io cf W b) (bin_ok o) ?_
  unfold tE at t
  unfold ev at t
  exact t
theorem se_ix {a b : Ex} (ha : SE fx io cf a) (hb : SE fx io cf b) : SE fx io cf (.ix a b) := by
  intro X k W e h ok
  obtain ⟨x, y, p, rfl, h0, h1, h2⟩ := chkE_ix h
  refine (pe_ix ix_seq (ha X k W x h1 ok) (hb X k W y h2 ok) ?_).imp fun σ H Q t => two_parts (ta := tE X.K X.mg fx io cf W a) (tb := tE X.K X.mg fx io cf W b) ix_ok ?_
  · intro o i
    cases y <;> first | rfl | exact Bool.noConfusion (show true = false from h0)
  · unfold tE at t
    unfold ev at t
    exact t
theorem pe_cmpO {op : CmpOp} {r : R2} {a b : Expr} {ta tb : TE} {pos : Pos} {X : Cx} (ho : OpR X (compareOp op) r) (ha : PE X a ta) (hb : PE X b tb) : PC X op a b (tOp r ta tb) := by
  refine ⟨fun pins s σ H Q I h => ?_⟩
  exact binT ha hb I h fun v u s2 x y H2 I2 rx ry q => ho pins s2 σ H2 x y v u Q I2 rx ry q
theorem sc_cmp {o : Cmp} {a b : Ex} (ha : SE fx io cf a) (hb : SE fx io cf b) {X : Cx} {k : Kx} {W : WX} {x y : Expr} {op : CmpOp} (ok : Okc X k W io cf) (h0 : cmpIs o op = true) (h1 : chkE a k x = true) (h2 : chkE b k y = true) : PC X op x y (tE X.K X.mg fx io cf W (.cmp o a b)) := by
  have c := pe_cmpO (pos := ⟨0, 0, 0, 0⟩) (op_cmp ok.unit h0) (ha X k W x h1 ok) (hb X k W y h2 ok)
  refine ⟨fun pins s σ H Q I t => c.run pins s σ H Q I (two_parts (ta := tE X.K X.mg fx io cf W a) (tb := tE X.K X.mg fx io cf W b) (cmp_ok o) ?_)⟩
  unfold tE at t
  unfold ev at t
  exact t
theorem se_cmp {o : Cmp} {a b : Ex} (ha : SE fx io cf a) (hb : SE fx io cf b) : SE fx io cf (.cmp o a b) := by
  intro X k W e h ok
  obtain ⟨x, op, y, p, rfl, h0, hm, h1, h2⟩ := chkE_cmp h
  exact pe_cmp (sc_cmp ha hb ok h0 h1 h2) hm
/-- a test by the evaluator, from a value's reading -/
theorem tB_of {a : Ex} {X : Cx} {W : WX} {σ : L2.St} {H : Hp} {Q : Bool → Hp → Prop} (t : tTt X.K X.mg fx io cf W a σ H Q) : tB (tE X.K X.mg fx io cf W a) σ H Q := by
  obtain ⟨P, O, env, E, t⟩ := t
  refine ⟨P, O, env, E, t.bind.imp fun r env1 H1 O1 p1 ⟨_, t1⟩ v o => ?_⟩
  unfold testR at t1
  cases hd : deref env1 r.arg with
  | none => simp only [hd] at t1; exact t1.elim
  | some d =>
    simp only [hd] at t1
    have tp := AOk.top p1.ok (ROk.arg E p1 o) hd
    cases d <;> first | exact t1.elim | skip
    rename_i b
    exact ⟨b, tp.bl, t1 H1 O1 (Post.refl p1.ok)⟩
theorem st_cmp {o : Cmp} {a b : Ex} (ha : SE fx io cf a) (hb : SE fx io cf b) : ST fx io cf (.cmp o a b) := by
  intro X k W e h ok
  obtain ⟨x, op, y, p, rfl, h0, hm, h1, h2⟩ := chkE_cmp h
  exact (pt_cmp (sc_cmp ha hb ok h0 h1 h2) hm).imp fun σ H Q t => tB_of t
/-- any other expression as a test -/
theorem st_val {a : Ex} (ha : SE fx io cf a) (hn : ∀ k e, chkE a k e = true → ∀ env whole, isTrue e env whole = (do let v ← whole; standAt e.pos; holding [v] (truthy v))) : ST fx io cf a := by
  intro X k W e h ok
  exact (pt_val (ha X k W e h ok) (fun whole => hn k e h X.env whole)).imp fun σ H Q t => tB_of t
theorem se_neg {a : Ex} (ha : SE fx io cf a) : SE fx io cf (.neg a) := by
  intro X k W e h ok
  obtain ⟨x, p, rfl, h1⟩ := chkE_neg h
  refine (pe_un un_neg (ha X k W x h1 ok)).imp fun σ H Q ⟨P, O, env, E, t⟩ => ?_
  unfold ev at t
  refine ⟨P, O, env, E, t.bind.imp fun r1 env1 H1 O1 p1 ⟨_, t1⟩ v1 o1 => ?_⟩
  have a1 := ROk.arg E p1 o1
  have okp : OpOk X.K X.mg (fun vs H Q => ∃ v, vs = [v] ∧ rU (fun i => .int (-i)) v H Q) (fun ds => match ds with | [.int i] => some (.val (.int (-i))) | _ => none) := by
    intro S H ds vs rd Q hS tt f q
    dsimp only at f
    split at f
    · cases f
      obtain ⟨v, rfl, tv⟩ := tt.one
      exact ⟨v, rfl, _, tv.int, q _ _ OpPost.int⟩
    · cases f
  obtain ⟨v, e, q⟩ := strict_go (as := [r1.arg]) (vs := [v1]) p1.ok ⟨v1, [], rfl, a1, rfl⟩ okp p1.dom t1
  cases e
  exact q
end
end MP
end
section
set_option Elab.async false
set_option linter.all false
set_option maxRecDepth 100000
set_option maxHeartbeats 1000000
/-! MPM: tests, and, or, displays, calls. -/
namespace MP
open PySem PySem.Spec PyProof.Rows L2
section
variable {X : Cx} {k : Kx} {W : WX} {fx : List Nat} {io : Str → List Bool} {cf : Str → List D → RC}
theorem Res.bind_bind {ε α β γ : Type} (x : Res ε α) (f : α → Res ε β) (g : β → Res ε γ) : (x.bind f).bind g = x.bind fun a => (f a).bind g := by
  cases x <;> rfl
theorem Res.bind_ok {ε α β : Type} (a : α) (f : α → Res ε β) : (Res.ok a : Res ε α).bind f = f a := rfl
theorem Res.bind_ok' {ε α : Type} (x : Res ε α) : (x.bind fun a => .ok a) = x := by cases x <;> rfl
/-- a bool's reading, from a value's -/
theorem tV_of {a : Ex} {W : WX} {X : Cx} {σ : L2.St} {H : Hp} {k : Bool → Hp → Prop} (t : tTt X.K X.mg fx io cf W a σ H k) : tE X.K X.mg fx io cf W a σ H (fun x H1 => ∃ c, x = .bl c ∧ k c H1) := tB_of t

/-- the test's part of a reading -/
theorem tT_part {a : Ex} {γ : Type} {g : Bool × Env → RE (γ × Env)} {K : PySem.W.Frag} {mg : Str → Option Value} {W : Value → Option Addr → Hp → Prop} {P : Addr → Prop} {O : Nat → Option Addr} {H : Hp} {σ : L2.St} {env : Env} {kk : γ → Env → Hp → (Nat → Option Addr) → Prop}
    (t : TRes K mg W P O H σ env ((ev fx io cf a env).bind fun z => (testR z).bind g) kk) :
    TRes K mg W P O H σ env ((ev fx io cf a env).bind testR) (fun b env1 H1 O1 => Post K mg P O H σ env H1 env1 O1 ∧ TRes K mg W P O1 H1 σ env1 (g (b, env1)) kk) := by
  rw [← Res.bind_bind] at t
  exact t.bind
theorem se_not {a : Ex} (ha : SE fx io cf a) : SE fx io cf (.not a) := by
  intro X k W e h ok
  obtain ⟨x, p, rfl, h1⟩ := chkE_not h
  refine (pe_not (ha X k W x h1 ok)).imp fun σ H Q ⟨P, O, env, E, t⟩ => ?_
  unfold ev at t
  refine tV_of (k := fun c H1 => Q (.bl (!c)) H1) ⟨P, O, env, E, (tT_part t).imp fun b env1 H1 O1 p1 ⟨_, t1⟩ => ?_⟩
  exact t1 H1 O1 (Post.refl p1.ok) _ (by simp only [ROk, Rep])
theorem st_not {a : Ex} (ha : ST fx io cf a) : ST fx io cf (.not a) := by
  intro X k W e h ok
  obtain ⟨x, p, rfl, h1⟩ := chkE_not h
  refine (pt_not (ha X k W x h1 ok)).imp fun σ H Q ⟨P, O, env, E, t⟩ => ?_
  unfold ev at t
  rw [Res.bind_bind] at t
  simp only [Res.bind_bind, Res.bind_ok] at t
  refine ⟨P, O, env, E, (tT_part t).imp fun b env1 H1 O1 p1 ⟨_, t1⟩ => ?_⟩
  exact t1 H1 O1 (Post.refl p1.ok)
theorem se_and {a b : Ex} (ha : SE fx io cf a) (hb : SE fx io cf b) : SE fx io cf (.and a b) := by
  intro X k W e h ok
  obtain ⟨x, y, r, p, rfl, h1, h2⟩ := chkE_and h
  have hb' : PE X (.BoolOp .And (y :: r) p) (tE X.K X.mg fx io cf W b) := by
    rcases h2 with ⟨rfl, h2⟩ | ⟨_, h2⟩
    · exact pe_one (hb X k W y h2 ok)
    · exact hb X k W _ h2 ok
  refine (pe_and (ha X k W x h1 ok) hb').imp fun σ H Q ⟨P, O, env, E, t⟩ => ?_
  unfold ev at t
  refine tV_of (k := fun c H1 => if c = true then tE X.K X.mg fx io cf W b σ H1 Q else Q (.bl false) H1) ⟨P, O, env, E, (tT_part t).imp fun c env1 H1 O1 p1 ⟨_, t1⟩ => ?_⟩
  cases c with
  | true => exact ⟨P, O1, env1, p1.ok, TRes.imp t1 fun r e H' O' p2 q v o => q v (o.dom p1.dom)⟩
  | false => exact t1 H1 O1 (Post.refl p1.ok) _ (by simp only [ROk, Rep])
theorem se_or {a b : Ex} (ha : SE fx io cf a) (hb : SE fx io cf b) : SE fx io cf (.or a b) := by
  intro X k W e h ok
  obtain ⟨x, y, r, p, rfl, h1, h2⟩ := chkE_or h
  have hb' : PE X (.BoolOp .Or (y :: r) p) (tE X.K X.mg fx io cf W b) := by
    rcases h2 with ⟨rfl, h2⟩ | ⟨_, h2⟩
    · exact pe_one (hb X k W y h2 ok)
    · exact hb X k W _ h2 ok
  refine (pe_or (ha X k W x h1 ok) hb').imp fun σ H Q ⟨P, O, env, E, t⟩ => ?_
  unfold ev at t
  refine tV_of (k := fun c H1 => if c = true then Q (.bl true) H1 else tE X.K X.mg fx io cf W b σ H1 Q) ⟨P, O, env, E, (tT_part t).imp fun c env1 H1 O1 p1 ⟨_, t1⟩ => ?_⟩
  cases c with
  | false => exact ⟨P, O1, env1, p1.ok, TRes.imp t1 fun r e H' O' p2 q v o => q v (o.dom p1.dom)⟩
  | true => exact t1 H1 O1 (Post.refl p1.ok) _ (by simp only [ROk, Rep])
/-- a bool that is told, as a test -/
theorem testR_bl (b : Bool) (env : Env) : testR (.val (.bl b), env) = .ok (b, env) := rfl
theorem pw_any {X : Cx} {op : BoolOp} {l : List Expr} {p : Pos} {t : TT} (h : PT X (.BoolOp op l p) t) : PW X (.BoolOp op l p) t :=
  ⟨fun wh pins s σ H Q I q => by
    have e : isTrue (.BoolOp op l p) X.env wh = isTrue (.BoolOp op l p) X.env (eval (.BoolOp op l p) X.env) := by unfold PySem.isTrue; rfl
    rw [e]
    exact h.run pins s σ H Q I q⟩
theorem st_and {a b : Ex} (ha : ST fx io cf a) (hb : ST fx io cf b) : ST fx io cf (.and a b) := by
  intro X k W e h ok
  obtain ⟨x, y, r, p, rfl, h1, h2⟩ := chkE_and h
  have hb' : PW X (.BoolOp .And (y :: r) p) (tTt X.K X.mg fx io cf W b) := by
    rcases h2 with ⟨rfl, h2⟩ | ⟨_, h2⟩
    · exact pw_and1 (hb X k W y h2 ok)
    · exact pw_any (hb X k W _ h2 ok)
  refine (pw_and (ha X k W x h1 ok) hb').pt.imp fun σ H Q ⟨P, O, env, E, t⟩ => ?_
  unfold ev at t
  simp only [Res.bind_bind] at t
  refine ⟨P, O, env, E, (tT_part t).imp fun c env1 H1 O1 p1 ⟨_, t1⟩ => ?_⟩
  cases c with
  | true => exact ⟨P, O1, env1, p1.ok, t1⟩
  | false => exact t1 H1 O1 (Post.refl p1.ok)
theorem st_or {a b : Ex} (ha : ST fx io cf a) (hb : ST fx io cf b) : ST fx io cf (.or a b) := by
  intro X k W e h ok
  obtain ⟨x, y, r, p, rfl, h1, h2⟩ := chkE_or h
  have hb' : PW X (.BoolOp .Or (y :: r) p) (tTt X.K X.mg fx io cf W b) := by
    rcases h2 with ⟨rfl, h2⟩ | ⟨_, h2⟩
    · exact pw_or1 (hb X k W y h2 ok)
    · exact pw_any (hb X k W _ h2 ok)
  refine (pw_or (ha X k W x h1 ok) hb').pt.imp fun σ H Q ⟨P, O, env, E, t⟩ => ?_
  unfold ev at t
  simp only [Res.bind_bind] at t
  refine ⟨P, O, env, E, (tT_part t).imp fun c env1 H1 O1 p1 ⟨_, t1⟩ => ?_⟩
  cases c with
  | false => exact ⟨P, O1, env1, p1.ok, t1⟩
  | true => exact t1 H1 O1 (Post.refl p1.ok)
theorem se_ite {c a b : Ex} (hc : ST fx io cf c) (ha : SE fx io cf a) (hb : SE fx io cf b) : SE fx io cf (.ite c a b) := by
  intro X k W e h ok
  obtain ⟨x, y, z, p, rfl, h1, h2, h3⟩ := chkE_ite h
  refine (pe_ifExp (hc X k W x h1 ok) (ha X k W y h2 ok) (hb X k W z h3 ok)).imp fun σ H Q ⟨P, O, env, E, t⟩ => ?_
  unfold ev at t
  refine ⟨P, O, env, E, (tT_part t).imp fun c env1 H1 O1 p1 ⟨_, t1⟩ => ?_⟩
  cases c with
  | true => exact ⟨P, O1, env1, p1.ok, TRes.imp t1 fun r e H' O' p2 q v o => q v (o.dom p1.dom)⟩
  | false => exact ⟨P, O1, env1, p1.ok, TRes.imp t1 fun r e H' O' p2 q v o => q v (o.dom p1.dom)⟩
theorem pt_ifExp {X : Cx} {c a b : Expr} {tc ta tb : TT} {pos : Pos} (hc : PT X c tc) (ha : PT X a ta) (hb : PT X b tb) : PT X (.IfExp c a b pos) (fun σ H Q => tc σ H fun d H1 => if d = true then ta σ H1 Q else tb σ H1 Q) := by
  refine ⟨fun pins s σ H Q I h => ?_⟩
  unfold PySem.isTrue
  refine wpAny_bind (thn (hc.run pins s σ H _ I h) fun d s1 ⟨H1, I1, q1⟩ => ?_)
  cases d with
  | true => exact ha.run pins s1 σ H1 Q I1 q1
  | false => exact hb.run pins s1 σ H1 Q I1 q1
theorem st_ite {c a b : Ex} (hc : ST fx io cf c) (ha : ST fx io cf a) (hb : ST fx io cf b) : ST fx io cf (.ite c a b) := by
  intro X k W e h ok
  obtain ⟨x, y, z, p, rfl, h1, h2, h3⟩ := chkE_ite h
  refine (pt_ifExp (hc X k W x h1 ok) (ha X k W y h2 ok) (hb X k W z h3 ok)).imp fun σ H Q ⟨P, O, env, E, t⟩ => ?_
  unfold ev at t
  simp only [Res.bind_bind] at t
  refine ⟨P, O, env, E, (tT_part t).imp fun c env1 H1 O1 p1 ⟨_, t1⟩ => ?_⟩
  cases c with
  | true => exact ⟨P, O1, env1, p1.ok, t1⟩
  | false => exact ⟨P, O1, env1, p1.ok, t1⟩

/-! ### argument lists, displays -/
theorem sas_nil : SAs fx io cf .nil := by
  intro X k W es h ok
  rw [chks_nil h]
  refine pa_nil.imp fun σ H Q ⟨P, O, env, E, t⟩ => ?_
  unfold evs at t
  exact t H O (Post.refl E) _ rfl
theorem sas_cons {a : Ex} {l : Exs} (ha : SE fx io cf a) (hl : SAs fx io cf l) : SAs fx io cf (.cons a l) := by
  intro X k W es h ok
  obtain ⟨x, r, rfl, h1, h2⟩ := chks_cons h
  refine (pa_cons (ha X k W x h1 ok) (hl X k W r h2 ok) (star_eq (no_star h1))).imp fun σ H Q ⟨P, O, env, E, t⟩ => ?_
  unfold evs at t
  refine ⟨P, O, env, E, t.bind.imp fun r1 env1 H1 O1 p1 ⟨_, t1⟩ v1 o1 => ?_⟩
  refine ⟨P, O1, env1, p1.ok, t1.bind.imp fun as env2 H2 O2 p2 ⟨_, t2⟩ vs2 o2 => ?_⟩
  exact t2 H2 O2 (Post.refl p2.ok) _ ⟨v1, vs2, rfl, AOk.keep p1.ok p2 (ROk.arg E p1 o1), o2⟩
/-- a display's parts: plain data from now on -/
theorem disp_part {K : PySem.W.Frag} {mg : Str → Option Value} {W : Value → Option Addr → Hp → Prop} {P : Addr → Prop} {O : Nat → Option Addr} {H : Hp} {σ : L2.St} {env : Env} {as : List A} {vs : List V} {mk : List D → R} {kk : R → Env → Hp → (Nat → Option Addr) → Prop}
    (E : EnvOk K mg P O H σ env) (ak : AOks K mg P σ H O as vs)
    (t : TRes K mg W P O H σ env (match derefs env as with | some ds => if small ds.length then .ok (mk ds, frz env as) else .bad | none => .bad) kk) :
    ∃ ds O', Post K mg P O H σ env H (frz env as) O' ∧ Reps K mg (msk (Priv P O') H) ds vs ∧ vs.length ≤ sizeLine ∧ ∀ H2 O2, Post K mg P O H σ env H2 (frz env as) O2 → kk (mk ds) (frz env as) H2 O2 := by
  cases hd : derefs env as with
  | none => rw [hd] at t; exact t.elim
  | some ds =>
    simp only [hd] at t
    split at t
    · rename_i hs
      obtain ⟨O', po, r⟩ := E.frz ak
      have rr := r ds hd
      refine ⟨ds, O', po, rr, ?_, t⟩
      rw [← rr.length]
      exact of_decide_eq_true hs
    · exact t.elim
theorem se_tup {l : Exs} (hl : SAs fx io cf l) : SE fx io cf (.tup l) := by
  intro X k W e h ok
  obtain ⟨es, c, p, rfl, h1⟩ := chkE_tup h
  refine (pe_tup (hl X k W es h1 ok)).imp fun σ H Q ⟨P, O, env, E, t⟩ => ?_
  unfold ev at t
  refine ⟨P, O, env, E, t.bind.imp fun as env1 H1 O1 p1 ⟨_, t1⟩ vs ak => ?_⟩
  obtain ⟨ds, O2, po, rr, hz, q⟩ := disp_part (mk := fun ds => .val (.tup ds)) p1.ok ak t1
  refine ⟨hz, fun a ha => ?_⟩
  obtain ⟨k1, r1⟩ := OpPost.tup po.ok.priv ha rr
  exact q _ O2 (po.trans (Post.same po.ok k1)) _ r1
theorem se_lst {l : Exs} (hl : SAs fx io cf l) : SE fx io cf (.lst l) := by
  intro X k W e h ok
  obtain ⟨es, p, rfl, h1⟩ := chkE_lst h
  refine (pe_lst (hl X k W es h1 ok)).imp fun σ H Q ⟨P, O, env, E, t⟩ => ?_
  unfold ev at t
  refine ⟨P, O, env, E, t.bind.imp fun as env1 H1 O1 p1 ⟨_, t1⟩ vs ak => ?_⟩
  obtain ⟨ds, O2, po, rr, hz, q⟩ := disp_part (mk := fun ds => .fr (.lst ds)) p1.ok ak t1
  refine ⟨hz, fun a ha => ?_⟩
  obtain ⟨p3, r3⟩ := (OpPost.lst ha rr).fin po.ok
  exact q _ O2 (po.trans p3) _ (r3.dom (p1.trans po).dom)
/-- a built-in's call -/
theorem se_blt {b : Blt} {l : Exs} (hl : SAs fx io cf l) : SE fx io cf (.blt b l) := by
  intro X k W e h ok
  obtain ⟨p, es, p2, rfl, h0, hne, h1⟩ := chkE_blt h
  obtain ⟨g1, g2, g3⟩ := ok.glX h0
  have hm : X.mg b.name = none := ok.blt _ (by cases b <;> decide)
  obtain ⟨x, r, rfl⟩ : ∃ x r, es = x :: r := by
    cases es with
    | nil => exact absurd rfl hne
    | cons x r => exact ⟨x, r, rfl⟩
  have hA := hl X k W _ h1 ok
  have star : isStar x = false := by
    cases l with
    | nil => exact Bool.noConfusion (show false = true from h1)
    | cons a l =>
      obtain ⟨x', r', e', q1, _⟩ := chks_cons h1
      cases e'
      exact no_star q1
  have pl : (backTo p2 (starEach r X.env)).any (·.1) = false := by
    cases l with
    | nil => exact Bool.noConfusion (show false = true from h1)
    | cons a l =>
      obtain ⟨x', r', e', _, q2⟩ := chks_cons h1
      cases e'
      exact noStars q2
  have base : PE X (.Call (.Name b.name p) (x :: r) [] p2) (tCB (rBlt X.K b) (tAs X.K X.mg fx io cf W l)) := by
    have hc := call_blt (X := X) ok.calm b
    have hb := boot_blt b
    cases b <;> first
      | exact pe_callB hc g1 hm hb hA g3 g2 (star_eq star) pl
      | exact pe_callTy hc g1 hm hb hA g3 g2 (star_eq star) pl
  refine base.imp fun σ H Q ⟨P, O, env, E, t⟩ => ?_
  unfold ev at t
  refine ⟨P, O, env, E, t.bind.imp fun as env1 H1 O1 p1 ⟨_, t1⟩ vs ak => ?_⟩
  exact strict_go p1.ok ak (blt_ok b) p1.dom t1
end
end MP
end
section
set_option Elab.async false
set_option linter.all false
set_option maxRecDepth 100000
set_option maxHeartbeats 1000000
/-! MPN: slices, chains, methods. -/
namespace MP
open PySem PySem.Spec PyProof.Rows L2
section
variable {X : Cx} {k : Kx} {W : WX} {fx : List Nat} {io : Str → List Bool} {cf : Str → List D → RC}
def tOo (K : PySem.W.Frag) (mg : Str → Option Value) (fx : List Nat) (io : Str → List Bool) (cf : Str → List D → RC) (W : WX) (e : Oe) : TO := fun σ H Q => ∃ P O env, EnvOk K mg P O H σ env ∧ TRes K mg (fun c d H' => W c d σ H') P O H σ env (evO fx io cf e env) (fun i env' H' O' => Q i H')
def SO (fx : List Nat) (io : Str → List Bool) (cf : Str → List D → RC) (o : Oe) : Prop := ∀ (X : Cx) (k : Kx) (W : WX) (e : Option Expr), chkO o k e = true → Okc X k W io cf → PO X e (tOo X.K X.mg fx io cf W o)
theorem _root_.L2.PO.imp {X : Cx} {e : Option Expr} {t t' : TO} (h : PO X e t) (i : ∀ σ H Q, t' σ H Q → t σ H Q) : PO X e t' := ⟨fun pins s σ H Q I q => h.run pins s σ H Q I (i σ H Q q)⟩
theorem so_no : SO fx io cf .no := by
  intro X k W e h ok
  cases e with
  | some x => exact Bool.noConfusion (show false = true from h)
  | none =>
    refine po_none.imp fun σ H Q ⟨P, O, env, E, t⟩ => ?_
    unfold evO at t
    exact t H O (Post.refl E)
theorem so_yes {a : Ex} (ha : SE fx io cf a) : SO fx io cf (.yes a) := by
  intro X k W e h ok
  cases e with
  | none => exact Bool.noConfusion (show false = true from h)
  | some x =>
    have h : chkE a k x = true := h
    refine (po_some (ha X k W x h ok)).imp fun σ H Q ⟨P, O, env, E, t⟩ => ?_
    unfold evO at t
    refine ⟨P, O, env, E, t.bind.imp fun r env1 H1 O1 p1 ⟨_, t1⟩ v o => ?_⟩
    cases r with
    | fr d => exact t1.elim
    | own i => exact t1.elim
    | val d =>
      cases d with
      | int i =>
        have e : v = .int i := by
          have o : Rep X.K X.mg (msk (Priv P O1) H1) (.int i) v := o
          simpa only [Rep] using o
        exact ⟨i, e, t1 H1 O1 (Post.refl p1.ok)⟩
      | _ => exact t1.elim
theorem se_sl {a : Ex} {lo hi : Oe} (ha : SE fx io cf a) (hl : SO fx io cf lo) (hh : SO fx io cf hi) : SE fx io cf (.sl a lo hi) := by
  intro X k W e h ok
  obtain ⟨x, l, u, p, p2, rfl, h1, h2, h3⟩ := chkE_sl h
  refine (pe_slice (sl_tupA.or sl_list) (ha X k W x h1 ok) (hl X k W l h2 ok) (hh X k W u h3 ok)).imp fun σ H Q ⟨P, O, env, E, t⟩ => ?_
  unfold ev at t
  refine ⟨P, O, env, E, t.bind.imp fun r env1 H1 O1 p1 ⟨_, t1⟩ v o => ?_⟩
  refine ⟨P, O1, env1, p1.ok, t1.bind.imp fun i env2 H2 O2 p2 ⟨_, t2⟩ => ?_⟩
  refine ⟨P, O2, env2, p2.ok, t2.bind.imp fun j env3 H3 O3 p3 ⟨_, t3⟩ => ?_⟩
  have a1 : AOk X.K X.mg P σ H3 O3 v r.arg := AOk.keep p2.ok p3 (AOk.keep p1.ok p2 (ROk.arg E p1 o))
  have okp : OpOk X.K X.mg (fun vs H Q => ∃ v, vs = [v] ∧ (rSlA X.K v i j H Q ∨ rSlL X.K v i j H Q)) (fun ds => match ds with | [d] => slD d i j | _ => none) := by
    intro S H ds vs rd Q hS tt f q
    dsimp only at f
    split at f
    · obtain ⟨v, rfl, tv⟩ := tt.one
      exact ⟨v, rfl, sl_ok hS tv f q⟩
    · cases f
  obtain ⟨v', e, q⟩ := strict_go (as := [r.arg]) (vs := [v]) p3.ok ⟨v, [], rfl, a1, rfl⟩ okp ((p1.trans p2).trans p3).dom t3
  cases e
  exact q
/-- a chain's reading -/
theorem chain_read {o o2 : Cmp} {a b c : Ex} {X : Cx} {W : WX} {σ : L2.St} {H : Hp} {Q : VK} (h : tE X.K X.mg fx io cf W (.chain o o2 a b c) σ H Q) :
    tChain (rCmp X.K o) (rCmp X.K o2) (tE X.K X.mg fx io cf W a) (tE X.K X.mg fx io cf W b) (tE X.K X.mg fx io cf W c) σ H Q := by
  obtain ⟨P, O, env, E, t⟩ := h
  unfold ev at t
  refine ⟨P, O, env, E, t.bind.imp fun r1 env1 H1 O1 p1 ⟨_, t1⟩ v1 o1 => ?_⟩
  refine ⟨P, O1, env1, p1.ok, t1.bind.imp fun r2 env2 H2 O2 p2 ⟨_, t2⟩ v2 o2' => ?_⟩
  have a1 : AOk X.K X.mg P σ H2 O2 v1 r1.arg := AOk.keep p1.ok p2 (ROk.arg E p1 o1)
  have a2 : AOk X.K X.mg P σ H2 O2 v2 r2.arg := ROk.arg p1.ok p2 o2'
  have t3 := t2.bind
  have go : ∀ {Q' : VK}, TRes X.K X.mg (fun c d H' => W c d σ H') P O2 H2 σ env2 (strict (fun ds => match ds with | [d, e] => (cmpD o d e).map fun b => .val (.bl b) | _ => none) [r1.arg, r2.arg] env2) (fun rd env' H' O' => ∀ v, ROk X.K X.mg P H2 σ H' env' O' v rd → Q' v H') → r2of (rCmp X.K o) [v1, v2] H2 Q' := fun {Q'} tt =>
    strict_go (as := [r1.arg, r2.arg]) (vs := [v1, v2]) p2.ok ⟨v1, [v2], rfl, a1, v2, [], rfl, a2, rfl⟩ (cmp_ok o) (fun a o h => ⟨o, h⟩) tt
  obtain ⟨x, y, e, q⟩ := go (Q' := fun z H3 => ∃ k, z = .bl k ∧ (if k = true then tE X.K X.mg fx io cf W c σ H3 (fun w' H4 => rCmp X.K o2 v2 w' H4 Q) else Q (.bl false) H3)) (t3.imp fun r3 env3 H3 O3 p3 ⟨_, t4⟩ v3 o3 => by
    have t5 := t4.bind
    unfold testR at t5
    cases hd : deref env3 r3.arg with
    | none => simp only [hd] at t5; exact t5.elim
    | some d =>
      simp only [hd] at t5
      have tp := AOk.top p3.ok (ROk.arg p2.ok p3 o3) hd
      cases d <;> first | exact t5.elim | skip
      rename_i bb
      refine ⟨bb, tp.bl, ?_⟩
      obtain ⟨_, t6⟩ := t5 H3 O3 (Post.refl p3.ok)
      cases bb with
      | false => exact t6 H3 O3 (Post.refl p3.ok) _ (by simp only [ROk, Rep])
      | true =>
        refine ⟨P, O3, env3, p3.ok, t6.bind.imp fun r4 env4 H4 O4 p4 ⟨_, t7⟩ v4 o4 => ?_⟩
        have b2 : AOk X.K X.mg P σ H4 O4 v2 r2.arg := AOk.keep p3.ok p4 (AOk.keep p2.ok p3 a2)
        have b4 : AOk X.K X.mg P σ H4 O4 v4 r4.arg := ROk.arg p3.ok p4 o4
        obtain ⟨x, y, e, q⟩ := strict_go (as := [r2.arg, r4.arg]) (vs := [v2, v4]) p4.ok ⟨v2, [v4], rfl, b2, v4, [], rfl, b4, rfl⟩ (cmp_ok o2) (((p1.trans p2).trans p3).trans p4).dom t7
        cases e
        exact q)
  cases e
  exact q
theorem marks2 {op op2 : CmpOp} {y z : Expr} (h2 : behindInMarks op2 z = false) : lastMarks [op, op2] [y, z] = false := by
  show behindInMarks op2 z = false
  exact h2
theorem se_chain {o o2 : Cmp} {a b c : Ex} (ha : SE fx io cf a) (hb : SE fx io cf b) (hc : SE fx io cf c) : SE fx io cf (.chain o o2 a b c) := by
  intro X k W e h ok
  obtain ⟨x, op, op2, y, z, p, rfl, g1, g2, m1, m2, h1, h2, h3⟩ := chkE_chain h
  exact (pe_chain (op_cmp ok.unit g1) (op_cmp ok.unit g2) (ha X k W x h1 ok) (hb X k W y h2 ok) (hc X k W z h3 ok) (marks2 m2)).imp fun σ H Q t => chain_read t
theorem st_chain {o o2 : Cmp} {a b c : Ex} (ha : SE fx io cf a) (hb : SE fx io cf b) (hc : SE fx io cf c) : ST fx io cf (.chain o o2 a b c) := by
  intro X k W e h ok
  obtain ⟨x, op, op2, y, z, p, rfl, g1, g2, m1, m2, h1, h2, h3⟩ := chkE_chain h
  refine (pt_chain (op_cmp ok.unit g1) (op_cmp ok.unit g2) (ha X k W x h1 ok) (hb X k W y h2 ok) (hc X k W z h3 ok) (marks2 m2)).imp fun σ H Q t => ?_
  have t2 := tB_of t
  exact chain_read t2
end
end MP
end
section
set_option Elab.async false
set_option linter.all false
set_option maxRecDepth 100000
set_option maxHeartbeats 1000000
/-! MPO: calls of the text's own defs. -/
namespace MP
open PySem PySem.Spec PyProof.Rows L2

theorem ioSlots_true {bs : List Bool} {a : A} {as : List A} {env : Env} {sl : List Nat} (h : ioSlots (true :: bs) (a :: as) env = some sl) : ∃ i r, a = .own i ∧ (∃ d, env[i]? = some (.ow d)) ∧ ioSlots bs as env = some r ∧ sl = i :: r := by
  cases a with
  | val d => simp [ioSlots] at h
  | own i =>
    simp only [ioSlots] at h
    split at h
    · rename_i hi
      obtain ⟨r, hr, rfl⟩ := Option.map_eq_some_iff.mp h
      refine ⟨i, r, rfl, ?_, hr, rfl⟩
      cases q : env[i]? with
      | none => rw [q] at hi; cases hi
      | some s => rw [q] at hi; cases s <;> first | exact ⟨_, rfl⟩ | cases hi
    · cases h
theorem ioSlots_mem : ∀ {bs : List Bool} {as : List A} {env : Env} {sl : List Nat}, ioSlots bs as env = some sl → ∀ i, i ∈ sl ↔ ∃ p, as[p]? = some (.own i) ∧ bs.getD p false = true
  | [], as, env, sl, h, i => by
    simp only [ioSlots, Option.some.injEq] at h; subst h; simp
  | true :: bs, [], env, sl, h, i => by
    simp only [ioSlots, Option.some.injEq] at h; subst h; simp
  | false :: bs, [], env, sl, h, i => by
    simp only [ioSlots, Option.some.injEq] at h; subst h; simp
  | true :: bs, a :: as, env, sl, h, i => by
    obtain ⟨j, r, rfl, _, hr, rfl⟩ := ioSlots_true h
    have ih := ioSlots_mem hr i
    constructor
    · intro hm
      rcases List.mem_cons.mp hm with rfl | hm
      · exact ⟨0, rfl, rfl⟩
      · obtain ⟨p, h1, h2⟩ := ih.mp hm
        exact ⟨p + 1, by simpa using h1, by simpa using h2⟩
    · rintro ⟨p, h1, h2⟩
      cases p with
      | zero => simp at h1; subst h1; exact List.mem_cons_self
      | succ p => exact List.mem_cons_of_mem _ (ih.mpr ⟨p, by simpa using h1, by simpa using h2⟩)
  | false :: bs, a :: as, env, sl, h, i => by
    have ih := ioSlots_mem (show ioSlots bs as env = some sl from h) i
    constructor
    · intro hm
      obtain ⟨p, h1, h2⟩ := ih.mp hm
      exact ⟨p + 1, by simpa using h1, by simpa using h2⟩
    · rintro ⟨p, h1, h2⟩
      cases p with
      | zero => simp at h2
      | succ p => exact ih.mpr ⟨p, by simpa using h1, by simpa using h2⟩
/-- an open argument's place is told by its slot -/
theorem ioSlots_at : ∀ {bs : List Bool} {as : List A} {env : Env} {sl : List Nat}, ioSlots bs as env = some sl → ∀ p a, as[p]? = some a → bs.getD p false = true → ∃ i, a = .own i ∧ ∃ d, env[i]? = some (.ow d)
  | [], as, env, sl, h, p, a, _, e => by simp at e
  | true :: bs, [], env, sl, h, p, a, e, _ => by simp at e
  | false :: bs, [], env, sl, h, p, a, e, _ => by simp at e
  | true :: bs, a :: as, env, sl, h, p, b, e, e2 => by
    obtain ⟨j, r, rfl, hd, hr, rfl⟩ := ioSlots_true h
    cases p with
    | zero => simp at e; subst e; exact ⟨j, rfl, hd⟩
    | succ p => exact ioSlots_at hr p b (by simpa using e) (by simpa using e2)
  | false :: bs, a :: as, env, sl, h, p, b, e, e2 => by
    cases p with
    | zero => simp at e2
    | succ p => exact ioSlots_at (show ioSlots bs as env = some sl from h) p b (by simpa using e) (by simpa using e2)
theorem ioSlots_inj : ∀ {bs : List Bool} {as : List A} {env : Env} {sl : List Nat}, ioSlots bs as env = some sl → sl.Nodup → ∀ p q i, as[p]? = some (.own i) → as[q]? = some (.own i) → bs.getD p false = true → bs.getD q false = true → p = q
  | [], as, env, sl, h, _, p, q, i, _, _, e, _ => by simp at e
  | true :: bs, [], env, sl, h, _, p, q, i, e, _, _, _ => by simp at e
  | false :: bs, [], env, sl, h, _, p, q, i, e, _, _, _ => by simp at e
  | true :: bs, a :: as, env, sl, h, nd, p, q, i, e1, e2, e3, e4 => by
    obtain ⟨j, r, rfl, hd, hr, rfl⟩ := ioSlots_true h
    obtain ⟨n1, n2⟩ := List.nodup_cons.mp nd
    cases p with
    | zero =>
      cases q with
      | zero => rfl
      | succ q =>
        simp at e1; subst e1
        exact absurd ((ioSlots_mem hr j).mpr ⟨q, by simpa using e2, by simpa using e4⟩) n1
    | succ p =>
      cases q with
      | zero =>
        simp at e2; subst e2
        exact absurd ((ioSlots_mem hr j).mpr ⟨p, by simpa using e1, by simpa using e3⟩) n1
      | succ q => exact congrArg (· + 1) (ioSlots_inj hr n2 p q i (by simpa using e1) (by simpa using e2) (by simpa using e3) (by simpa using e4))
  | false :: bs, a :: as, env, sl, h, nd, p, q, i, e1, e2, e3, e4 => by
    cases p with
    | zero => simp at e3
    | succ p =>
      cases q with
      | zero => simp at e4
      | succ q => exact congrArg (· + 1) (ioSlots_inj (show ioSlots bs as env = some sl from h) nd p q i (by simpa using e1) (by simpa using e2) (by simpa using e3) (by simpa using e4))
theorem setOuts_out : ∀ (sl : List Nat) (os : List D) (env : Env) (i : Nat), i ∉ sl → (setOuts env sl os)[i]? = env[i]?
  | [], os, env, i, _ => by cases os <;> rfl
  | j :: sl, [], env, i, _ => rfl
  | j :: sl, o :: os, env, i, h => by
    simp only [List.mem_cons, not_or] at h
    show (setOuts (env.set j (.ow o)) sl os)[i]? = _
    rw [setOuts_out sl os _ i h.2, List.getElem?_set_ne (Ne.symm h.1)]
theorem setOuts_len : ∀ (sl : List Nat) (os : List D) (env : Env), (setOuts env sl os).length = env.length
  | [], os, env => by cases os <;> rfl
  | j :: sl, [], env => rfl
  | j :: sl, o :: os, env => by
    show (setOuts (env.set j (.ow o)) sl os).length = _
    rw [setOuts_len sl os]; simp
/-- an open argument's data behind the call -/
theorem setOuts_at : ∀ {bs : List Bool} {as : List A} {env0 env : Env} {sl : List Nat} {ds os : List D}, ioSlots bs as env0 = some sl → sl.Nodup → (∀ p i d, as[p]? = some (.own i) → bs.getD p false = true → ds[p]? = some d → env[i]? = some (.ow d)) →
    ∀ p i d, as[p]? = some (.own i) → bs.getD p false = true → (mergeO bs ds os)[p]? = some d → as.length = ds.length → (setOuts env sl os)[i]? = some (.ow d)
  | [], as, env0, env, sl, ds, os, h, _, _, p, i, d, _, e, _, _ => by simp at e
  | true :: bs, [], env0, env, sl, ds, os, h, _, _, p, i, d, e, _, _, _ => by simp at e
  | false :: bs, [], env0, env, sl, ds, os, h, _, _, p, i, d, e, _, _, _ => by simp at e
  | true :: bs, a :: as, env0, env, sl, [], os, h, nd, hd, p, i, d, e1, e2, e3, e4 => by simp at e4
  | false :: bs, a :: as, env0, env, sl, [], os, h, nd, hd, p, i, d, e1, e2, e3, e4 => by simp at e4
  | true :: bs, a :: as, env0, env, sl, x :: ds, [], h, nd, hd, p, i, d, e1, e2, e3, e4 => by
    have st : (setOuts env sl [])[i]? = env[i]? := by cases sl <;> rfl
    rw [st]
    obtain ⟨j, r, rfl, _, hr, rfl⟩ := ioSlots_true h
    cases p with
    | zero => exact hd 0 i d e1 e2 (by simpa [mergeO] using e3)
    | succ p =>
      obtain ⟨n1, n2⟩ := List.nodup_cons.mp nd
      have := setOuts_at (env := env) (ds := ds) (os := []) hr n2 (fun p i d a b c => hd (p + 1) i d (by simpa using a) (by simpa using b) (by simpa using c)) p i d (by simpa using e1) (by simpa using e2) (by simpa [mergeO] using e3) (by simpa using e4)
      rw [show (setOuts env r [])[i]? = env[i]? by cases r <;> rfl] at this
      exact this
  | true :: bs, a :: as, env0, env, sl, x :: ds, o :: os, h, nd, hd, p, i, d, e1, e2, e3, e4 => by
    obtain ⟨j, r, rfl, _, hr, rfl⟩ := ioSlots_true h
    obtain ⟨n1, n2⟩ := List.nodup_cons.mp nd
    show (setOuts (env.set j (.ow o)) r os)[i]? = _
    cases p with
    | zero =>
      simp at e1; subst e1
      simp [mergeO] at e3; subst e3
      rw [setOuts_out r os _ j n1]
      have hj : j < env.length := (List.getElem?_eq_some_iff.mp (hd 0 j x rfl rfl rfl)).1
      rw [List.getElem?_set_self hj]
    | succ p =>
      refine setOuts_at (ds := ds) hr n2 (fun q l d a b c => ?_) p i d (by simpa using e1) (by simpa using e2) (by simpa [mergeO] using e3) (by simpa using e4)
      have nl : j ≠ l := fun z => by subst z; exact n1 ((ioSlots_mem hr j).mpr ⟨q, a, b⟩)
      rw [List.getElem?_set_ne nl]
      exact hd (q + 1) l d (by simpa using a) (by simpa using b) (by simpa using c)
  | false :: bs, a :: as, env0, env, sl, x :: ds, os, h, nd, hd, p, i, d, e1, e2, e3, e4 => by
    cases p with
    | zero => simp at e2
    | succ p =>
      exact setOuts_at (show ioSlots bs as env0 = some sl from h) nd (fun q l d a b c => hd (q + 1) l d (by simpa using a) (by simpa using b) (by simpa using c)) p i d (by simpa using e1) (by simpa using e2) (by
        cases os <;> simpa [mergeO] using e3) (by simpa using e4)
theorem mergeO_len : ∀ (bs : List Bool) (ds os : List D), (mergeO bs ds os).length = ds.length
  | [], ds, os => by simp [mergeO]
  | true :: bs, [], os => by cases os <;> simp [mergeO]
  | false :: bs, [], os => by cases os <;> simp [mergeO]
  | true :: bs, d :: ds, [] => by simp [mergeO, mergeO_len bs ds []]
  | true :: bs, d :: ds, o :: os => by simp [mergeO, mergeO_len bs ds os]
  | false :: bs, d :: ds, os => by cases os <;> simp [mergeO, mergeO_len bs ds]
theorem mergeO_no : ∀ (bs : List Bool) (ds os : List D) (p : Nat), bs.getD p false = false → (mergeO bs ds os)[p]? = ds[p]?
  | [], ds, os, p, _ => by simp [mergeO]
  | true :: bs, [], os, p, _ => by cases os <;> simp [mergeO]
  | false :: bs, [], os, p, _ => by cases os <;> simp [mergeO]
  | true :: bs, d :: ds, os, 0, h => by simp at h
  | true :: bs, d :: ds, [], p + 1, h => by simpa [mergeO] using mergeO_no bs ds [] p (by simpa using h)
  | true :: bs, d :: ds, o :: os, p + 1, h => by simpa [mergeO] using mergeO_no bs ds os p (by simpa using h)
  | false :: bs, d :: ds, os, 0, h => by cases os <;> simp [mergeO]
  | false :: bs, d :: ds, os, p + 1, h => by
    have := mergeO_no bs ds os p (by simpa using h)
    cases os <;> simpa [mergeO] using this
theorem startE_at {bs : List Bool} {ds : List D} {n p : Nat} {d : D} (h : ds[p]? = some d) : (startE bs ds n)[p]? = some (if bs.getD p false then .ow d else .sh d) := by
  have hp : p < ds.length := (List.getElem?_eq_some_iff.mp h).1
  unfold startE
  rw [List.getElem?_append_left (by simpa using hp), List.getElem?_map, List.getElem?_zipIdx, h]
  simp
theorem startE_len {bs : List Bool} {ds : List D} : (startE bs ds ds.length).length = ds.length := by unfold startE; simp
theorem derefs_len {env : Env} : ∀ {as : List A} {ds : List D}, derefs env as = some ds → as.length = ds.length
  | [], ds, h => by simp only [derefs, Option.some.injEq] at h; subst h; rfl
  | a :: as, ds, h => by
    simp only [derefs] at h
    obtain ⟨d, _, h⟩ := Option.bind_eq_some_iff.mp h
    obtain ⟨ds', e, rfl⟩ := Option.map_eq_some_iff.mp h
    simp [derefs_len e]
theorem derefs_at {env : Env} : ∀ {as : List A} {ds : List D} {p : Nat} {a : A}, derefs env as = some ds → as[p]? = some a → ∃ d, ds[p]? = some d ∧ deref env a = some d
  | [], ds, p, a, h, e => by simp at e
  | b :: as, ds, p, a, h, e => by
    simp only [derefs] at h
    obtain ⟨d, e1, h⟩ := Option.bind_eq_some_iff.mp h
    obtain ⟨ds', e2, rfl⟩ := Option.map_eq_some_iff.mp h
    cases p with
    | zero => simp at e; subst e; exact ⟨d, rfl, e1⟩
    | succ p => simpa using derefs_at e2 (by simpa using e)
theorem AOks.len {K : PySem.W.Frag} {mg : Str → Option Value} {P : Addr → Prop} {σ : L2.St} {H : Hp} {O : Nat → Option Addr} : ∀ {as : List A} {vs : List V}, AOks K mg P σ H O as vs → as.length = vs.length
  | [], vs, h => by rw [show vs = [] from h]; rfl
  | a :: as, vs, ⟨v, r, e, _, h2⟩ => by subst e; simp [AOks.len h2]
theorem AOks.at {K : PySem.W.Frag} {mg : Str → Option Value} {P : Addr → Prop} {σ : L2.St} {H : Hp} {O : Nat → Option Addr} : ∀ {as : List A} {vs : List V} {p : Nat} {a : A}, AOks K mg P σ H O as vs → as[p]? = some a → ∃ v, vs[p]? = some v ∧ AOk K mg P σ H O v a
  | [], vs, p, a, _, e => by simp at e
  | b :: as, vs, p, a, ⟨v, r, e0, h1, h2⟩, e => by
    subst e0
    cases p with
    | zero => simp at e; subst e; exact ⟨v, rfl, h1⟩
    | succ p => simpa using AOks.at h2 (by simpa using e)
/-- frozen slots are plain -/
theorem frz_toSh : ∀ (as : List A) {env : Env} (i : Nat) (s : Slot), (frz env as)[i]? = some s → ∃ t, env[i]? = some t ∧ (s = t ∨ s = toSh t) ∧ (A.own i ∈ as → s = toSh t)
  | [], env, i, s, h => ⟨s, h, .inl rfl, fun z => by cases z⟩
  | a :: as, env, i, s, h => by
    obtain ⟨t, h1, h2, h3⟩ := frz_toSh as (env := frz1 env a) i s h
    have tt : ∀ u : Slot, toSh (toSh u) = toSh u := fun u => by cases u <;> rfl
    cases a with
    | val d => exact ⟨t, h1, h2, fun z => h3 (by simpa using z)⟩
    | own j =>
      by_cases e : j = i
      · subst e
        have h1 : (env.modify j toSh)[j]? = some t := h1
        rw [mod_self] at h1
        obtain ⟨u, hu, rfl⟩ := Option.map_eq_some_iff.mp h1
        rw [tt] at h2
        have : s = toSh u := by rcases h2 with h2 | h2 <;> exact h2
        exact ⟨u, hu, .inr this, fun _ => this⟩
      · have h1 : (env.modify j toSh)[i]? = some t := h1
        rw [mod_ne e] at h1
        refine ⟨t, h1, h2, fun z => h3 ?_⟩
        rcases List.mem_cons.mp z with z | z
        · cases z; exact absurd rfl e
        · exact z
theorem mem_nonIo : ∀ {bs : List Bool} {as : List A} {p : Nat} {a : A}, as[p]? = some a → bs.getD p false = false → a ∈ nonIo bs as
  | [], as, p, a, h, _ => by
    have : a ∈ as := List.mem_of_getElem? h
    cases as <;> simpa [nonIo] using this
  | true :: bs, [], p, a, h, _ => by simp at h
  | false :: bs, [], p, a, h, _ => by simp at h
  | true :: bs, b :: as, 0, a, h, e => by simp at e
  | true :: bs, b :: as, p + 1, a, h, e => by
    show a ∈ nonIo bs as
    exact mem_nonIo (by simpa using h) (by simpa using e)
  | false :: bs, b :: as, 0, a, h, e => by simp at h; subst h; show b ∈ b :: nonIo bs as; exact List.mem_cons_self
  | false :: bs, b :: as, p + 1, a, h, e => by
    show a ∈ b :: nonIo bs as
    exact List.mem_cons_of_mem _ (mem_nonIo (by simpa using h) (by simpa using e))
end MP
end
section
set_option Elab.async false
set_option linter.all false
set_option maxRecDepth 100000
set_option maxHeartbeats 1000000
/-! MPP: calls of the text's own defs: soundness. -/
namespace MP
open PySem PySem.Spec PyProof.Rows L2
section
variable {K : PySem.W.Frag} {mg : Str → Option Value} {P : Addr → Prop} {O : Nat → Option Addr} {H H' : Hp} {σ : L2.St} {env : Env} {bs : List Bool} {as : List A} {vs : List V} {ds outs : List D} {sl : List Nat}
/-- the open arguments' addresses, by place -/
def aOf (bs : List Bool) (as : List A) (O : Nat → Option Addr) : Nat → Option Addr := fun p => if bs.getD p false then (match as[p]? with | some (.own i) => O i | _ => none) else none
theorem aOf_some {p : Nat} {a : Addr} (h : aOf bs as O p = some a) : bs.getD p false = true ∧ ∃ i, as[p]? = some (.own i) ∧ O i = some a := by
  unfold aOf at h
  split at h
  · rename_i hb
    refine ⟨hb, ?_⟩
    split at h
    · rename_i i e; exact ⟨i, e, h⟩
    · cases h
  · cases h
/-- a call's situation: the other arguments are plain, the open ones stand in open slots -/
structure Sit (K : PySem.W.Frag) (mg : Str → Option Value) (P : Addr → Prop) (O : Nat → Option Addr) (H : Hp) (σ : L2.St) (env : Env) (bs : List Bool) (as : List A) (vs : List V) (ds : List D) (sl : List Nat) (env0 : Env) : Prop where
  E : EnvOk K mg P O H σ env
  ak : AOks K mg P σ H O as vs
  dd : derefs env as = some ds
  io : ioSlots bs as env0 = some sl
  nd : sl.Nodup
  ow : ∀ i ∈ sl, ∃ d, env[i]? = some (.ow d)
  sh : ∀ p i s, as[p]? = some (.own i) → bs.getD p false = false → env[i]? = some s → s = toSh s
def privOf (P : Addr → Prop) (O : Nat → Option Addr) (bs : List Bool) (as : List A) : Addr → Prop := fun a => Priv P O a ∧ ¬ ofIo (aOf bs as O) a
theorem priv_of : ∀ a, Priv (privOf P O bs as) (aOf bs as O) a ↔ Priv P O a := fun a => by
  constructor
  · rintro (⟨h, _⟩ | ⟨p, h⟩)
    · exact h
    · obtain ⟨_, i, _, e⟩ := aOf_some h
      exact .inr ⟨i, e⟩
  · intro h
    by_cases z : ofIo (aOf bs as O) a
    · exact .inr z
    · exact .inl ⟨h, z⟩
theorem priv_eq : Priv (privOf P O bs as) (aOf bs as O) = Priv P O := funext fun a => propext (priv_of a)
variable {env0 : Env}
/-- what the callee is handed -/
theorem Sit.start (S : Sit K mg P O H σ env bs as vs ds sl env0) : EnvOk K mg (privOf P O bs as) (aOf bs as O) H (vs.map some) (startE bs ds ds.length) := by
  have l1 := derefs_len S.dd
  have l2 := S.ak.len
  refine ⟨?_, fun p s hs => ?_, fun p hp => ?_, fun p q a h1 h2 => ?_, fun p a h1 h2 => h2.2 ⟨p, h1⟩, fun a h => S.E.priv a h.1⟩
  · rw [startE_len, List.length_map]; omega
  · have hp : p < ds.length := by have := (List.getElem?_eq_some_iff.mp hs).1; rwa [startE_len] at this
    have e1 : ds[p]? = some ds[p] := List.getElem?_eq_getElem hp
    rw [startE_at e1] at hs
    have hs := Option.some.inj hs
    have ea : as[p]? = some (as[p]'(by omega)) := List.getElem?_eq_getElem (by omega)
    obtain ⟨v, ev, av⟩ := S.ak.at ea
    obtain ⟨d, ed, dd⟩ := derefs_at S.dd ea
    rw [e1] at ed; cases ed
    have sv : (vs.map some)[p]? = some (some v) := by rw [List.getElem?_map, ev]; rfl
    rw [priv_eq, sv]
    cases hb : bs.getD p false with
    | true =>
      rw [hb] at hs
      simp only [if_true] at hs
      subst hs
      obtain ⟨i, ei, _⟩ := ioSlots_at S.io p _ ea hb
      rw [ei] at ea av dd
      obtain ⟨d, hd⟩ := S.ow i ((ioSlots_mem S.io i).mpr ⟨p, ea, hb⟩)
      have z := S.E.sl i _ hd
      obtain ⟨a, z1, z2, z3⟩ := z
      have av : σ[i]? = some (some v) := av
      rw [z2] at av; cases av
      simp only [deref, hd, Option.bind_some, slotD, Option.some.injEq] at dd
      subst dd
      refine ⟨a, ?_, rfl, z3⟩
      unfold aOf
      rw [if_pos hb, ea]
      exact z1
    | false =>
      rw [hb] at hs
      simp only [Bool.false_eq_true, if_false] at hs
      subst hs
      refine ⟨by unfold aOf; rw [if_neg (by rw [hb]; exact Bool.false_ne_true)], v, rfl, ?_⟩
      cases q : as[p]'(by omega) with
      | val x =>
        rw [q] at av dd
        simp only [deref, Option.some.injEq] at dd
        subst dd
        exact av
      | own i =>
        rw [q] at av dd ea
        have av : σ[i]? = some (some v) := av
        cases q2 : env[i]? with
        | none => simp only [deref, q2] at dd; cases dd
        | some s =>
          have e := S.sh p i s ea hb q2
          have z := S.E.sl i s q2
          simp only [deref, q2, Option.bind_some] at dd
          cases s with
          | un => simp only [slotD] at dd; cases dd
          | ow x => cases e
          | lk x => cases e
          | sh x =>
            simp only [slotD, Option.some.injEq] at dd
            subst dd
            obtain ⟨_, u, z1, z2⟩ := z
            rw [av] at z1; cases z1
            exact z2
  · unfold aOf
    have : as[p]? = none := by
      rw [List.getElem?_eq_none_iff] at hp ⊢
      rw [startE_len] at hp; omega
    rw [this]
    split <;> rfl
  · obtain ⟨b1, i, e1, o1⟩ := aOf_some h1
    obtain ⟨b2, j, e2, o2⟩ := aOf_some h2
    have := S.E.inj i j a o1 o2
    subst this
    exact ioSlots_inj S.io S.nd p q i e1 e2 b1 b2
theorem Sit.open_ (S : Sit K mg P O H σ env bs as vs ds sl env0) {a : Addr} (h : ofIo (aOf bs as O) a) : U env O a := by
  obtain ⟨p, h⟩ := h
  obtain ⟨b, i, e, o⟩ := aOf_some h
  obtain ⟨d, hd⟩ := S.ow i ((ioSlots_mem S.io i).mpr ⟨p, e, b⟩)
  exact ⟨i, d, hd, o⟩
/-- behind the call: N are new objects of nobody's -/
theorem Sit.end_ (S : Sit K mg P O H σ env bs as vs ds sl env0) {N : Addr → Prop} (hN : ∀ a, N a → H a = none) {P' : Addr → Prop} (hP' : ∀ a, P' a ↔ privOf P O bs as a ∨ N a) (C : CallOk K mg P' (aOf bs as O) H vs bs ds outs H') :
    Post K mg P O H σ env H' (setOuts env sl outs) O ∧ EnvOk K mg (fun a => P a ∨ N a) O H' σ (setOuts env sl outs) := by
  have l1 := derefs_len S.dd
  have l2 := S.ak.len
  have pe : ∀ a, Priv P' (aOf bs as O) a ↔ Priv (fun a => P a ∨ N a) O a := fun a => by
    have q := priv_of (P := P) (O := O) (bs := bs) (as := as) a
    constructor
    · rintro (h | h)
      · rcases (hP' a).mp h with h | h
        · rcases h.1 with h | h
          · exact .inl (.inl h)
          · exact .inr h
        · exact .inl (.inr h)
      · rcases q.mp (.inr h) with h | h
        · exact .inl (.inl h)
        · exact .inr h
    · rintro ((h | h) | h)
      · rcases q.mpr (.inl h) with h | h
        · exact .inl ((hP' a).mpr (.inl h))
        · exact .inr h
      · exact .inl ((hP' a).mpr (.inr h))
      · rcases q.mpr (.inr h) with h | h
        · exact .inl ((hP' a).mpr (.inl h))
        · exact .inr h
  have pe2 : Priv P' (aOf bs as O) = Priv (fun a => P a ∨ N a) O := funext fun a => propext (pe a)
  have keep : ∀ a o, ¬ ofIo (aOf bs as O) a → H a = some o → H' a = some o := fun a o n e => C.eff a o e n
  have mono : Same (msk (Priv P O) H) (msk (Priv (fun a => P a ∨ N a) O) H') := msk_mono (fun a z => by
    rcases z with (z | z) | z
    · exact .inl (.inl z)
    · exact .inr (hN a z)
    · exact .inl (.inr z)) fun a o n e => keep a o (fun z => n (U.priv (S.open_ z))) e
  have E2 : EnvOk K mg (fun a => P a ∨ N a) O H' σ (setOuts env sl outs) := by
    refine ⟨by rw [setOuts_len]; exact S.E.len, fun i s hs => ?_, fun i hi => ?_, S.E.inj, fun i a h1 h2 => ?_, fun a h => ?_⟩
    · by_cases hm : i ∈ sl
      · obtain ⟨p, e1, e2⟩ := (ioSlots_mem S.io i).mp hm
        have hp : p < ds.length := by have := (List.getElem?_eq_some_iff.mp e1).1; omega
        have hm2 : p < (mergeO bs ds outs).length := by rw [mergeO_len]; exact hp
        have em : (mergeO bs ds outs)[p]? = some (mergeO bs ds outs)[p] := List.getElem?_eq_getElem hm2
        have at_ := setOuts_at (env := env) (os := outs) S.io S.nd (fun q j d a b c => by
          obtain ⟨d', hd'⟩ := S.ow j ((ioSlots_mem S.io j).mpr ⟨q, a, b⟩)
          obtain ⟨d2, e3, e4⟩ := derefs_at S.dd a
          rw [c] at e3; cases e3
          simp only [deref, hd', Option.bind_some, slotD, Option.some.injEq] at e4
          subst e4
          exact hd') p i _ e1 e2 em (by omega)
        rw [at_] at hs; cases hs
        have q := C.ok.sl p _ (by rw [show ds.length = ds.length from rfl]; exact (by
          have : (startE bs (mergeO bs ds outs) ds.length)[p]? = some (if bs.getD p false then .ow (mergeO bs ds outs)[p] else .sh (mergeO bs ds outs)[p]) := startE_at em
          rw [e2] at this
          exact this))
        obtain ⟨a, q1, q2, q3⟩ := q
        obtain ⟨_, j, e3, e4⟩ := aOf_some q1
        rw [e1] at e3; cases e3
        obtain ⟨v, ev, av⟩ := S.ak.at e1
        have av : σ[i]? = some (some v) := av
        rw [List.getElem?_map, ev] at q2
        have q2 := Option.some.inj (Option.some.inj q2)
        subst q2
        refine ⟨a, e4, av, ?_⟩
        rw [pe2] at q3
        exact q3
      · rw [setOuts_out _ _ _ _ hm] at hs
        refine (S.E.sl i s hs).mono mono fun a h => ?_
        obtain ⟨o, e, _⟩ := S.E.own h
        rw [e]
        refine keep a o (fun z => ?_) e
        obtain ⟨p, z⟩ := z
        obtain ⟨b, j, e3, e4⟩ := aOf_some z
        have := S.E.inj i j a h e4
        subst this
        exact hm ((ioSlots_mem S.io i).mpr ⟨p, e3, b⟩)
    · have : env[i]? = none := by
        rw [List.getElem?_eq_none_iff] at hi ⊢
        rw [setOuts_len] at hi; exact hi
      exact S.E.out i this
    · rcases h2 with h2 | h2
      · exact S.E.apart i a h1 h2
      · obtain ⟨o, e, _⟩ := S.E.own h1
        rw [hN a h2] at e; cases e
    · rcases h with h | h
      · obtain ⟨o, e, m⟩ := S.E.tr a h
        refine ⟨o, keep a o (fun z => ?_) e, m⟩
        obtain ⟨p, z⟩ := z
        obtain ⟨_, j, _, e4⟩ := aOf_some z
        exact S.E.apart j a e4 h
      · exact C.ok.tr a ((hP' a).mpr (.inr h))
  refine ⟨⟨fun i a h => h, C.eff.mono fun a z => S.open_ z, fun a ⟨i, d, h1, h2⟩ => ?_, C.dom, fun i d h => ?_, E2.less fun a h => .inl h⟩, E2⟩
  by_cases hm : i ∈ sl
  · obtain ⟨d', hd⟩ := S.ow i hm
    exact ⟨i, d', hd, h2⟩
  · rw [setOuts_out _ _ _ _ hm] at h1
    exact ⟨i, d, h1, h2⟩
  by_cases hm : i ∈ sl
  · exfalso
    obtain ⟨p, e1, e2⟩ := (ioSlots_mem S.io i).mp hm
    have hp : p < ds.length := by have := (List.getElem?_eq_some_iff.mp e1).1; omega
    have hm2 : p < (mergeO bs ds outs).length := by rw [mergeO_len]; exact hp
    have em : (mergeO bs ds outs)[p]? = some (mergeO bs ds outs)[p] := List.getElem?_eq_getElem hm2
    have at_ := setOuts_at (env := env) (os := outs) S.io S.nd (fun q j d a b c => by
      obtain ⟨d', hd'⟩ := S.ow j ((ioSlots_mem S.io j).mpr ⟨q, a, b⟩)
      obtain ⟨d2, e3, e4⟩ := derefs_at S.dd a
      rw [c] at e3; cases e3
      simp only [deref, hd', Option.bind_some, slotD, Option.some.injEq] at e4
      subst e4
      exact hd') p i _ e1 e2 em (by omega)
    rw [at_] at h; cases h
  · rw [setOuts_out _ _ _ _ hm] at h
    exact ⟨d, h⟩
end
section
variable {fx : List Nat} {io : Str → List Bool} {cf : Str → List D → RC}
theorem ioSlots_of (bs : List Bool) : ∀ {as : List A} {env env' : Env} {sl : List Nat}, ioSlots bs as env = some sl → True := fun _ => trivial
theorem se_call {x : Str} {l : Exs} (hl : SAs fx io cf l) : SE fx io cf (.call x l) := by
  intro X k W e h ok
  obtain ⟨p, es, p2, rfl, h0, hd, hne, h1⟩ := chkE_call h
  obtain ⟨g1, g2, g3⟩ := ok.glX h0
  obtain ⟨n, f, fd, ps, hm, hk, hb, hr, hlen, F⟩ := (ok.dfs x hd).ex
  obtain ⟨y, r, rfl⟩ : ∃ y r, es = y :: r := by
    cases es with
    | nil => exact absurd rfl hne
    | cons y r => exact ⟨y, r, rfl⟩
  have hA := hl X k W _ h1 ok
  have star : isStar y = false ∧ (backTo p2 (starEach r X.env)).any (·.1) = false := by
    cases l with
    | nil => exact Bool.noConfusion (show false = true from h1)
    | cons a l =>
      obtain ⟨x', r', e', q1, q2⟩ := chks_cons h1
      cases e'
      exact ⟨no_star q1, noStars q2⟩
  refine (pe_callS F hr g1 hm hk hb ok.pass hA g2 (star_eq star.1) star.2).imp fun σ H Q ⟨P, O, env, E, t⟩ => ?_
  unfold ev at t
  refine ⟨P, O, env, E, t.bind.imp fun as env1 H1 O1 p1 ⟨_, t1⟩ vs ak => ?_⟩
  unfold callGo at t1
  cases hds : derefs env1 as with
  | none => simp only [hds] at t1; exact t1.elim
  | some ds =>
    cases hsl : ioSlots (io x) as env1 with
    | none => simp only [hds, hsl] at t1; exact t1.elim
    | some sl =>
      simp only [hds, hsl] at t1
      split at t1
      · rename_i hc
        obtain ⟨nd, ho⟩ := hc
        -- the situation
        obtain ⟨O0, p0, _⟩ : ∃ O0, Post X.K X.mg P O1 H1 σ env1 H1 (frz env1 (nonIo (io x) as)) O0 ∧ True := by
          have sub : ∀ (bs : List Bool) (as : List A) (vs : List V), AOks X.K X.mg P σ H1 O1 as vs → ∃ ws, AOks X.K X.mg P σ H1 O1 (nonIo bs as) ws := by
            intro bs as
            induction as generalizing bs with
            | nil => intro vs h; cases bs with
              | nil => exact ⟨[], rfl⟩
              | cons b bs => cases b <;> exact ⟨[], rfl⟩
            | cons a as ih =>
              intro vs ⟨v, r, e, h1, h2⟩
              cases bs with
              | nil => exact ⟨vs, v, r, e, h1, h2⟩
              | cons b bs =>
                obtain ⟨ws, hw⟩ := ih bs r h2
                cases b with
                | true => exact ⟨ws, hw⟩
                | false => exact ⟨v :: ws, v, ws, rfl, h1, hw⟩
          obtain ⟨ws, hw⟩ := sub (io x) as vs ak
          obtain ⟨O0, q, _⟩ := p1.ok.frz hw
          exact ⟨O0, q, trivial⟩
        have S : Sit X.K X.mg P O0 H1 σ (frz env1 (nonIo (io x) as)) (io x) as vs ds sl env1 := by
          refine ⟨p0.ok, AOks.keep p1.ok p0 ak, by rw [derefs_frz]; exact hds, hsl, nd, fun i hi => ?_, fun q i s e1 e2 e3 => ?_⟩
          · rw [List.all_eq_true] at ho
            have z := ho i hi
            cases q : (frz env1 (nonIo (io x) as))[i]? with
            | none => rw [q] at z; cases z
            | some s => rw [q] at z; cases s <;> first | exact ⟨_, rfl⟩ | cases z
          · obtain ⟨t, z1, z2, z3⟩ := frz_toSh _ i s e3
            have := z3 (mem_nonIo e1 e2)
            subst this
            cases t <;> rfl
        have hdl : ds.length = ps.length := hlen ds (fun z => by rw [z] at t1; exact t1)
        have hvl : vs.length = ps.length := by rw [← ak.len, derefs_len hds]; exact hdl
        refine ⟨privOf P O0 (io x) as, aOf (io x) as O0, ds, hvl, hdl, S.start, ?_⟩
        cases hcf : cf x ds with
        | bad => rw [hcf] at t1; exact t1.elim
        | exc z =>
          rw [hcf] at t1
          intro H' cls od C xr
          obtain ⟨po, _⟩ := S.end_ (N := fun _ => False) (fun _ z => z.elim) (fun a => by simp) C
          exact t1 H' O0 cls od (p0.trans po) xr
        | ok z =>
          obtain ⟨d, fr, outs⟩ := z
          rw [hcf] at t1
          intro v H' hv
          cases fr with
          | false =>
            simp only [Bool.false_eq_true, if_false] at hv t1
            obtain ⟨C, rv⟩ := hv
            obtain ⟨po, _⟩ := S.end_ (N := fun _ => False) (fun _ z => z.elim) (fun a => by simp) C
            refine t1 H' O0 (p0.trans po) v ?_
            rw [priv_eq] at rv
            exact rv
          | true =>
            simp only [if_true] at hv t1
            obtain ⟨q, rfl, hq, C, ow⟩ := hv
            obtain ⟨po, E2⟩ := S.end_ (N := fun a => a = q) (fun a z => by rw [z]; exact hq) (fun a => Iff.rfl) C
            refine t1 H' O0 (p0.trans po) _ ?_
            refine ROk.dom (H := H1) p1.dom ⟨q, rfl, hq, E2, ow.mono (msk_mono (fun a z => .inl ?_) fun a o _ e => e)⟩
            rcases z with (z | z) | z
            · rcases (priv_of (P := P) (O := O0) (bs := io x) (as := as) a).mpr (.inl z) with z | z
              · exact .inl (.inl z)
              · exact .inr z
            · exact .inl (.inr z)
            · rcases (priv_of (P := P) (O := O0) (bs := io x) (as := as) a).mpr (.inr z) with z | z
              · exact .inl (.inl z)
              · exact .inr z
      · exact t1.elim
end
end MP
end
section
set_option Elab.async false
set_option linter.all false
set_option maxRecDepth 100000
set_option maxHeartbeats 1000000
/-! MPQ: methods of lists and tuples. -/
namespace MP
open PySem PySem.Spec PyProof.Rows L2

theorem msk_upd {S : Addr → Prop} {H : Hp} {a : Addr} {o : HO} (h : S a) : msk S (upd H a o) = msk S H := by
  funext b
  by_cases hb : S b
  · rw [msk_in hb, msk_in hb]
  · rw [msk_out hb, msk_out hb, upd_ne (fun e => hb (by rw [e]; exact h))]
section
variable {K : PySem.W.Frag} {mg : Str → Option Value} {P : Addr → Prop} {O : Nat → Option Addr} {H : Hp} {σ : L2.St} {env : Env}
/-- an open slot's object is changed -/
theorem EnvOk.change (E : EnvOk K mg P O H σ env) {i : Nat} {d d' : D} {a : Addr} {ho : HO} (hi : env[i]? = some (.ow d)) (ha : O i = some a) (ow : Own K mg (msk (Priv P O) H) (some ho) d') :
    Post K mg P O H σ env (upd H a ho) (env.set i (.ow d')) O := by
  have pa : Priv P O a := .inr ⟨i, ha⟩
  have hl : i < env.length := (List.getElem?_eq_some_iff.mp hi).1
  obtain ⟨b, z1, z2, z3⟩ := E.sl i _ hi
  rw [ha] at z1; cases z1
  refine ⟨fun i a h => h, fun b o e n => ?_, fun b ⟨j, x, h1, h2⟩ => ?_, fun b o e => ?_, fun j x h => ?_, ⟨by rw [List.length_set]; exact E.len, fun j s hs => ?_, fun j hj => ?_, E.inj, E.apart, fun b hb => ?_⟩⟩
  · rw [upd_ne]
    · exact e
    · rintro rfl
      exact n ⟨i, d, hi, ha⟩
  · by_cases e : i = j
    · subst e; exact ⟨i, d, hi, h2⟩
    · rw [List.getElem?_set_ne e] at h1
      exact ⟨j, x, h1, h2⟩
  · by_cases q : b = a
    · subst q; exact ⟨ho, upd_same⟩
    · exact ⟨o, by rw [upd_ne q]; exact e⟩
  · by_cases e : i = j
    · subst e
      rw [List.getElem?_set_self hl] at h; cases h
    · rw [List.getElem?_set_ne e] at h
      exact ⟨x, h⟩
  · by_cases e : i = j
    · subst e
      rw [List.getElem?_set_self hl] at hs; cases hs
      refine ⟨a, ha, z2, ?_⟩
      rw [msk_upd pa, upd_same]
      exact ow
    · rw [List.getElem?_set_ne e] at hs
      have k : Same (msk (Priv P O) H) (msk (Priv P O) (upd H a ho)) := by rw [msk_upd pa]; exact Same.refl _
      refine (E.sl j s hs).mono k fun b h => ?_
      rw [upd_ne]
      rintro rfl
      exact e (E.inj i j b ha h)
  · refine E.out j ?_
    rw [List.getElem?_eq_none_iff] at hj ⊢
    rw [List.length_set] at hj; exact hj
  · obtain ⟨o, e, m⟩ := E.tr b hb
    refine ⟨o, ?_, m⟩
    rw [upd_ne]
    · exact e
    · rintro rfl
      exact E.apart i b ha hb
end
theorem attr_base {o : Expr} {n : Str} {env : PySem.Env} {w : Sem Value} (h : ∀ x p q, o ≠ .Call (.Name x p) [] [] q) : attributeBase o n env w = w := by
  unfold attributeBase
  split
  · rename_i x p q
    exact absurd rfl (h x p q)
  · rfl
section
variable {X : Cx} {fx : List Nat} {io : Str → List Bool} {cf : Str → List D → RC}
/-- the methods of a list by their rules -/
def rMt : Mt → V → List V → Hp → VK → Prop
  | .append => rAppend
  | .extend => rExtend
  | .pop => rPop
  | .popAt => rPopAt
def Mt.id : Mt → String
  | .append => "list.append" | .extend => "list.extend" | .pop => "list.pop" | .popAt => "list.pop"
theorem mt_rule (m : Mt) : MtR X m.id (rMt m) := by
  cases m
  · exact mt_append
  · exact mt_extend
  · exact mt_pop
  · exact mt_popAt
theorem mt_slot (m : Mt) : PySem.Slot "list" m.name m.id := by
  cases m
  · exact PySem.F.slot_list_append
  · exact PySem.F.slot_list_extend
  · exact PySem.F.slot_list_pop
  · exact PySem.F.slot_list_pop
theorem mt_type (m : Mt) : typeOf (.builtin m.id) = pure (.type "method_descriptor") := by
  cases m
  · exact PySem.F.type_list_append
  · exact PySem.F.type_list_extend
  · exact PySem.F.type_list_pop
  · exact PySem.F.type_list_pop
theorem Reps.getLast {K : PySem.W.Frag} {mg : Str → Option Value} {H : Hp} {ds : List D} {vs : List V} {d : D} (h : Reps K mg H ds vs) (e : ds.getLast? = some d) : ∃ v, vs[vs.length - 1]? = some v ∧ Rep K mg H d v := by
  rw [List.getLast?_eq_getElem?] at e
  rw [← h.length]
  exact h.get e
theorem Reps.dropLast {K : PySem.W.Frag} {mg : Str → Option Value} {H : Hp} {ds : List D} {vs : List V} (h : Reps K mg H ds vs) : Reps K mg H ds.dropLast vs.dropLast := by
  rw [List.dropLast_eq_take, List.dropLast_eq_take, h.length]
  exact h.take _
theorem Reps.erase {K : PySem.W.Frag} {mg : Str → Option Value} {H : Hp} {ds : List D} {vs : List V} (h : Reps K mg H ds vs) (k : Nat) : Reps K mg H (ds.eraseIdx k) (vs.eraseIdx k) := by
  rw [List.eraseIdx_eq_take_drop_succ, List.eraseIdx_eq_take_drop_succ]
  exact (h.take _).append (h.drop _)
/-- a method's end: the list behind it, its value -/
theorem mt_ok {K : PySem.W.Frag} {mg : Str → Option Value} {S : Addr → Prop} {H : Hp} {m : Mt} {own own' ds : List D} {d : D} {xs vs : List V} {a : Addr} {Q : VK} (ha : H a = some (.lst xs)) (ro : Reps K mg (msk S H) own xs) (rs : Reps K mg (msk S H) ds vs) (e : mtD m own ds = some (d, own'))
    (q : ∀ v ys, Rep K mg (msk S H) d v → Reps K mg (msk S H) own' ys → Q v (upd H a (.lst ys))) : rMt m (.ref a) vs H Q := by
  unfold mtD at e
  split at e
  · split at e
    · rename_i hs
      cases e
      simp only [Reps] at rs
      obtain ⟨v, r, rfl, h1, rfl⟩ := rs
      exact ⟨a, xs, v, rfl, rfl, ha, by rw [← ro.length]; exact hs, q _ _ (by simp only [Rep]) (ro.append (Reps.cons h1 Reps.nil))⟩
    · cases e
  · split at e
    · rename_i hs
      cases e
      simp only [Reps] at rs
      obtain ⟨v, r, rfl, h1, rfl⟩ := rs
      simp only [Rep] at h1
      obtain ⟨b, zs, rfl, h2, h3⟩ := h1
      exact ⟨a, b, xs, zs, rfl, rfl, ha, (msk_le _ _ h2), by rw [← ro.length, ← h3.length]; exact of_decide_eq_true hs, q _ _ (by simp only [Rep]) (ro.append h3)⟩
    · cases e
  · obtain ⟨x, hx, e⟩ := Option.map_eq_some_iff.mp e
    cases e
    simp only [Reps] at rs
    subst rs
    obtain ⟨v, h1, h2⟩ := ro.getLast hx
    exact ⟨a, xs, v, rfl, rfl, ha, h1, q _ _ h2 ro.dropLast⟩
  · split at e
    · cases e
    · rename_i hs
      obtain ⟨k, hk, e⟩ := Option.bind_eq_some_iff.mp e
      obtain ⟨x, hx, e⟩ := Option.map_eq_some_iff.mp e
      cases e
      simp only [Reps, Rep] at rs
      obtain ⟨v, r, rfl, rfl, rfl⟩ := rs
      obtain ⟨k1, k2, k3, k4⟩ := ixN_seq hk
      obtain ⟨v, h1, h2⟩ := ro.get hx
      have hz : own.length ≤ sizeLine := by
        simp only [Bool.not_eq_false] at hs
        exact of_decide_eq_true hs
      rw [sizeLine_eq] at hz
      rw [ro.length] at k1
      exact ⟨a, xs, _, k, v, rfl, rfl, ha, by omega, by omega, k1, h1, q _ _ h2 (ro.erase k)⟩
  · cases e
theorem se_mt {m : Mt} {i : Nat} {l : Exs} (hl : SAs fx io cf l) : SE fx io cf (.mt m i l) := by
  intro X k W e h ok
  obtain ⟨x, p, ap, es, cp, rfl, h1, h2, hp, hline, hfew, h3⟩ := chkE_mt h
  obtain ⟨v1, v2, v3⟩ := ok.visX h2
  have recv : PE X (.Name x p) (tVar i) := pe_var (ok.slotX h1) v1 v2 v3
  have hbase : attributeBase (.Name x p) m.name X.env (eval (.Name x p) X.env) = eval (.Name x p) X.env := attr_base fun _ _ _ z => by cases z
  -- the end of both forms
  have core : ∀ σ H Q, tE X.K X.mg fx io cf W (.mt m i l) σ H Q → ∃ v, σ[i]? = some (some v) ∧ tyV X.K "list" v H ∧ tAs X.K X.mg fx io cf W l σ H fun xs H2 => rMt m v xs H2 Q := by
    rintro σ H Q ⟨P, O, env, E, t⟩
    unfold ev at t
    cases q : env[i]? with
    | none => simp only [q] at t; exact t.elim
    | some s =>
      simp only [q] at t
      cases s with
      | un => exact t.elim
      | sh d => exact t.elim
      | lk d => exact t.elim
      | ow d =>
        cases d with
        | lst own0 =>
          obtain ⟨a, z1, z2, vs0, z3, z4⟩ := E.sl i _ q
          refine ⟨.ref a, z2, .inl ⟨rfl, vs0, SqL.of z3⟩, P, O, env, E, ?_⟩
          refine t.bind.imp fun as env1 H1 O1 p1 ⟨_, t1⟩ vs ak => ?_
          cases hd : derefs env1 as with
          | none => simp only [hd] at t1; exact t1.elim
          | some ds =>
            simp only [hd] at t1
            cases q1 : (frz env1 as)[i]? with
            | none => simp only [q1] at t1; exact t1.elim
            | some s1 =>
              simp only [q1] at t1
              cases s1 with
              | un => exact t1.elim
              | sh d => exact t1.elim
              | lk d => exact t1.elim
              | ow d =>
                cases d with
                | lst own =>
                  simp only at t1
                  cases hm : mtD m own ds with
                  | none => rw [hm] at t1; exact t1.elim
                  | some z =>
                    obtain ⟨d, own'⟩ := z
                    rw [hm] at t1
                    obtain ⟨O2, p2, r2⟩ := p1.ok.frz ak
                    obtain ⟨b, y1, y2, ys, y3, y4⟩ := p2.ok.sl i _ q1
                    rw [z2] at y2; cases y2
                    refine mt_ok y3 y4 (r2 ds hd) hm fun v zs rv rz => ?_
                    have p3 := p2.ok.change (d' := .lst own') (ho := .lst zs) q1 y1 ⟨zs, rfl, rz⟩
                    refine t1 _ O2 (p2.trans p3) v ?_
                    show Rep X.K X.mg (msk (Priv P O2) (upd H1 a (.lst zs))) d v
                    rw [msk_upd (.inr ⟨i, y1⟩)]
                    exact rv
                | _ => exact t1.elim
        | _ => exact t.elim
  cases es with
  | nil =>
    refine (pe_bm0 PySem.F.plainAttrs_list (mt_slot m) (mt_type m) (mt_rule m) recv hbase hline).imp fun σ H Q t => ?_
    obtain ⟨v, e1, e2, P, O, env, E, t2⟩ := core σ H Q t
    refine ⟨v, e1, e2, ?_⟩
    cases l with
    | cons a l => exact Bool.noConfusion (show false = true from h3)
    | nil =>
      unfold evs at t2
      exact t2 H O (Post.refl E) [] rfl
  | cons y r =>
    have star : isStar y = false ∧ (backTo cp (starEach r X.env)).any (·.1) = false := by
      cases l with
      | nil => exact Bool.noConfusion (show false = true from h3)
      | cons a l =>
        obtain ⟨x', r', e', q1, q2⟩ := chks_cons h3
        cases e'
        exact ⟨no_star q1, noStars q2⟩
    refine (pe_bm PySem.F.plainAttrs_list (mt_slot m) (mt_type m) (mt_rule m) recv (hl X k W _ h3 ok) hbase ?_ hline (star_eq star.1) star.2).imp fun σ H Q t => ?_
    · rw [star_eq star.1]
      have a1 : (backTo cp ((false, eval y X.env) :: starEach r X.env)).all (fun x => !x.1) = true := by
        show (!false && (backTo cp (starEach r X.env)).all (fun x => !x.1)) = true
        rw [Bool.not_false, Bool.true_and, List.all_eq_true]
        intro z hz
        have := star.2
        rw [List.any_eq_false] at this
        simpa using this z hz
      rw [a1]
      have : (y :: r).length < 20 := hfew
      simp only [Bool.true_and, Bool.and_eq_true, decide_eq_true_eq]
      refine ⟨rfl, ?_⟩
      simp only [List.length_nil, List.isEmpty_nil, if_true]
      omega
    · exact core σ H Q t

/-- a method of a tuple that is told by its object -/
theorem pe_bmF {e o : Expr} {es : List Expr} {to : TE} {t : TA} {name : Str} {apos cpos : Pos} {id : String} {r : V → List V → Hp → VK → Prop} (slot : PySem.Slot "tuple" name id) (hty : typeOf (.builtin id) = pure (.type "method_descriptor")) (hm : MtR X id r) (ho : PE X o to) (ha : PA X (e :: es) t)
    (hbase : attributeBase o name X.env (eval o X.env) = eval o X.env)
    (hfew : ((backTo cpos (starEach (e :: es) X.env)).all (fun x => !x.1) && (backToKw cpos (keywordEach [] X.env)).all (fun x => x.1.isSome)
      && decide ((e :: es).length + ([] : List Keyword).length + (if ([] : List Keyword).isEmpty then 0 else 1) < 30)) = true)
    (hline : (apos.endLine == cpos.line) = true) (hs : starEach (e :: es) X.env = (false, eval e X.env) :: starEach es X.env) (hplain : (backTo cpos (starEach es X.env)).any (·.1) = false) :
    PE X (.Call (.Attribute o name apos) (e :: es) [] cpos) (fun σ H Q => to σ H fun x H1 => (∃ p ob xs, x = .ref p ∧ H1 p = some (.frz ob (.tup xs)) ∧ ob.dict = none) ∧ t σ H1 fun xs H2 => r x xs H2 Q) := by
  refine ⟨fun pins s σ H Q I h => ?_⟩
  refine wpAny_Call_method_late hbase hfew hline rfl (thn (ho.run pins s σ H _ I h) fun v s1 ⟨x, H1, I1, r1, ty, q1⟩ => ?_)
  obtain ⟨pp, ob, xs, rfl, hH, hn⟩ := ty
  cases r1
  obtain ⟨g1, _, its, _, g2⟩ := (show ObjOk X.prog X.w H1 s1.heap pp (.frz ob (.tup xs)) from I1.hok pp _ hH)
  refine ⟨"tuple", id, PySem.F.plainAttrs_tuple, slot, hty, IsTup.typeIs g2, fun a e => ⟨ob, by cases e; exact g1, hn⟩, ?_⟩
  have hA := ha.run cpos pins s1 σ H1 _ I1 q1
  rw [hs] at hA ⊢
  refine Calls.callWith_builtin (by show (false || (backTo cpos (starEach es X.env)).any (·.1)) = false; rw [hplain] <;> rfl) (Calls.evalArgs_plain ?_)
  exact thn hA fun us s2 ⟨vs, H2, I2, r2, q2⟩ => hm pins s2 σ H2 (.ref pp) vs (.ref pp) us Q I2 rfl r2 q2
theorem noCall {a : Ex} {k : Kx} {x : Expr} (h : chkE a k x = true) : ∀ n p q, x ≠ .Call (.Name n p) [] [] q := by
  rintro n p q rfl
  cases a with
  | call y l =>
    obtain ⟨_, es, _, e, _, _, ne, _⟩ := chkE_call h
    cases e; exact ne rfl
  | blt b l =>
    obtain ⟨_, es, _, e, _, ne, _⟩ := chkE_blt h
    cases e; exact ne rfl
  | _ => exact Bool.noConfusion (show false = true from h)
theorem se_pm {m : Pm} {o : Ex} {l : Exs} (ho : SE fx io cf o) (hl : SAs fx io cf l) : SE fx io cf (.pm m o l) := by
  intro X k W e h ok
  obtain ⟨x, ap, es, cp, rfl, hne, hline, hfew, h1, h3⟩ := chkE_pm h
  obtain ⟨y, r, rfl⟩ : ∃ y r, es = y :: r := by
    cases es with
    | nil => exact absurd rfl hne
    | cons y r => exact ⟨y, r, rfl⟩
  have star : isStar y = false ∧ (backTo cp (starEach r X.env)).any (·.1) = false := by
    cases l with
    | nil => exact Bool.noConfusion (show false = true from h3)
    | cons a l =>
      obtain ⟨x', r', e', q1, q2⟩ := chks_cons h3
      cases e'
      exact ⟨no_star q1, noStars q2⟩
  have few : ((backTo cp (starEach (y :: r) X.env)).all (fun x => !x.1) && (backToKw cp (keywordEach [] X.env)).all (fun x => x.1.isSome)
      && decide ((y :: r).length + ([] : List Keyword).length + (if ([] : List Keyword).isEmpty then 0 else 1) < 30)) = true := by
    rw [star_eq star.1]
    have a1 : (backTo cp ((false, eval y X.env) :: starEach r X.env)).all (fun x => !x.1) = true := by
      show (!false && (backTo cp (starEach r X.env)).all (fun x => !x.1)) = true
      rw [Bool.not_false, Bool.true_and, List.all_eq_true]
      intro z hz
      have := star.2
      rw [List.any_eq_false] at this
      simpa using this z hz
    rw [a1]
    have : (y :: r).length < 20 := hfew
    simp only [Bool.true_and, Bool.and_eq_true, decide_eq_true_eq]
    refine ⟨rfl, ?_⟩
    simp only [List.length_nil, List.isEmpty_nil, if_true]
    omega
  cases m
  refine (pe_bmF PySem.F.slot_tuple_count PySem.F.type_tuple_count (mt_tcount ok.unit) (ho X k W x h1 ok) (hl X k W _ h3 ok) (attr_base (noCall h1)) few hline (star_eq star.1) star.2).imp fun σ H Q ⟨P, O, env, E, t⟩ => ?_
  unfold ev at t
  refine ⟨P, O, env, E, t.bind.imp fun r1 env1 H1 O1 p1 ⟨_, t1⟩ v1 o1 => ?_⟩
  have a1 := ROk.arg E p1 o1
  cases hd : deref env1 r1.arg with
  | none => simp only [hd] at t1; exact t1.elim
  | some d =>
    simp only [hd] at t1
    cases d with
    | tf l0 =>
      obtain ⟨a, vs, ob, rfl, z1, z2, z3⟩ := (AOk.top p1.ok a1 hd).tf
      refine ⟨⟨a, ob, vs, rfl, z1, z2⟩, P, O1, env1, p1.ok, t1.bind.imp fun as env2 H2 O2 p2 ⟨_, t2⟩ ws ak => ?_⟩
      have okp : OpOk X.K X.mg (fun vs H Q => ∃ v ws, vs = v :: ws ∧ rCountT X.K v ws H Q) (fun ds => match ds with | d :: r => pmD .count d r | _ => none) := by
        intro S H ds vs rd Q hS tt f q
        dsimp only at f
        split at f
        · obtain ⟨v, r, rfl, tv, tr⟩ := tt
          refine ⟨v, r, rfl, ?_⟩
          unfold pmD at f
          split at f
          · obtain ⟨u, rfl, tu⟩ := Tops.one tr
            obtain ⟨d, hd, f⟩ := Option.bind_eq_some_iff.mp f
            obtain ⟨ps, hp, f⟩ := Option.bind_eq_some_iff.mp f
            split at f
            · rename_i hs
              rw [Bool.and_eq_true] at hs
              cases f
              exact ⟨u, d, ps, rfl, Rep.dp tv.rep (by simp only [D.py, hp, Option.map_some]), Rep.dp tu.rep hd, hs.1, hs.2, q _ _ OpPost.int⟩
            · cases f
          · cases f
        · cases f
      obtain ⟨v, ws', e, q⟩ := strict_go (as := r1.arg :: as) (vs := V.ref a :: ws) p2.ok ⟨_, ws, rfl, AOk.keep p1.ok p2 a1, ak⟩ okp (p1.trans p2).dom t2
      cases e
      exact q
    | _ => exact t1.elim
end
end MP
end
section
set_option Elab.async false
set_option linter.all false
set_option maxRecDepth 100000
set_option maxHeartbeats 1000000
/-! MPR: what a statement leaves; targets. -/
namespace MP
open PySem PySem.Spec PyProof.Rows L2

/-- a statement's end: F may be born, fx are the slots that keep their objects -/
structure PostS (K : PySem.W.Frag) (mg : Str → Option Value) (fx : List Nat) (F : Addr → Prop) (P : Addr → Prop) (O : Nat → Option Addr) (H : Hp) (env : Env) (H' : Hp) (σ' : L2.St) (env' : Env) (O' : Nat → Option Addr) : Prop where
  pv : ∀ a, Priv P O' a → Priv P O a ∨ F a
  eff : Eff (U env O) H H'
  um : ∀ a, U env' O' a → U env O a ∨ F a
  dom : ∀ a o, H a = some o → ∃ o', H' a = some o'
  lk : ∀ (i : Nat) (d : D), env'[i]? = some (.lk d) → O' i = O i ∧ ∃ d' : D, env[i]? = some (.lk d')
  fix : ∀ i ∈ fx, ∀ d : D, (env'[i]? = some (.ow d) ∨ env'[i]? = some (.lk d)) → O' i = O i ∧ ∃ d' : D, env[i]? = some (.ow d') ∨ env[i]? = some (.lk d')
  ok : EnvOk K mg P O' H' σ' env'
section
variable {K : PySem.W.Frag} {mg : Str → Option Value} {fx : List Nat} {F F' F2 : Addr → Prop} {P : Addr → Prop} {O O' O2 : Nat → Option Addr} {H H' H2 : Hp} {σ σ' σ2 : L2.St} {env env' env2 : Env} {v : V}
theorem EnvOk.slot_of (E : EnvOk K mg P O H σ env) {i : Nat} {a : Addr} (h : O i = some a) : ∃ d : D, env[i]? = some (.ow d) ∨ env[i]? = some (.lk d) := by
  cases q : env[i]? with
  | none => rw [E.out i q] at h; cases h
  | some s =>
    have z := E.sl i s q
    cases s with
    | un => have z : O i = none := z; rw [z] at h; cases h
    | sh d => have z : O i = none := z.1; rw [z] at h; cases h
    | ow d => exact ⟨d, .inl rfl⟩
    | lk d => exact ⟨d, .inr rfl⟩
theorem EnvOk.has (E : EnvOk K mg P O H σ env) {i : Nat} {d : D} (h : env[i]? = some (.ow d) ∨ env[i]? = some (.lk d)) : ∃ a, O i = some a := by
  rcases h with h | h
  · obtain ⟨a, e, _⟩ := E.sl i _ h; exact ⟨a, e⟩
  · obtain ⟨a, e, _⟩ := E.sl i _ h; exact ⟨a, e⟩
theorem Post.toS (E : EnvOk K mg P O H σ env) (p : Post K mg P O H σ env H' env' O') : PostS K mg fx F P O H env H' σ env' O' := by
  have same : ∀ (i : Nat) (d : D), (env'[i]? = some (.ow d) ∨ env'[i]? = some (.lk d)) → O' i = O i := fun i d h => by
    obtain ⟨a, e⟩ := p.ok.has h
    rw [e, p.sub i a e]
  refine ⟨fun a h => .inl ?_, p.eff, fun a h => .inl (p.um a h), p.dom, fun i d h => ⟨same i d (.inr h), p.lk i d h⟩, fun i _ d h => ⟨same i d h, ?_⟩, p.ok⟩
  · rcases h with h | ⟨i, h⟩
    · exact .inl h
    · exact .inr ⟨i, p.sub i a h⟩
  · obtain ⟨a, e⟩ := p.ok.has h
    obtain ⟨d', z⟩ := E.slot_of (p.sub i a e)
    exact ⟨d', z⟩
theorem PostS.refl (E : EnvOk K mg P O H σ env) : PostS K mg fx F P O H env H σ env O := (Post.refl E).toS E
theorem PostS.mono (p : PostS K mg fx F P O H env H' σ' env' O') (h : ∀ a, F a → F' a) : PostS K mg fx F' P O H env H' σ' env' O' :=
  ⟨fun a z => (p.pv a z).imp id (h a), p.eff, fun a z => (p.um a z).imp id (h a), p.dom, p.lk, p.fix, p.ok⟩
/-- one behind another; what the first one bore is new -/
theorem PostS.trans (a : PostS K mg fx F P O H env H' σ' env' O') (b : PostS K mg fx F' P O' H' env' H2 σ2 env2 O2) (h1 : ∀ x, F x → F2 x) (h2 : ∀ x, F' x → F2 x) (hn : ∀ x, F x → H x = none) : PostS K mg fx F2 P O H env H2 σ2 env2 O2 := by
  refine ⟨fun x z => ?_, a.eff.trans b.eff fun x z => (a.um x z).imp id (hn x), fun x z => ?_, fun x o e => let ⟨o1, e1⟩ := a.dom x o e; b.dom x o1 e1, fun i d e => ?_, fun i hi d e => ?_, b.ok⟩
  · rcases b.pv x z with z | z
    · exact (a.pv x z).imp id (h1 x)
    · exact .inr (h2 x z)
  · rcases b.um x z with z | z
    · exact (a.um x z).imp id (h1 x)
    · exact .inr (h2 x z)
  · obtain ⟨e1, d1, e2⟩ := b.lk i d e
    obtain ⟨e3, d2, e4⟩ := a.lk i d1 e2
    exact ⟨e1.trans e3, d2, e4⟩
  · obtain ⟨e1, d1, e2⟩ := b.fix i hi d e
    obtain ⟨e3, d2, e4⟩ := a.fix i hi d1 e2
    exact ⟨e1.trans e3, d2, e4⟩
/-- the new ones of a statement are those that were not there -/
def New (H : Hp) : Addr → Prop := fun a => H a = none
theorem PostS.transN (a : PostS K mg fx (New H) P O H env H' σ' env' O') (b : PostS K mg fx (New H') P O' H' env' H2 σ2 env2 O2) : PostS K mg fx (New H) P O H env H2 σ2 env2 O2 :=
  a.trans b (fun _ h => h) (fun x h => by
    cases q : H x with
    | none => exact q
    | some o => obtain ⟨o', e⟩ := a.dom x o q; rw [show H' x = none from h] at e; cases e) fun _ h => h
theorem keepS (p : PostS K mg fx (New H) P O H env H' σ' env' O') : Same (msk (Priv P O) H) (msk (Priv P O') H') :=
  msk_mono (fun a z => p.pv a z) fun a o n e => p.eff a o e fun z => n z.priv

/-! ### a slot is stored -/
theorem EnvOk.put {P1 : Addr → Prop} (E : EnvOk K mg P1 O H σ env) (hP : ∀ a, P a → P1 a) {i : Nat} (hi : i < env.length) (hO : ∀ j, j ≠ i → O' j = O j) (mono : Same (msk (Priv P1 O) H) (msk (Priv P O') H)) {s' : Slot} (hs : SlotOk K mg (Priv P O') (O' i) H (some (some v)) s')
    (inj : ∀ j a, O' i = some a → j ≠ i → O j ≠ some a) (ap : ∀ a, O' i = some a → ¬ P a) : EnvOk K mg P O' H (σ.set i (some v)) (env.set i s') := by
  have hσ : i < σ.length := by rw [E.len]; exact hi
  refine ⟨by rw [List.length_set, List.length_set]; exact E.len, fun j t ht => ?_, fun j hj => ?_, fun j l a h1 h2 => ?_, fun j a h => ?_, fun a h => E.tr a (hP a h)⟩
  · by_cases e : i = j
    · subst e
      rw [List.getElem?_set_self hi] at ht; cases ht
      rw [List.getElem?_set_self hσ]
      exact hs
    · rw [List.getElem?_set_ne e] at ht
      rw [List.getElem?_set_ne e, hO j (Ne.symm e)]
      exact (E.sl j t ht).mono mono fun a _ => rfl
  · have hj' : env[j]? = none := by
      rw [List.getElem?_eq_none_iff] at hj ⊢
      rw [List.length_set] at hj; exact hj
    have : j ≠ i := fun e => by
      rw [List.getElem?_eq_none_iff] at hj'; omega
    rw [hO j this]
    exact E.out j hj'
  · by_cases e1 : j = i
    · by_cases e2 : l = i
      · rw [e1, e2]
      · subst e1
        rw [hO l e2] at h2
        exact absurd h2 (inj l a h1 e2)
    · by_cases e2 : l = i
      · subst e2
        rw [hO j e1] at h1
        exact absurd h1 (inj j a h2 e1)
      · rw [hO j e1] at h1
        rw [hO l e2] at h2
        exact E.inj j l a h1 h2
  · by_cases e : j = i
    · subst e; exact ap a h
    · rw [hO j e] at h
      exact fun z => E.apart j a h (hP a z)
/-- a value that is to be stored -/
def RIn (K : PySem.W.Frag) (mg : Str → Option Value) (P : Addr → Prop) (O : Nat → Option Addr) (H : Hp) (σ : L2.St) (env : Env) (v : V) : R → Prop
  | .val d => Rep K mg (msk (Priv P O) H) d v
  | .fr d => ∃ p, v = .ref p ∧ ¬ P p ∧ EnvOk K mg (plus P p) O H σ env ∧ Own K mg (msk (Priv (plus P p) O) H) (H p) d
  | .own i => σ[i]? = some (some v)
/-- the address of a new value -/
def FrOf (r : R) (v : V) : Addr → Prop := fun a => v = .ref a ∧ ∃ d, r = .fr d
theorem ROk.rin (E : EnvOk K mg P O H σ env) {r : R} (h : ROk K mg P H σ H' env' O' v r) : RIn K mg P O' H' σ env' v r := by
  cases r with
  | val d => exact h
  | own i => exact h
  | fr d =>
    obtain ⟨p, e, hp, q1, q2⟩ := h
    refine ⟨p, e, fun z => ?_, q1, q2⟩
    obtain ⟨o, e, _⟩ := E.tr p z
    rw [hp] at e; cases e
theorem ROk.frOf {r : R} (h : ROk K mg P H σ H' env' O' v r) : ∀ a, FrOf r v a → H a = none := by
  rintro a ⟨e, d, rfl⟩
  obtain ⟨p, e2, hp, _⟩ := h
  rw [e] at e2; cases e2
  exact hp
theorem RIn.arg (h : RIn K mg P O H σ env v r) {r : R} : True := trivial
theorem RIn.toA {r : R} (h : RIn K mg P O H σ env v r) : AOk K mg P σ H O v r.arg := by
  cases r with
  | val d => exact h
  | own i => exact h
  | fr d =>
    obtain ⟨p, rfl, np, E2, ow⟩ := h
    refine ow.rep (msk_mono (fun a z => .inl ?_) fun a o _ e => e) (msk_out fun z => ?_)
    · rcases z with z | z
      · exact .inl (.inl z)
      · exact .inr z
    · rcases z with z | ⟨i, z⟩
      · exact np z
      · exact E2.apart i p z (.inr rfl)
theorem set_get {env : Env} {i j : Nat} {s t : Slot} (h : (env.set i s)[j]? = some t) : (i = j ∧ t = s) ∨ (i ≠ j ∧ env[j]? = some t) := by
  by_cases e : i = j
  · subst e
    by_cases hi : i < env.length
    · rw [List.getElem?_set_self hi] at h; cases h; exact .inl ⟨rfl, rfl⟩
    · rw [List.getElem?_eq_none (by rw [List.length_set]; omega)] at h; cases h
  · rw [List.getElem?_set_ne e] at h
    exact .inr ⟨e, h⟩
theorem store_val (E : EnvOk K mg P O H σ env) {i : Nat} (hi : i < env.length) (hx : i ∉ fx) {d : D} (h : Rep K mg (msk (Priv P O) H) d v) : PostS K mg fx F P O H env H (σ.set i (some v)) (env.set i (.sh d)) (drop1 O i) := by
  have mono : Same (msk (Priv P O) H) (msk (Priv P (drop1 O i)) H) := msk_mono (fun a z => .inl (priv_drop1 z)) fun a o _ e => e
  refine ⟨fun a z => .inl (priv_drop1 z), Eff.refl, fun a ⟨j, x, h1, h2⟩ => .inl ?_, fun a o e => ⟨o, e⟩, fun j x e => ?_, fun j hj x e => ?_, ?_⟩
  · obtain ⟨n, e⟩ := drop1_some h2
    rcases set_get h1 with ⟨rfl, z⟩ | ⟨_, z⟩
    · exact absurd rfl n
    · exact ⟨j, x, z, e⟩
  · rcases set_get e with ⟨rfl, z⟩ | ⟨n, z⟩
    · cases z
    · exact ⟨drop1_ne (Ne.symm n), x, z⟩
  · have n : i ≠ j := fun z => hx (z ▸ hj)
    rw [List.getElem?_set_ne n] at e
    exact ⟨drop1_ne (Ne.symm n), x, e⟩
  · refine E.put (fun _ z => z) hi (fun j n => drop1_ne n) mono ?_ (fun j a z => by rw [drop1_self] at z; cases z) fun a z => by rw [drop1_self] at z; cases z
    exact ⟨drop1_self, v, rfl, h.mono mono⟩
def upd1 (O : Nat → Option Addr) (i : Nat) (p : Addr) : Nat → Option Addr := fun j => if j = i then some p else O j
theorem upd1_self {i : Nat} {p : Addr} : upd1 O i p i = some p := by unfold upd1; rw [if_pos rfl]
theorem upd1_ne {i j : Nat} {p : Addr} (h : j ≠ i) : upd1 O i p j = O j := by unfold upd1; rw [if_neg h]
theorem store_fr (E : EnvOk K mg P O H σ env) {i : Nat} (hi : i < env.length) (hx : i ∉ fx) {d : D} {p : Addr} (np : ¬ P p) (E2 : EnvOk K mg (plus P p) O H σ env) (ow : Own K mg (msk (Priv (plus P p) O) H) (H p) d) :
    PostS K mg fx (fun a => a = p) P O H env H (σ.set i (some (.ref p))) (env.set i (.ow d)) (upd1 O i p) := by
  have sub : ∀ a, Priv P (upd1 O i p) a → Priv (plus P p) O a := fun a z => by
    rcases z with z | ⟨j, z⟩
    · exact .inl (.inl z)
    · by_cases e : j = i
      · subst e; rw [upd1_self] at z; cases z; exact .inl (.inr rfl)
      · rw [upd1_ne e] at z; exact .inr ⟨j, z⟩
  have mono2 : Same (msk (Priv (plus P p) O) H) (msk (Priv P (upd1 O i p)) H) := msk_mono (fun a z => .inl (sub a z)) fun a o _ e => e
  have fresh : ∀ j, O j ≠ some p := fun j z => E2.apart j p z (.inr rfl)
  refine ⟨fun a z => ?_, Eff.refl, fun a ⟨j, x, h1, h2⟩ => ?_, fun a o e => ⟨o, e⟩, fun j x e => ?_, fun j hj x e => ?_, ?_⟩
  · rcases sub a z with (z | z) | z
    · exact .inl (.inl z)
    · exact .inr z
    · exact .inl (.inr z)
  · by_cases e : j = i
    · subst e; rw [upd1_self] at h2; cases h2; exact .inr rfl
    · rw [upd1_ne e] at h2
      rcases set_get h1 with ⟨z, _⟩ | ⟨_, z⟩
      · exact absurd z.symm e
      · exact .inl ⟨j, x, z, h2⟩
  · rcases set_get e with ⟨rfl, z⟩ | ⟨n, z⟩
    · cases z
    · exact ⟨upd1_ne (Ne.symm n), x, z⟩
  · have n : i ≠ j := fun z => hx (z ▸ hj)
    rw [List.getElem?_set_ne n] at e
    exact ⟨upd1_ne (Ne.symm n), x, e⟩
  · refine E2.put (fun a z => .inl z) hi (fun j n => upd1_ne n) mono2 ?_ (fun j a z n e => ?_) fun a z => ?_
    · exact ⟨p, upd1_self, rfl, ow.mono mono2⟩
    · rw [upd1_self] at z; cases z; exact fresh j e
    · rw [upd1_self] at z; cases z; exact np
/-- a slot's own object moves to a slot -/
theorem store_move (E : EnvOk K mg P O H σ env) {i j : Nat} (hi : i < env.length) (hx : i ∉ fx) {d : D} {a : Addr} (hj : env[j]? = some (.ow d)) (hO : O j = some a) (ow : Own K mg (msk (Priv P O) H) (H a) d) :
    PostS K mg fx F P O H env H (σ.set i (some (.ref a))) ((env.set j .un).set i (.ow d)) (upd1 (drop1 O j) i a) := by
  have hjl : j < env.length := by
    rcases Nat.lt_or_ge j env.length with z | z
    · exact z
    · rw [List.getElem?_eq_none z] at hj; cases hj
  -- first the slot is left
  have E1 : EnvOk K mg (plus P a) (drop1 O j) H σ (env.set j .un) := by
    have mono : Same (msk (Priv P O) H) (msk (Priv (plus P a) (drop1 O j)) H) := msk_mono (fun b z => .inl (by
      rcases z with (z | z) | ⟨l, z⟩
      · exact .inl z
      · subst z; exact .inr ⟨j, hO⟩
      · exact .inr ⟨l, (drop1_some z).2⟩)) fun b o _ e => e
    refine ⟨by rw [List.length_set]; exact E.len, fun l t ht => ?_, fun l hl => ?_, fun l m b h1 h2 => E.inj l m b (drop1_some h1).2 (drop1_some h2).2, fun l b h z => ?_, fun b z => ?_⟩
    · rcases set_get ht with ⟨rfl, rfl⟩ | ⟨n, z⟩
      · exact drop1_self
      · rw [drop1_ne (Ne.symm n)]
        exact (E.sl l t z).mono mono fun _ _ => rfl
    · by_cases e : l = j
      · subst e; exact drop1_self
      · rw [drop1_ne e]
        rw [List.getElem?_set_ne (Ne.symm e)] at hl
        exact E.out l hl
    · obtain ⟨n, e⟩ := drop1_some h
      rcases z with z | z
      · exact E.apart l b e z
      · subst z; exact n (E.inj l j b e hO)
    · rcases z with z | z
      · exact E.tr b z
      · subst z; exact E.own hO
  have sub : ∀ b, Priv (plus P a) (drop1 O j) b → Priv P O b := fun b z => by
    rcases z with (z | z) | ⟨l, z⟩
    · exact .inl z
    · subst z; exact .inr ⟨j, hO⟩
    · exact .inr ⟨l, (drop1_some z).2⟩
  have sub2 : ∀ b, Priv P (upd1 (drop1 O j) i a) b → Priv (plus P a) (drop1 O j) b := fun b z => by
    rcases z with z | ⟨l, z⟩
    · exact .inl (.inl z)
    · by_cases e : l = i
      · subst e; rw [upd1_self] at z; cases z; exact .inl (.inr rfl)
      · rw [upd1_ne e] at z; exact .inr ⟨l, z⟩
  have mono1 : Same (msk (Priv P O) H) (msk (Priv (plus P a) (drop1 O j)) H) := msk_mono (fun b z => .inl (sub b z)) fun b o _ e => e
  have mono2 : Same (msk (Priv (plus P a) (drop1 O j)) H) (msk (Priv P (upd1 (drop1 O j) i a)) H) := msk_mono (fun b z => .inl (sub2 b z)) fun b o _ e => e
  have hi1 : i < (env.set j .un).length := by rw [List.length_set]; exact hi
  refine ⟨fun b z => .inl (sub b (sub2 b z)), Eff.refl, fun b ⟨l, x, h1, h2⟩ => .inl ?_, fun b o e => ⟨o, e⟩, fun l x e => ?_, fun l hl x e => ?_, ?_⟩
  · by_cases e : l = i
    · subst e; rw [upd1_self] at h2; cases h2; exact ⟨j, d, hj, hO⟩
    · rw [upd1_ne e] at h2
      obtain ⟨n, h2⟩ := drop1_some h2
      rcases set_get h1 with ⟨z, _⟩ | ⟨_, z⟩
      · exact absurd z.symm e
      · rw [List.getElem?_set_ne (Ne.symm n)] at z
        exact ⟨l, x, z, h2⟩
  · rcases set_get e with ⟨rfl, z⟩ | ⟨n, z⟩
    · exact Slot.noConfusion z
    · rcases set_get z with ⟨rfl, zz⟩ | ⟨n2, z⟩
      · exact Slot.noConfusion zz
      · exact ⟨by rw [upd1_ne (Ne.symm n), drop1_ne (Ne.symm n2)], x, z⟩
  · have n : i ≠ l := fun z => hx (z ▸ hl)
    rw [List.getElem?_set_ne n] at e
    have n2 : j ≠ l := fun z => by
      subst z
      have q : (env.set j .un)[j]? = some .un := List.getElem?_set_self hjl
      rw [q] at e
      rcases e with e | e <;> exact Slot.noConfusion (Option.some.inj e)
    rw [List.getElem?_set_ne n2] at e
    exact ⟨by rw [upd1_ne (Ne.symm n), drop1_ne (Ne.symm n2)], x, e⟩
  · refine E1.put (fun b z => .inl z) hi1 (fun l n => upd1_ne n) mono2 ?_ (fun l b z n e => ?_) fun b z => ?_
    · exact ⟨a, upd1_self, rfl, (ow.mono mono1).mono mono2⟩
    · rw [upd1_self] at z; cases z
      obtain ⟨n2, e⟩ := drop1_some e
      exact n2 (E.inj l j a e hO)
    · rw [upd1_self] at z; cases z; exact E.apart j a hO
theorem store_ok (E : EnvOk K mg P O H σ env) {i : Nat} {r : R} {v : V} (hr : RIn K mg P O H σ env v r) (h : store fx env i r = .ok env') : ∃ O', PostS K mg fx (FrOf r v) P O H env H (σ.set i (some v)) env' O' := by
  cases r with
  | val d =>
    simp only [store] at h
    split at h
    · rename_i c; cases h
      exact ⟨_, store_val E c.1 c.2 hr⟩
    · cases h
  | fr d =>
    simp only [store] at h
    split at h
    · rename_i c; cases h
      obtain ⟨p, rfl, np, E2, ow⟩ := hr
      refine ⟨_, (store_fr E c.1 c.2 np E2 ow).mono fun a z => ?_⟩
      subst z; exact ⟨rfl, d, rfl⟩
    · cases h
  | own j =>
    simp only [store] at h
    have hr : σ[j]? = some (some v) := hr
    cases q : env[j]? with
    | none => rw [q] at h; cases h
    | some s =>
      rw [q] at h
      have z := E.sl j s q
      cases s with
      | un => cases h
      | lk d => cases h
      | sh d =>
        obtain ⟨_, u, e1, e2⟩ := z
        rw [hr] at e1; cases e1
        simp only at h
        split at h
        · rename_i c; cases h
          exact ⟨_, store_val E c.1 c.2 e2⟩
        · cases h
      | ow d =>
        obtain ⟨a, e1, e2, e3⟩ := z
        rw [hr] at e2; cases e2
        simp only at h
        split at h
        · rename_i c; cases h
          exact ⟨_, store_move E c.1 c.2 q e1 e3⟩
        · cases h
theorem store_not_exc {x : Exn × Env} {i : Nat} {r : R} (h : store fx env i r = .exc x) : False := by
  cases r with
  | val d => simp only [store] at h; split at h <;> cases h
  | fr d => simp only [store] at h; split at h <;> cases h
  | own j =>
    simp only [store] at h
    split at h
    · split at h <;> cases h
    · split at h <;> cases h
    · cases h
end
end MP
end
section
set_option Elab.async false
set_option linter.all false
set_option maxRecDepth 100000
set_option maxHeartbeats 1000000
/-! MPS: statements' readings; targets. -/
namespace MP
open PySem PySem.Spec PyProof.Rows L2

section
variable (K : PySem.W.Frag) (mg : Str → Option Value)
def TX {α : Type} (pr : α → Env) (W : Value → Option Addr → L2.St → Hp → Prop) (fx : List Nat) (F P : Addr → Prop) (O : Nat → Option Addr) (H : Hp) (env : Env) (res : RE α) (k : α → Hp → L2.St → (Nat → Option Addr) → Prop) : Prop :=
  match res with
  | .ok z => ∀ H' σ' O', PostS K mg fx F P O H env H' σ' (pr z) O' → k z H' σ' O'
  | .exc z => ∀ H' σ' O' cls od, PostS K mg fx F P O H env H' σ' z.2 O' → XRep K mg z.1 cls od H' → W cls od σ' H'
  | .bad => False
end
section
variable {K : PySem.W.Frag} {mg : Str → Option Value} {W : Value → Option Addr → L2.St → Hp → Prop} {fx : List Nat} {F F1 F2 P : Addr → Prop} {O O1 : Nat → Option Addr} {H H0 H1 : Hp} {σ σ1 : L2.St} {env env1 : Env} {α β : Type} {pr : α → Env} {pb : β → Env}
/-- on from where a part has come -/
theorem TX.shift {res : RE α} {k : α → Hp → L2.St → (Nat → Option Addr) → Prop} (p : PostS K mg fx F1 P O H env H1 σ1 env1 O1) (h : TX K mg pr W fx F P O H env res k) (h1 : ∀ a, F1 a → F a) (h2 : ∀ a, F2 a → F a) (hn : ∀ a, F1 a → H a = none) : TX K mg pr W fx F2 P O1 H1 env1 res k := by
  cases res with
  | bad => exact h
  | ok z => exact fun H' σ' O' q => h H' σ' O' (p.trans q h1 h2 hn)
  | exc z => exact fun H' σ' O' cls od q x => h H' σ' O' cls od (p.trans q h1 h2 hn) x
theorem TX.imp {res : RE α} {k k' : α → Hp → L2.St → (Nat → Option Addr) → Prop} (h : TX K mg pr W fx F P O H env res k) (i : ∀ z H' σ' O', res = .ok z → PostS K mg fx F P O H env H' σ' (pr z) O' → k z H' σ' O' → k' z H' σ' O') : TX K mg pr W fx F P O H env res k' := by
  cases res with
  | bad => exact h
  | ok z => exact fun H' σ' O' q => i _ _ _ _ rfl q (h H' σ' O' q)
  | exc z => exact h
theorem TX.less {res : RE α} {k : α → Hp → L2.St → (Nat → Option Addr) → Prop} (h : TX K mg pr W fx F P O H env res k) (h2 : ∀ a, F2 a → F a) : TX K mg pr W fx F2 P O H env res k := by
  cases res with
  | bad => exact h
  | ok z => exact fun H' σ' O' q => h H' σ' O' (q.mono h2)
  | exc z => exact fun H' σ' O' cls od q x => h H' σ' O' cls od (q.mono h2) x
theorem TX.bind {res : RE β} {f : β → RE α} {k : α → Hp → L2.St → (Nat → Option Addr) → Prop} (h : TX K mg pr W fx F P O H env (res.bind f) k) (h1 : ∀ a, F1 a → F a) (hn : ∀ a, F1 a → H a = none) :
    TX K mg pb W fx F1 P O H env res (fun b H1 σ1 O1 => PostS K mg fx F1 P O H env H1 σ1 (pb b) O1 ∧ ∀ F2 : Addr → Prop, (∀ a, F2 a → F a) → TX K mg pr W fx F2 P O1 H1 (pb b) (f b) k) := by
  cases res with
  | bad => exact h
  | ok z => exact fun H1 σ1 O1 p => ⟨p, fun F2 h2 => TX.shift p (show TX K mg pr W fx F P O H env (f z) k from h) h1 h2 hn⟩
  | exc z => exact fun H' σ' O' cls od q x => h H' σ' O' cls od (q.mono h1) x
/-- an expression first -/
theorem TX.bindE {res : RE (β × Env)} {f : β × Env → RE α} {k : α → Hp → L2.St → (Nat → Option Addr) → Prop} (E : EnvOk K mg P O H σ env) (h : TX K mg pr W fx F P O H env (res.bind f) k) :
    TRes K mg (fun c d H' => W c d σ H') P O H σ env res (fun b env1 H1 O1 => Post K mg P O H σ env H1 env1 O1 ∧ ∀ F2 : Addr → Prop, (∀ a, F2 a → F a) → TX K mg pr W fx F2 P O1 H1 env1 (f (b, env1)) k) := by
  cases res with
  | bad => exact h
  | exc z => exact fun H' O' cls od q x => h H' σ O' cls od (q.toS E) x
  | ok z => exact fun H1 O1 p => ⟨p, fun F2 h2 => TX.shift (F1 := fun _ => False) (p.toS E) (show TX K mg pr W fx F P O H env (f z) k from h) (fun _ z => z.elim) h2 fun _ z => z.elim⟩
end

/-! ### targets -/
/-- beyond the slots of sl all is as it was -/
def Fram (own : List Nat) (O : Nat → Option Addr) (σ : L2.St) (σ' : L2.St) (O' : Nat → Option Addr) : Prop :=
  σ'.length = σ.length ∧ (∀ i, i ∉ own → σ'[i]? = σ[i]?) ∧ ∀ i a, O' i = some a → O i = some a
section
variable (K : PySem.W.Frag) (mg : Str → Option Value) (fx : List Nat) (io : Str → List Bool) (cf : Str → List D → RC) (W : WX)
def tTg (t : Tg) : TG := fun v σ H Q => ∃ P O env r, EnvOk K mg P O H σ env ∧ RIn K mg P O H σ env v r ∧
  TX K mg id W fx (FrOf r v) P O H env (asg fx io cf t r env) (fun env' H' σ' O' => (∀ own, patT own t = true → (∃ d, r = .val d) → H' = H ∧ Fram own O σ σ' O') → Q σ' H')
def tTgs (l : Tgs) : TGs := fun vs σ H Q => ∃ P O env ds, EnvOk K mg P O H σ env ∧ Reps K mg (msk (Priv P O) H) ds vs ∧
  TX K mg id W fx (fun _ => False) P O H env (asgs fx io cf l ds env) (fun env' H' σ' O' => (∀ own, patTs own l = true → H' = H ∧ Fram own O σ σ' O') → Q σ' H')
def STg (t : Tg) : Prop := ∀ (X : Cx) (k : Kx) (W : WX) (e : Expr), chkT t k e = true → Okc X k W io cf → PG X e (tTg X.K X.mg fx io cf W t)
def STgs (t : Tgs) : Prop := ∀ (X : Cx) (k : Kx) (W : WX) (es : List Expr), chkTs t k es = true → Okc X k W io cf → PGs X es (tTgs X.K X.mg fx io cf W t)
end
section
variable {X : Cx} {k : Kx} {e : Expr} {fx : List Nat} {io : Str → List Bool} {cf : Str → List D → RC}
theorem chkT_nm {i : Nat} (h : chkT (.nm i) k e = true) : ∃ x p, e = .Name x p ∧ k.slot i x = true ∧ k.loc x = true := by
  cases e <;> first | exact Bool.noConfusion (show false = true from h) | skip
  rename_i x p
  have h : (k.slot i x && k.loc x) = true := h
  rw [Bool.and_eq_true] at h
  exact ⟨x, p, rfl, h.1, h.2⟩
theorem chkT_tup {l : Tgs} (h : chkT (.tup l) k e = true) : ∃ es n p, e = .Tuple es n p ∧ chkTs l k es = true := by
  cases e <;> first | exact Bool.noConfusion (show false = true from h) | skip
  exact ⟨_, _, _, rfl, h⟩
theorem chkT_ix {i : Nat} {ke : Ex} (h : chkT (.ix i ke) k e = true) : ∃ x p y q, e = .Subscript (.Name x p) y q ∧ k.slot i x = true ∧ k.vis x = true ∧ isSlice y = false ∧ chkE ke k y = true := by
  cases e <;> first | exact Bool.noConfusion (show false = true from h) | skip
  rename_i o y q
  cases o <;> first | exact Bool.noConfusion (show false = true from h) | skip
  rename_i x p
  have h : (k.slot i x && k.vis x && !isSlice y && chkE ke k y) = true := h
  simp only [Bool.and_eq_true, Bool.not_eq_true'] at h
  exact ⟨x, p, y, q, rfl, h.1.1.1, h.1.1.2, h.1.2, h.2⟩
theorem chkTs_nil {es : List Expr} (h : chkTs .nil k es = true) : es = [] := by
  cases es with
  | nil => rfl
  | cons a r => exact Bool.noConfusion (show false = true from h)
theorem chkTs_cons {t : Tg} {l : Tgs} {es : List Expr} (h : chkTs (.cons t l) k es = true) : ∃ x r, es = x :: r ∧ chkT t k x = true ∧ chkTs l k r = true := by
  cases es with
  | nil => exact Bool.noConfusion (show false = true from h)
  | cons x r =>
    have h : (chkT t k x && chkTs l k r) = true := h
    rw [Bool.and_eq_true] at h
    exact ⟨x, r, rfl, h.1, h.2⟩
theorem assignEach_plain {t : Tg} {e : Expr} {es : List Expr} {env : PySem.Env} (h : chkT t k e = true) : assignEach (e :: es) env = (false, assign e env) :: assignEach es env := by
  cases t with
  | nm i => obtain ⟨x, p, rfl, _⟩ := chkT_nm h; rfl
  | tup l => obtain ⟨x, n, p, rfl, _⟩ := chkT_tup h; rfl
  | ix i ke => obtain ⟨x, p, y, q, rfl, _⟩ := chkT_ix h; rfl
theorem assignEach_all {env : PySem.Env} : ∀ {l : Tgs} {es : List Expr}, chkTs l k es = true → (assignEach es env).length = es.length ∧ (assignEach es env).findIdx? (·.1) = none
  | .nil, es, h => by rw [chkTs_nil h]; exact ⟨rfl, rfl⟩
  | .cons t l, es, h => by
    obtain ⟨x, r, rfl, h1, h2⟩ := chkTs_cons h
    obtain ⟨a, b⟩ := assignEach_all (env := env) h2
    rw [assignEach_plain h1]
    refine ⟨by simp [a], ?_⟩
    rw [List.findIdx?_cons, b]
    rfl
theorem chkTs_len : ∀ {l : Tgs} {es : List Expr}, chkTs l k es = true → l.len = es.length
  | .nil, es, h => by rw [chkTs_nil h]; rfl
  | .cons t l, es, h => by
    obtain ⟨x, r, rfl, h1, h2⟩ := chkTs_cons h
    simp only [Tgs.len, List.length_cons, chkTs_len h2]
theorem Fram.trans {own : List Nat} {O O1 O2 : Nat → Option Addr} {σ σ1 σ2 : L2.St} (a : Fram own O σ σ1 O1) (b : Fram own O1 σ1 σ2 O2) : Fram own O σ σ2 O2 :=
  ⟨b.1.trans a.1, fun i h => (b.2.1 i h).trans (a.2.1 i h), fun i x h => a.2.2 i x (b.2.2 i x h)⟩
theorem stg_nm {i : Nat} : STg fx io cf (.nm i) := by
  intro X k W e h ok
  obtain ⟨x, p, rfl, h1, h2⟩ := chkT_nm h
  obtain ⟨l1, l2⟩ := ok.locX h2
  refine (pg_name (ok.N ▸ ok.nd) (ok.slotX h1) l1 l2).imp fun v σ H Q ⟨P, O, env, r, E, hr, t⟩ => ?_
  unfold asg at t
  show Q (σ.set i (some v)) H
  cases q : store fx env i r with
  | bad => rw [q] at t; exact t.elim
  | exc z => exact (store_not_exc q).elim
  | ok env' =>
    rw [q] at t
    obtain ⟨O', p, frm⟩ : ∃ O', PostS X.K X.mg fx (FrOf r v) P O H env H (σ.set i (some v)) env' O' ∧ ((∃ d, r = .val d) → O' = drop1 O i) := by
      by_cases hv : ∃ d, r = .val d
      · obtain ⟨d, rfl⟩ := hv
        simp only [store] at q
        split at q
        · rename_i c; cases q
          exact ⟨_, store_val E c.1 c.2 hr, fun _ => rfl⟩
        · cases q
      · obtain ⟨O', p⟩ := store_ok E hr q
        exact ⟨O', p, fun z => absurd z hv⟩
    refine t H _ O' p fun own hp hv => ⟨rfl, ?_⟩
    rw [frm hv]
    refine ⟨by rw [List.length_set], fun j hj => ?_, fun j a e => (drop1_some e).2⟩
    rw [List.getElem?_set_ne]
    rintro rfl
    exact hj (by simpa [patT] using hp)
theorem stgs_nil : STgs fx io cf .nil := by
  intro X k W es h ok
  rw [chkTs_nil h]
  refine ⟨fun pins s σ H vs us Q I rv ⟨P, O, env, ds, E, hr, t⟩ => ?_⟩
  refine pgs_nil.run pins s σ H vs us Q I rv ?_
  unfold asgs at t
  cases ds with
  | cons d ds => exact t.elim
  | nil =>
    simp only [Reps] at hr
    exact ⟨hr, t H σ O (PostS.refl E) fun own _ => ⟨rfl, rfl, fun _ _ => rfl, fun _ _ h => h⟩⟩
theorem stgs_cons {t : Tg} {l : Tgs} (h1 : STg fx io cf t) (h2 : STgs fx io cf l) : STgs fx io cf (.cons t l) := by
  intro X k W es h ok
  obtain ⟨x, r, rfl, c1, c2⟩ := chkTs_cons h
  refine ⟨fun pins s σ H vs us Q I rv ⟨P, O, env, ds, E, hr, tt⟩ => ?_⟩
  refine (pgs_cons (h1 X k W x c1 ok) (h2 X k W r c2 ok) (by rw [assignEach_plain c1]; rfl)).run pins s σ H vs us Q I rv ?_
  unfold asgs at tt
  cases ds with
  | nil => exact tt.elim
  | cons d ds =>
    simp only [Reps] at hr
    obtain ⟨v, vr, rfl, r1, r2⟩ := hr
    refine ⟨v, vr, rfl, P, O, env, .val d, E, r1, ?_⟩
    have tb := TX.bind (pb := id) (F1 := FrOf (.val d) v) tt (fun a z => by obtain ⟨_, d', e⟩ := z; cases e) (fun a z => by obtain ⟨_, d', e⟩ := z; cases e)
    refine tb.imp fun env1 H1 σ1 O1 _ p1 ⟨_, t1⟩ f1 => ?_
    have kp : Same (msk (Priv P O) H) (msk (Priv P O1) H1) := keepS (p1.mono fun a z => by obtain ⟨_, d', e⟩ := z; cases e)
    refine ⟨P, O1, env1, ds, p1.ok, r2.mono kp, (t1 (fun _ => False) fun _ z => z).imp fun env2 H2 σ2 O2 _ p2 q f2 => ?_⟩
    refine q fun own hp => ?_
    have hp : (patT own t && patTs own l) = true := hp
    rw [Bool.and_eq_true] at hp
    obtain ⟨e1, fr1⟩ := f1 own hp.1 ⟨d, rfl⟩
    obtain ⟨e2, fr2⟩ := f2 own hp.2
    exact ⟨e2.trans e1, fr1.trans fr2⟩
theorem stg_tup {l : Tgs} (hl : STgs fx io cf l) : STg fx io cf (.tup l) := by
  intro X k W e h ok
  obtain ⟨es, n, p, rfl, h1⟩ := chkT_tup h
  obtain ⟨a1, a2⟩ := assignEach_all (env := X.env) h1
  refine ⟨fun pins s σ H v u Q I rv ⟨P, O, env, r, E, hr, t⟩ => ?_⟩
  refine (pg_tup ok.calm (hl X k W es h1 ok) a1 a2).run pins s σ H v u Q I rv ?_
  unfold asg at t
  cases hd : deref env r.arg with
  | none => rw [hd] at t; exact t.elim
  | some d =>
    rw [hd] at t
    cases d with
    | tup ds =>
      obtain ⟨a, vs, rfl, z1, z2⟩ := AOk.top E hr.toA hd
      by_cases hlen : ds.length = l.len
      · simp only [hlen, if_true] at t
        have len : vs.length = es.length := by rw [← z2.length, hlen, chkTs_len h1]
        refine ⟨a, vs, rfl, SqT.of z1, len, P, O, env, ds, E, z2, ?_⟩
        refine (t.less fun _ z => z.elim).imp fun env2 H2 σ2 O2 _ p2 q f2 => q fun own hp _ => f2 own hp
      · simp only [hlen, if_false] at t
        exact t.elim
    | _ => exact t.elim
theorem stg_ix {i : Nat} {ke : Ex} (hk : SE fx io cf ke) : STg fx io cf (.ix i ke) := by
  intro X k W e h ok
  obtain ⟨x, p, y, q, rfl, h1, h2, h3, h4⟩ := chkT_ix h
  obtain ⟨v1, v2, v3⟩ := ok.visX h2
  refine (pg_sub (pe_var (ok.slotX h1) v1 v2 v3) (hk X k W y h4 ok) set_list (by
    intro v
    cases y <;> first | rfl | exact Bool.noConfusion (show true = false from h3))).imp fun v σ H Q ⟨P, O, env, r, E, hr, t⟩ => ?_
  unfold asg at t
  cases qi : env[i]? with
  | none => simp only [qi] at t; exact t.elim
  | some s =>
    simp only [qi] at t
    cases s with
    | un => exact t.elim
    | sh d => exact t.elim
    | lk d => exact t.elim
    | ow d0 =>
      obtain ⟨a, z1, z2, z3⟩ := E.sl i _ qi
      refine ⟨.ref a, z2, P, O, env, E, ?_⟩
      refine (TX.bindE E t).imp fun r1 env1 H1 O1 p1 ⟨_, t1⟩ kv ko => ?_
      have t1 := t1 (fun _ => False) fun _ z => z.elim
      have ra : AOk X.K X.mg P σ H1 O1 v r.arg := AOk.keep E p1 hr.toA
      have ka := ROk.arg E p1 ko
      cases hd : deref env1 r.arg with
      | none => simp only [hd] at t1; exact t1.elim
      | some d =>
        simp only [hd] at t1
        obtain ⟨O2, p2, r2⟩ := p1.ok.frz1 ra
        cases q1 : (frz1 env1 r.arg)[i]? with
        | none => simp only [q1] at t1; exact t1.elim
        | some s1 =>
          cases s1 with
          | un => simp only [q1] at t1; exact t1.elim
          | sh d => simp only [q1] at t1; exact t1.elim
          | lk d => simp only [q1] at t1; exact t1.elim
          | ow own =>
            simp only [q1] at t1
            cases hk2 : deref (frz1 env1 r.arg) r1.arg with
            | none => simp only [hk2] at t1; exact t1.elim
            | some kd =>
              simp only [hk2] at t1
              cases hs : setIxD own kd d with
              | none => simp only [hs] at t1; exact t1.elim
              | some own' =>
                simp only [hs] at t1
                unfold setIxD at hs
                split at hs
                · obtain ⟨j, hj, e⟩ := Option.map_eq_some_iff.mp hs
                  subst e
                  obtain ⟨b, y1, y2, vs, y3, y4⟩ := p2.ok.sl i _ q1
                  rw [z2] at y2; cases y2
                  have kt := AOk.top p2.ok (AOk.keep p1.ok p2 ka) hk2
                  have kt : Rep X.K X.mg H1 _ kv := kt
                  simp only [Rep] at kt
                  subst kt
                  refine ⟨a, vs, _, j, rfl, rfl, y3, by rw [← y4.length]; exact hj, ?_⟩
                  have rd : Rep X.K X.mg (msk (Priv P O2) H1) _ v := r2 _ hd
                  have p3 := p2.ok.change (ho := .lst (vs.set j v)) q1 y1 (d' := .lst _) ⟨_, rfl, y4.set j rd⟩
                  refine t1 _ σ O2 ((p2.trans p3).toS p1.ok) fun own hp => ?_
                  exact Bool.noConfusion (show false = true from hp)
                · cases hs
end
end MP
end
section
set_option Elab.async false
set_option linter.all false
set_option maxRecDepth 100000
set_option maxHeartbeats 1000000
/-! MPT: what loops walk. -/
namespace MP
open PySem PySem.Spec PyProof.Rows L2

/-! ### locks -/
theorem lock_len : ∀ {l : List Nat} {env : Env}, (lock env l).length = env.length
  | [], _ => rfl
  | i :: r, env => by rw [lock, lock_len, mod_len]
theorem unlock_len : ∀ {l : List Nat} {env : Env}, (unlock env l).length = env.length
  | [], _ => rfl
  | i :: r, env => by rw [unlock, unlock_len, mod_len]
theorem lock_get : ∀ {l : List Nat} {env : Env} {i : Nat}, (lock env l)[i]? = if i ∈ l then (env[i]?).map toLk else env[i]?
  | [], env, i => by simp [lock]
  | j :: r, env, i => by
    rw [lock, lock_get]
    by_cases e : j = i
    · subst e
      rw [mod_self]
      simp only [List.mem_cons, true_or, if_true]
      split
      · cases env[j]? with
        | none => rfl
        | some s => cases s <;> rfl
      · rfl
    · rw [mod_ne e]
      have : (i ∈ j :: r) = (i ∈ r) := by simp [List.mem_cons, Ne.symm e]
      simp only [this]
theorem unlock_get : ∀ {l : List Nat} {env : Env} {i : Nat}, (unlock env l)[i]? = if i ∈ l then (env[i]?).map toOw else env[i]?
  | [], env, i => by simp [unlock]
  | j :: r, env, i => by
    rw [unlock, unlock_get]
    by_cases e : j = i
    · subst e
      rw [mod_self]
      simp only [List.mem_cons, true_or, if_true]
      split
      · cases env[j]? with
        | none => rfl
        | some s => cases s <;> rfl
      · rfl
    · rw [mod_ne e]
      have : (i ∈ j :: r) = (i ∈ r) := by simp [List.mem_cons, Ne.symm e]
      simp only [this]
theorem lock_ow {l : List Nat} {env : Env} {i : Nat} {d : D} (h : (lock env l)[i]? = some (.ow d)) : env[i]? = some (.ow d) ∧ i ∉ l := by
  rw [lock_get] at h
  split at h
  · rename_i m
    cases q : env[i]? with
    | none => rw [q] at h; cases h
    | some s => rw [q] at h; cases s <;> cases h
  · rename_i m; exact ⟨h, m⟩
theorem lock_lk {l : List Nat} {env : Env} {i : Nat} {d : D} (h : (lock env l)[i]? = some (.lk d)) : env[i]? = some (.lk d) ∨ (i ∈ l ∧ env[i]? = some (.ow d)) := by
  rw [lock_get] at h
  split at h
  · rename_i m
    cases q : env[i]? with
    | none => rw [q] at h; cases h
    | some s =>
      rw [q] at h
      cases s with
      | un => cases h
      | sh x => cases h
      | ow x =>
        simp only [Option.map_some, toLk, Option.some.injEq, Slot.lk.injEq] at h
        subst h; exact .inr ⟨m, rfl⟩
      | lk x => exact .inl h
  · exact .inl h
theorem unlock_lk {l : List Nat} {env : Env} {i : Nat} {d : D} (h : (unlock env l)[i]? = some (.lk d)) : env[i]? = some (.lk d) ∧ i ∉ l := by
  rw [unlock_get] at h
  split at h
  · cases q : env[i]? with
    | none => rw [q] at h; cases h
    | some s => rw [q] at h; cases s <;> cases h
  · rename_i m; exact ⟨h, m⟩
theorem unlock_ow {l : List Nat} {env : Env} {i : Nat} {d : D} (h : (unlock env l)[i]? = some (.ow d)) : env[i]? = some (.ow d) ∨ (i ∈ l ∧ env[i]? = some (.lk d)) := by
  rw [unlock_get] at h
  split at h
  · rename_i m
    cases q : env[i]? with
    | none => rw [q] at h; cases h
    | some s =>
      rw [q] at h
      cases s with
      | un => cases h
      | sh x => cases h
      | lk x =>
        simp only [Option.map_some, toOw, Option.some.injEq, Slot.ow.injEq] at h
        subst h; exact .inr ⟨m, rfl⟩
      | ow x => exact .inl h
  · exact .inl h
section
variable {K : PySem.W.Frag} {mg : Str → Option Value} {P : Addr → Prop} {O O' : Nat → Option Addr} {H H' : Hp} {σ σ' : L2.St} {env env' : Env}
theorem SlotOk.lk {S : Addr → Prop} {oi : Option Addr} {sv : Option (Option V)} : ∀ {s : Slot}, SlotOk K mg S oi H sv s → SlotOk K mg S oi H sv (toLk s)
  | .un, h => h
  | .sh d, h => h
  | .ow d, h => h
  | .lk d, h => h
theorem SlotOk.ow {S : Addr → Prop} {oi : Option Addr} {sv : Option (Option V)} : ∀ {s : Slot}, SlotOk K mg S oi H sv s → SlotOk K mg S oi H sv (toOw s)
  | .un, h => h
  | .sh d, h => h
  | .ow d, h => h
  | .lk d, h => h
theorem EnvOk.lock (E : EnvOk K mg P O H σ env) (l : List Nat) : EnvOk K mg P O H σ (MP.lock env l) := by
  refine ⟨by rw [lock_len]; exact E.len, fun i s h => ?_, fun i h => E.out i ?_, E.inj, E.apart, E.tr⟩
  · rw [lock_get] at h
    split at h
    · obtain ⟨t, e, rfl⟩ := Option.map_eq_some_iff.mp h
      exact (E.sl i t e).lk
    · exact E.sl i s h
  · rw [List.getElem?_eq_none_iff] at h ⊢
    rw [lock_len] at h; exact h
theorem EnvOk.unlock (E : EnvOk K mg P O H σ env) (l : List Nat) : EnvOk K mg P O H σ (MP.unlock env l) := by
  refine ⟨by rw [unlock_len]; exact E.len, fun i s h => ?_, fun i h => E.out i ?_, E.inj, E.apart, E.tr⟩
  · rw [unlock_get] at h
    split at h
    · obtain ⟨t, e, rfl⟩ := Option.map_eq_some_iff.mp h
      exact (E.sl i t e).ow
    · exact E.sl i s h
  · rw [List.getElem?_eq_none_iff] at h ⊢
    rw [unlock_len] at h; exact h
theorem U.lock {l : List Nat} {a : Addr} (h : U (MP.lock env l) O a) : U env O a := let ⟨i, d, e, o⟩ := h; ⟨i, d, (lock_ow e).1, o⟩
/-- a loop's end: what it locked is open again -/
theorem PostS.unlock {fx l : List Nat} {F : Addr → Prop} (hl : ∀ i ∈ l, ∃ d, env[i]? = some (.ow d)) (p : PostS K mg fx F P O H (MP.lock env l) H' σ' env' O') : PostS K mg fx F P O H env H' σ' (MP.unlock env' l) O' := by
  refine ⟨p.pv, p.eff.mono fun a => U.lock, fun a ⟨i, d, e, o⟩ => ?_, p.dom, fun i d e => ?_, fun i hi d e => ?_, p.ok.unlock l⟩
  · rcases unlock_ow e with e | ⟨m, e⟩
    · exact (p.um a ⟨i, d, e, o⟩).imp U.lock id
    · obtain ⟨o2, d', e'⟩ := p.lk i d e
      obtain ⟨d2, e2⟩ := hl i m
      exact .inl ⟨i, d2, e2, by rw [← o2]; exact o⟩
  · obtain ⟨e, m⟩ := unlock_lk e
    obtain ⟨o2, d', e'⟩ := p.lk i d e
    rcases lock_lk e' with e' | ⟨m', e'⟩
    · exact ⟨o2, d', e'⟩
    · exact absurd m' m
  · have e' : ∃ d : D, env'[i]? = some (.ow d) ∨ env'[i]? = some (.lk d) := by
      rcases e with e | e
      · rcases unlock_ow e with e | ⟨m, e⟩
        · exact ⟨d, .inl e⟩
        · exact ⟨d, .inr e⟩
      · exact ⟨d, .inr (unlock_lk e).1⟩
    obtain ⟨d1, e1⟩ := e'
    obtain ⟨o2, d2, e2⟩ := p.fix i hi d1 e1
    refine ⟨o2, ?_⟩
    rcases e2 with e2 | e2
    · exact ⟨d2, .inl (lock_ow e2).1⟩
    · rcases lock_lk e2 with e2 | ⟨_, e2⟩
      · exact ⟨d2, .inr e2⟩
      · exact ⟨d2, .inl e2⟩
theorem lockable_ow : ∀ {as : List A} {i : Nat}, i ∈ lockable env as → ∃ d, env[i]? = some (.ow d)
  | [], i, h => by simp [lockable] at h
  | .val d :: as, i, h => lockable_ow (as := as) h
  | .own j :: as, i, h => by
    unfold lockable at h
    split at h
    · rename_i c
      rcases List.mem_cons.mp h with rfl | h
      · cases q : env[i]? with
        | none => rw [q] at c; cases c
        | some s =>
          rw [q] at c
          cases s with
          | ow d => exact ⟨d, rfl⟩
          | _ => cases c
      · exact lockable_ow h
    · exact lockable_ow h
theorem lockable_lk : ∀ {as : List A} {j : Nat}, A.own j ∈ as → ∀ d, (lock env (lockable env as))[j]? ≠ some (.ow d) := by
  intro as j hm d h
  obtain ⟨e, n⟩ := lock_ow h
  refine n ?_
  have : ∀ {as : List A}, A.own j ∈ as → j ∈ lockable env as := by
    intro as
    induction as with
    | nil => intro h; cases h
    | cons a r ih =>
      intro h
      cases a with
      | val x =>
        refine ih ?_
        rcases List.mem_cons.mp h with h | h
        · cases h
        · exact h
      | own i =>
        unfold lockable
        rcases List.mem_cons.mp h with h | h
        · cases h
          rw [e]
          simp [isOw]
        · split
          · exact List.mem_cons_of_mem _ (ih h)
          · exact ih h
  exact this hm

/-! ### what is walked -/
/-- the items by the turns, for all heaps that a loop may come to -/
structure Walk (K : PySem.W.Frag) (mg : Str → Option Value) (J : L2.It) (items : List D) (P : Addr → Prop) (O : Nat → Option Addr) (H : Hp) (env : Env) : Prop where
  step : ∀ (H2 : Hp) (S2 : Addr → Prop), Same (msk (Priv P O) H) (msk S2 H2) → Eff (U env O) H H2 → (∀ a, S2 a → ∃ o, H2 a = some o) → ∀ i : Nat,
    (items.length ≤ i → J.stop i H2) ∧ (i < items.length → J.go i H2 ∧ ∀ x H', J.yld i H2 x H' → Same H2 H' ∧ ∃ d, items[i]? = some d ∧ Rep K mg (msk S2 H') d x)
/-- the sequence of a value: it stays as it is -/
def Stay (K : PySem.W.Frag) (mg : Str → Option Value) (isL : Bool) (P : Addr → Prop) (O : Nat → Option Addr) (H : Hp) (env : Env) (l : List D) (a : Addr) : Prop :=
  ∃ vs, ∀ (H2 : Hp) (S2 : Addr → Prop), Same (msk (Priv P O) H) (msk S2 H2) → Eff (U env O) H H2 → (if isL then SqL K H2 a vs else SqT K H2 a vs) ∧ Reps K mg (msk S2 H2) l vs
theorem Rep.stay {v : V} {d : D} {l : List D} (r : Rep K mg (msk (Priv P O) H) d v) (hs : seq? d = some l) : ∃ a, v = .ref a ∧ (isL d = true ∨ isTu d = true) ∧ Stay K mg (isL d) P O H env l a := by
  cases d <;> simp only [seq?] at hs <;> try cases hs
  · simp only [Rep] at r
    obtain ⟨a, vs, e, h1, h2⟩ := r
    exact ⟨a, e, .inr rfl, vs, fun H2 S2 k _ => ⟨SqT.of (msk_le _ _ (k _ _ h1)), h2.mono k⟩⟩
  · simp only [Rep] at r
    obtain ⟨a, vs, e, h1, h2⟩ := r
    exact ⟨a, e, .inl rfl, vs, fun H2 S2 k _ => ⟨SqL.of (msk_le _ _ (k _ _ h1)), h2.mono k⟩⟩
  · simp only [Rep] at r
    obtain ⟨a, vs, e, h1, h2⟩ := r
    exact ⟨a, e, .inl rfl, vs, fun H2 S2 k _ => ⟨SqL.un (SqL.mono k h1), h2.mono k⟩⟩
  · simp only [Rep] at r
    obtain ⟨a, vs, o, e, h1, _, h2⟩ := r
    exact ⟨a, e, .inr rfl, vs, fun H2 S2 k _ => ⟨.inl (.inr ⟨o, msk_le _ _ (k _ _ h1)⟩), h2.mono k⟩⟩
theorem AOk.stay (E : EnvOk K mg P O H σ env) {v : V} {a : A} {d : D} {l : List D} {lks : List Nat} (h : AOk K mg P σ H O v a) (e : deref env a = some d) (hs : seq? d = some l) (hl : ∀ j, a = .own j → ∀ d, (lock env lks)[j]? ≠ some (.ow d)) :
    ∃ p, v = .ref p ∧ (isL d = true ∨ isTu d = true) ∧ Stay K mg (isL d) P O H (lock env lks) l p := by
  cases a with
  | val x => simp only [deref, Option.some.injEq] at e; subst e; exact Rep.stay h hs
  | own j =>
    have h : σ[j]? = some (some v) := h
    simp only [deref] at e
    cases q : env[j]? with
    | none => rw [q] at e; cases e
    | some s =>
      rw [q] at e
      have z := E.sl j s q
      have own : ∀ x p, O j = some p → σ[j]? = some (some (.ref p)) → Own K mg (msk (Priv P O) H) (H p) x → x = d → ∃ p, v = .ref p ∧ (isL d = true ∨ isTu d = true) ∧ Stay K mg (isL d) P O H (lock env lks) l p := by
        rintro x p e1 e2 ow rfl
        rw [h] at e2; cases e2
        cases x <;> simp only [Own] at ow <;> simp only [seq?] at hs <;> try cases hs
        obtain ⟨vs, e3, r⟩ := ow
        refine ⟨p, rfl, .inl rfl, vs, fun H2 S2 k f => ⟨SqL.of (f p _ e3 ?_), r.mono k⟩⟩
        rintro ⟨i, d', e4, e5⟩
        have := E.inj i j p e5 e1
        subst this
        exact hl i rfl d' e4
      cases s with
      | un => cases e
      | sh x =>
        simp only [Option.bind_some, slotD, Option.some.injEq] at e; subst e
        obtain ⟨_, u, e1, e2⟩ := z
        rw [h] at e1; cases e1
        exact Rep.stay e2 hs
      | ow x =>
        simp only [Option.bind_some, slotD, Option.some.injEq] at e
        obtain ⟨b, e1, e2, e3⟩ := z
        exact own x b e1 e2 e3 e
      | lk x =>
        simp only [Option.bind_some, slotD, Option.some.injEq] at e
        obtain ⟨b, e1, e2, e3⟩ := z
        exact own x b e1 e2 e3 e
section
variable {l m : List D} {a b : Addr}
theorem walk_list (h : Stay K mg true P O H env l a) : Walk K mg (Itl K a) l P O H env := by
  obtain ⟨vs, h⟩ := h
  refine ⟨fun H2 S2 k f hS i => ?_⟩
  obtain ⟨q, r⟩ := h H2 S2 k f
  have q : SqL K H2 a vs := q
  have hl := r.length
  refine ⟨fun hi => ⟨vs, q, by omega⟩, fun hi => ⟨⟨vs, vs[i]'(by omega), q, by simp⟩, ?_⟩⟩
  rintro x H' ⟨rfl, y⟩
  obtain ⟨d, e, rd⟩ := r.get' (y vs q)
  exact ⟨Same.refl _, d, e, rd⟩
theorem walk_tup (h : Stay K mg false P O H env l a) : Walk K mg (Itt K a) l P O H env := by
  obtain ⟨vs, h⟩ := h
  refine ⟨fun H2 S2 k f hS i => ?_⟩
  obtain ⟨q, r⟩ := h H2 S2 k f
  have q : SqT K H2 a vs := q
  have hl := r.length
  refine ⟨fun hi => ⟨vs, q, by omega⟩, fun hi => ⟨⟨vs, vs[i]'(by omega), q, by simp⟩, ?_⟩⟩
  rintro x H' ⟨rfl, y⟩
  obtain ⟨d, e, rd⟩ := r.get' (y vs q)
  exact ⟨Same.refl _, d, e, rd⟩
theorem walk_rng {lo : Int} {n : Nat} : Walk K mg (Itr lo n) ((List.range n).map fun (k : Nat) => .int (lo + (k : Int))) P O H env := by
  refine ⟨fun H2 S2 k f hS i => ?_⟩
  simp only [List.length_map, List.length_range]
  refine ⟨fun hi => hi, fun hi => ⟨hi, ?_⟩⟩
  rintro x H' ⟨rfl, rfl⟩
  refine ⟨Same.refl _, .int (lo + (i : Int)), ?_, by simp only [Rep]⟩
  rw [List.getElem?_map, List.getElem?_range hi]; rfl
/-- a new pair -/
theorem pair_new {H2 : Hp} {S2 : Addr → Prop} {T : Addr} {d e : D} {x y : V} (hS : ∀ a, S2 a → ∃ o, H2 a = some o) (hT : H2 T = none) (r1 : Rep K mg (msk S2 H2) d x) (r2 : Rep K mg (msk S2 H2) e y) :
    Same H2 (upd H2 T (.tup [x, y])) ∧ Rep K mg (msk S2 (upd H2 T (.tup [x, y]))) (.tup [d, e]) (.ref T) := by
  have k : Same H2 (upd H2 T (.tup [x, y])) := fun b o h => by
    rw [upd_ne]
    · exact h
    · rintro rfl
      rw [hT] at h; cases h
  have km : Same (msk S2 H2) (msk S2 (upd H2 T (.tup [x, y]))) := msk_mono (fun a z => .inl z) fun a o _ h => k a o h
  refine ⟨k, ?_⟩
  simp only [Rep]
  refine ⟨T, [x, y], rfl, msk_some.mpr ⟨fun z => ?_, upd_same⟩, Reps.cons (r1.mono km) (Reps.cons (r2.mono km) Reps.nil)⟩
  obtain ⟨o, h⟩ := hS T z
  rw [hT] at h; cases h
theorem walk_enum (h : Stay K mg true P O H env l a) : Walk K mg (Ite K a) (l.mapIdx fun k x => .tup [.int k, x]) P O H env := by
  obtain ⟨vs, h⟩ := h
  refine ⟨fun H2 S2 k f hS i => ?_⟩
  obtain ⟨q, r⟩ := h H2 S2 k f
  have q : SqL K H2 a vs := q
  have hl := r.length
  rw [List.length_mapIdx]
  refine ⟨fun hi => ⟨vs, q, by omega⟩, fun hi => ⟨⟨vs, vs[i]'(by omega), q, by simp⟩, ?_⟩⟩
  rintro x H' ⟨T, y, rfl, hT, rfl, z⟩
  obtain ⟨d, e, rd⟩ := r.get' (z vs q)
  obtain ⟨k1, r1⟩ := pair_new (d := .int i) (x := .int i) hS hT (by simp only [Rep]) rd
  refine ⟨k1, _, ?_, r1⟩
  rw [List.getElem?_mapIdx, e]; rfl
theorem zip_get {i : Nat} {d e : D} (h : l[i]? = some d) (g : m[i]? = some e) : ((l.zip m).map fun p => D.tup [p.1, p.2])[i]? = some (.tup [d, e]) := by
  rw [List.getElem?_map]
  have : (l.zip m)[i]? = some (d, e) := by
    rw [List.getElem?_zip_eq_some]; exact ⟨h, g⟩
  rw [this]; rfl
theorem walk_zip (h : Stay K mg true P O H env l a) (h' : Stay K mg true P O H env m b) : Walk K mg (Itz K a b) ((l.zip m).map fun p => .tup [p.1, p.2]) P O H env := by
  obtain ⟨vs, h⟩ := h
  obtain ⟨ws, h'⟩ := h'
  refine ⟨fun H2 S2 k f hS i => ?_⟩
  obtain ⟨q, r⟩ := h H2 S2 k f
  obtain ⟨q', r'⟩ := h' H2 S2 k f
  have q : SqL K H2 a vs := q
  have q' : SqL K H2 b ws := q'
  have hl := r.length
  have hl' := r'.length
  rw [List.length_map, List.length_zip]
  refine ⟨fun hi => ⟨vs, ws, q, q', by omega⟩, fun hi => ⟨⟨vs, ws, vs[i]'(by omega), ws[i]'(by omega), q, q', by simp, by simp⟩, ?_⟩⟩
  rintro x H' ⟨T, y, y', rfl, hT, rfl, z, z'⟩
  obtain ⟨d, e, rd⟩ := r.get' (z vs q)
  obtain ⟨d', e', rd'⟩ := r'.get' (z' ws q')
  obtain ⟨k1, r1⟩ := pair_new hS hT rd rd'
  exact ⟨k1, _, zip_get e e', r1⟩
theorem walk_zipT (h : Stay K mg false P O H env l a) (h' : Stay K mg false P O H env m b) : Walk K mg (RZ.ItzT K a b) ((l.zip m).map fun p => .tup [p.1, p.2]) P O H env := by
  obtain ⟨vs, h⟩ := h
  obtain ⟨ws, h'⟩ := h'
  refine ⟨fun H2 S2 k f hS i => ?_⟩
  obtain ⟨q, r⟩ := h H2 S2 k f
  obtain ⟨q', r'⟩ := h' H2 S2 k f
  have q : SqT K H2 a vs := q
  have q' : SqT K H2 b ws := q'
  have hl := r.length
  have hl' := r'.length
  rw [List.length_map, List.length_zip]
  refine ⟨fun hi => ⟨vs, ws, q, q', by omega⟩, fun hi => ⟨⟨vs, ws, vs[i]'(by omega), ws[i]'(by omega), q, q', by simp, by simp⟩, ?_⟩⟩
  rintro x H' ⟨T, y, y', rfl, hT, rfl, z, z'⟩
  obtain ⟨d, e, rd⟩ := r.get' (z vs q)
  obtain ⟨d', e', rd'⟩ := r'.get' (z' ws q')
  obtain ⟨k1, r1⟩ := pair_new hS hT rd rd'
  exact ⟨k1, _, zip_get e e', r1⟩
end
end

/-! ### the iterators -/
def iSeq (K : PySem.W.Frag) (tl : TE) : TI := fun σ H R => tl σ H fun x H1 => ∃ a, x = .ref a ∧ ((∃ xs, SqL K H1 a xs ∧ R (Itl K a) H1) ∨ (∃ xs, SqT K H1 a xs ∧ R (Itt K a) H1))
theorem pi_seq {X : Cx} {tg l : Expr} {tl : TE} (hl : PE X l tl) : PI X tg l (iSeq X.K tl) := by
  refine ⟨fun pins s σ H R I h => ?_⟩
  refine thn (hl.run pins s σ H _ I h) fun v s1 ⟨x, H1, I1, r1, q1⟩ => ?_
  obtain ⟨a, e, ⟨xs, hq, q⟩ | ⟨xs, hq, q⟩⟩ := q1
  · subst e
    cases r1
    obtain ⟨its, rv, p, hz⟩ := I1.list hq
    refine wpAny_pyIter_list p.isList ?_
    refine ⟨s1.heap.objs.size, [s1.heap.objs.size], _, _, H1, rfl, I1.kept (t' := s1.toks) fun b o e => Heap.get?_push_of_some _ e, turn_list a _, ⟨_, Heap.get?_push_size _ rfl, rfl, rfl⟩, fun b hb => ?_, q⟩
    have e : b = s1.heap.objs.size := by simpa using hb
    subst e
    exact I1.fpOk (Nat.le_refl _) (I1.hok.fresh (Nat.le_refl _))
  · subst e
    cases r1
    obtain ⟨its, rv, p, hz⟩ := I1.tuple hq
    refine wpAny_pyIter_tuple (show s1.heap.IsTuple a its.toArray from p) ?_
    refine ⟨s1.heap.objs.size, [s1.heap.objs.size], _, _, H1, rfl, I1.kept (t' := s1.toks) fun b o e => Heap.get?_push_of_some _ e, turn_tuple a _, ⟨_, Heap.get?_push_size _ rfl, rfl, rfl⟩, fun b hb => ?_, q⟩
    have e : b = s1.heap.objs.size := by simpa using hb
    subst e
    exact I1.fpOk (Nat.le_refl _) (I1.hok.fresh (Nat.le_refl _))
section
variable (K : PySem.W.Frag) (mg : Str → Option Value) (fx : List Nat) (io : Str → List Bool) (cf : Str → List D → RC) (W : WX)
def tIt (it : MP.It) : TI := fun σ H R => ∃ P O env, EnvOk K mg P O H σ env ∧ TRes K mg (fun c d H' => W c d σ H') P O H σ env (evI fx io cf it env)
  (fun z env1 H1 O1 => (∀ i ∈ z.2, ∃ d, env1[i]? = some (.ow d)) → ∀ J, Walk K mg J z.1 P O1 H1 (lock env1 z.2) → R J H1)
def SI (it : MP.It) : Prop := ∀ (X : Cx) (k : Kx) (W : WX) (tg e : Expr), chkI it k tg e = true → Okc X k W io cf → PI X tg e (tIt X.K X.mg fx io cf W it) ∧ ∀ x, foldedSetIterable e X.env x = pure x
end
section
variable {k : Kx} {tg e : Expr} {fx : List Nat} {io : Str → List Bool} {cf : Str → List D → RC}
theorem chkI_seq {a : Ex} (h : chkI (.seq a) k tg e = true) : chkE a k e = true ∧ ∀ env x, foldedSetIterable e env x = pure x := by
  have h : (chkE a k e && !isSetE e) = true := h
  rw [Bool.and_eq_true] at h
  refine ⟨h.1, fun env x => ?_⟩
  cases e <;> first | rfl | exact Bool.noConfusion (show false = true from h.2)
theorem chkI_rng1 {a : Ex} (h : chkI (.rng1 a) k tg e = true) : ∃ p x q, e = .Call (.Name "range" p) [x] [] q ∧ k.gl "range" = true ∧ chkE a k x = true := by
  cases e <;> first | exact Bool.noConfusion (show false = true from h) | skip
  rename_i f es kw p2
  cases f <;> first | exact Bool.noConfusion (show false = true from h) | skip
  rename_i y p
  match es, kw, h with
  | [x], [], h =>
    have h : (decide (y = "range") && k.gl y && chkE a k x) = true := h
    simp only [Bool.and_eq_true, decide_eq_true_eq] at h
    obtain ⟨⟨rfl, h1⟩, h2⟩ := h
    exact ⟨p, x, p2, rfl, h1, h2⟩
theorem chkI_rng2 {a b : Ex} (h : chkI (.rng2 a b) k tg e = true) : ∃ p x z q, e = .Call (.Name "range" p) [x, z] [] q ∧ k.gl "range" = true ∧ chkE a k x = true ∧ chkE b k z = true := by
  cases e <;> first | exact Bool.noConfusion (show false = true from h) | skip
  rename_i f es kw p2
  cases f <;> first | exact Bool.noConfusion (show false = true from h) | skip
  rename_i y p
  match es, kw, h with
  | [x, z], [], h =>
    have h : (decide (y = "range") && k.gl y && (chkE a k x && chkE b k z)) = true := h
    simp only [Bool.and_eq_true, decide_eq_true_eq] at h
    obtain ⟨⟨rfl, h1⟩, h2, h3⟩ := h
    exact ⟨p, x, z, p2, rfl, h1, h2, h3⟩
theorem chkI_zip {a b : Ex} (h : chkI (.zip a b) k tg e = true) : ∃ elts kk tp p x z q, tg = .Tuple elts kk tp ∧ e = .Call (.Name "zip" p) [x, z] [] q ∧ k.gl "zip" = true ∧ chkE a k x = true ∧ chkE b k z = true := by
  cases tg <;> first | exact Bool.noConfusion (show false = true from h) | skip
  cases e <;> first | exact Bool.noConfusion (show false = true from h) | skip
  rename_i f es kw p2
  cases f <;> first | exact Bool.noConfusion (show false = true from h) | skip
  rename_i y p
  match es, kw, h with
  | [x, z], [], h =>
    have h : (decide (y = "zip") && k.gl y && (chkE a k x && chkE b k z)) = true := h
    simp only [Bool.and_eq_true, decide_eq_true_eq] at h
    obtain ⟨⟨rfl, h1⟩, h2, h3⟩ := h
    exact ⟨_, _, _, p, x, z, p2, rfl, rfl, h1, h2, h3⟩
theorem chkI_enum {a : Ex} (h : chkI (.enum a) k tg e = true) : ∃ elts kk tp p x q, tg = .Tuple elts kk tp ∧ e = .Call (.Name "enumerate" p) [x] [] q ∧ k.gl "enumerate" = true ∧ chkE a k x = true := by
  cases tg <;> first | exact Bool.noConfusion (show false = true from h) | skip
  cases e <;> first | exact Bool.noConfusion (show false = true from h) | skip
  rename_i f es kw p2
  cases f <;> first | exact Bool.noConfusion (show false = true from h) | skip
  rename_i y p
  match es, kw, h with
  | [x], [], h =>
    have h : (decide (y = "enumerate") && k.gl y && chkE a k x) = true := h
    simp only [Bool.and_eq_true, decide_eq_true_eq] at h
    obtain ⟨⟨rfl, h1⟩, h2⟩ := h
    exact ⟨_, _, _, p, x, p2, rfl, rfl, h1, h2⟩
theorem si_seq {a : Ex} (ha : SE fx io cf a) : SI fx io cf (.seq a) := by
  intro X k W tg e h ok
  obtain ⟨h1, h2⟩ := chkI_seq h
  refine ⟨(pi_seq (ha X k W e h1 ok)).imp fun σ H R ⟨P, O, env, E, t⟩ => ?_, h2 _⟩
  unfold evI at t
  refine ⟨P, O, env, E, t.bind.imp fun r env1 H1 O1 p1 ⟨_, t1⟩ v o => ?_⟩
  have ar := ROk.arg E p1 o
  cases hd : deref env1 r.arg with
  | none => simp only [hd] at t1; exact t1.elim
  | some d =>
    cases hs : seq? d with
    | none => simp only [hd, Option.bind_some, hs] at t1; exact t1.elim
    | some l =>
      simp only [hd, Option.bind_some, hs] at t1
      have wk := t1 H1 O1 (Post.refl p1.ok) fun i hi => lockable_ow hi
      obtain ⟨p, rfl, hk, st⟩ := AOk.stay p1.ok ar hd hs (lks := lockable env1 [r.arg]) fun j e => lockable_lk (by rw [e]; exact List.mem_cons_self)
      refine ⟨p, rfl, ?_⟩
      obtain ⟨vs, sv⟩ := id st
      have s0 := (sv H1 _ (Same.refl _) Eff.refl).1
      cases hb : isL d with
      | true =>
        rw [hb] at st s0
        exact .inl ⟨vs, s0, wk _ (walk_list st)⟩
      | false =>
        rw [hb] at st s0
        exact .inr ⟨vs, s0, wk _ (walk_tup st)⟩
theorem fold_call {f : Expr} {es : List Expr} {kw : List Keyword} {p : Pos} {env : PySem.Env} : ∀ x, foldedSetIterable (.Call f es kw p) env x = pure x := fun _ => rfl
theorem si_rng1 {a : Ex} (ha : SE fx io cf a) : SI fx io cf (.rng1 a) := by
  intro X k W tg e h ok
  obtain ⟨p, x, q, rfl, h1, h2⟩ := chkI_rng1 h
  refine ⟨(pi_range1 (ok.glX h1).1 (ok.blt _ (by decide)) (pa_cons (ha X k W x h2 ok) pa_nil (star_eq (no_star h2))) (star_eq (no_star h2))).imp fun σ H R ⟨P, O, env, E, t⟩ => ?_, fold_call⟩
  unfold evI at t
  refine ⟨P, O, env, E, t.bind.imp fun r env1 H1 O1 p1 ⟨_, t1⟩ v o => ?_⟩
  show ∃ j : Int, _
  cases r with
  | fr d => exact t1.elim
  | own i => exact t1.elim
  | val d =>
    cases d with
    | int j =>
      simp only at t1
      split at t1
      · rename_i c
        have o : v = .int j := by simpa only [ROk, Rep] using o
        subst o
        have := t1 H1 O1 (Post.refl p1.ok) (fun i hi => by simp at hi) (Itr 0 j.toNat) (by
          have := walk_rng (K := X.K) (mg := X.mg) (lo := 0) (n := j.toNat) (P := P) (O := O1) (H := H1) (env := lock env1 [])
          simpa using this)
        exact ⟨j, rfl, c.1, c.2, this⟩
      · exact t1.elim
    | _ => exact t1.elim
theorem si_rng2 {a b : Ex} (ha : SE fx io cf a) (hb : SE fx io cf b) : SI fx io cf (.rng2 a b) := by
  intro X k W tg e h ok
  obtain ⟨p, x, z, q, rfl, h1, h2, h3⟩ := chkI_rng2 h
  refine ⟨(pi_range2 (ok.glX h1).1 (ok.blt _ (by decide)) (pa_cons (ha X k W x h2 ok) (pa_cons (hb X k W z h3 ok) pa_nil (star_eq (no_star h3))) (star_eq (no_star h2))) (by rw [star_eq (no_star h2), star_eq (no_star h3)]; rfl) (star_eq (no_star h3))).imp fun σ H R ⟨P, O, env, E, t⟩ => ?_, fold_call⟩
  unfold evI at t
  refine ⟨P, O, env, E, t.bind.imp fun r env1 H1 O1 p1 ⟨_, t1⟩ v o => ?_⟩
  refine ⟨P, O1, env1, p1.ok, t1.bind.imp fun r2 env2 H2 O2 p2 ⟨_, t2⟩ v2 o2 => ?_⟩
  show ∃ i j : Int, _
  cases r with
  | fr d => exact t2.elim
  | own i => exact t2.elim
  | val d =>
    cases d with
    | int i =>
      cases r2 with
      | fr d => exact t2.elim
      | own i => exact t2.elim
      | val d =>
        cases d with
        | int j =>
          simp only at t2
          split at t2
          · rename_i c
            have o : v = .int i := by simpa only [ROk, Rep] using o
            have o2 : v2 = .int j := by simpa only [ROk, Rep] using o2
            subst o; subst o2
            exact ⟨i, j, rfl, c, t2 H2 O2 (Post.refl p2.ok) (fun i hi => by simp at hi) _ walk_rng⟩
          · exact t2.elim
        | _ => exact t2.elim
    | _ => exact t2.elim
theorem si_enum {a : Ex} (ha : SE fx io cf a) : SI fx io cf (.enum a) := by
  intro X k W tg e h ok
  obtain ⟨elts, kk, tp, p, x, q, rfl, rfl, h1, h2⟩ := chkI_enum h
  refine ⟨(pi_enum (ok.glX h1).1 (ok.blt _ (by decide)) (pa_cons (ha X k W x h2 ok) pa_nil (star_eq (no_star h2))) (star_eq (no_star h2))).imp fun σ H R ⟨P, O, env, E, t⟩ => ?_, fold_call⟩
  unfold evI at t
  refine ⟨P, O, env, E, t.bind.imp fun r env1 H1 O1 p1 ⟨_, t1⟩ v o => ?_⟩
  have ar := ROk.arg E p1 o
  show ∃ a xs, _
  cases hd : deref env1 r.arg with
  | none => simp only [hd] at t1; exact t1.elim
  | some d =>
    cases hs : seq? d with
    | none => simp only [hd, hs] at t1; exact t1.elim
    | some l =>
      simp only [hd, hs] at t1
      split at t1
      · rename_i hb
        have wk := t1 H1 O1 (Post.refl p1.ok) fun i hi => lockable_ow hi
        obtain ⟨p, rfl, hk, st⟩ := AOk.stay p1.ok ar hd hs (lks := lockable env1 [r.arg]) fun j e => lockable_lk (by rw [e]; exact List.mem_cons_self)
        obtain ⟨vs, sv⟩ := id st
        have s0 := (sv H1 _ (Same.refl _) Eff.refl).1
        rw [hb] at st s0
        exact ⟨p, vs, rfl, s0, wk _ (walk_enum st)⟩
      · exact t1.elim
theorem si_zip {a b : Ex} (ha : SE fx io cf a) (hb : SE fx io cf b) : SI fx io cf (.zip a b) := by
  intro X k W tg e h ok
  obtain ⟨elts, kk, tp, p, x, z, q, rfl, rfl, h1, h2, h3⟩ := chkI_zip h
  refine ⟨(RZ.pi_zipA (ok.glX h1).1 (ok.blt _ (by decide)) (pa_cons (ha X k W x h2 ok) (pa_cons (hb X k W z h3 ok) pa_nil (star_eq (no_star h3))) (star_eq (no_star h2))) (star_eq (no_star h2)) (by rw [star_eq (no_star h3)]; rfl)).imp fun σ H R ⟨P, O, env, E, t⟩ => ?_, fold_call⟩
  unfold evI at t
  refine ⟨P, O, env, E, t.bind.imp fun r env1 H1 O1 p1 ⟨_, t1⟩ v o => ?_⟩
  refine ⟨P, O1, env1, p1.ok, t1.bind.imp fun r2 env2 H2 O2 p2 ⟨_, t2⟩ v2 o2 => ?_⟩
  have a1 := AOk.keep p1.ok p2 (ROk.arg E p1 o)
  have a2 := ROk.arg p1.ok p2 o2
  show ∃ a b xs ys, _
  cases hd : deref env2 r.arg with
  | none => simp only [hd] at t2; exact t2.elim
  | some d =>
    cases he : deref env2 r2.arg with
    | none => simp only [hd, he] at t2; exact t2.elim
    | some e =>
      cases hs : seq? d with
      | none => simp only [hd, he, hs] at t2; exact t2.elim
      | some l =>
        cases hs2 : seq? e with
        | none => simp only [hd, he, hs, hs2] at t2; exact t2.elim
        | some m =>
          simp only [hd, he, hs, hs2] at t2
          split at t2
          · rename_i hc
            have wk := t2 H2 O2 (Post.refl p2.ok) fun i hi => lockable_ow hi
            obtain ⟨p, rfl, hk, st⟩ := AOk.stay p2.ok a1 hd hs (lks := lockable env2 [r.arg, r2.arg]) fun j e => lockable_lk (by rw [e]; exact List.mem_cons_self)
            obtain ⟨p', rfl, hk', st'⟩ := AOk.stay p2.ok a2 he hs2 (lks := lockable env2 [r.arg, r2.arg]) fun j e => lockable_lk (by rw [e]; exact List.mem_cons_of_mem _ List.mem_cons_self)
            obtain ⟨vs, sv⟩ := id st
            obtain ⟨ws, sw⟩ := id st'
            have s0 := (sv H2 _ (Same.refl _) Eff.refl).1
            have s1 := (sw H2 _ (Same.refl _) Eff.refl).1
            refine ⟨p, p', vs, ws, rfl, ?_⟩
            rw [Bool.or_eq_true, Bool.and_eq_true, Bool.and_eq_true] at hc
            have noLT : ∀ {d : D}, isTu d = true → isL d = false := fun {d} h => by cases d <;> first | rfl | cases h
            rcases hc with hc | hc
            · rw [hc.1] at st s0
              rw [hc.2] at st' s1
              exact .inl ⟨s0, s1, wk _ (walk_zip st st')⟩
            · rw [noLT hc.1] at st s0
              rw [noLT hc.2] at st' s1
              exact .inr ⟨s0, s1, wk _ (walk_zipT st st')⟩
          · exact t2.elim
end
end MP
end
section
set_option Elab.async false
set_option linter.all false
set_option maxRecDepth 100000
set_option maxHeartbeats 1000000
/-! MPU: comprehensions. -/
namespace MP
open PySem PySem.Spec PyProof.Rows L2

def W0 : WX := fun _ _ _ _ => False
section
variable {X : Cx} {k : Kx} {W : WX} {fx : List Nat} {io : Str → List Bool} {cf : Str → List D → RC}
theorem DefOk.to {X' : Cx} {b : List Bool} {x : Str} {g : List D → RC} (h : DefOk X b x g) (e1 : X'.mg = X.mg) (e2 : X'.K = X.K) (e3 : X'.A = X.A) (e4 : X'.prog = X.prog) (e5 : X'.w = X.w) (e6 : X'.base = X.base) : DefOk X' b x g := by
  obtain ⟨h⟩ := h
  refine ⟨?_⟩
  rw [e1, e2, e3, e4, e5, e6]
  exact h
theorem Okc.blk (ok : Okc X k W io cf) {scope : Scope} (hs : scope.kind = .function) (s : Shared) (H : Hp) (C : Addr) (cl : List (Str × Addr)) (fp : List Addr) : Okc (X.blk s H scope (compEnvC scope cl C X.env) fp) (k.blk scope) W0 io cf := by
  refine ⟨?_, rfl, ok.N, ok.nd, ok.calm, ok.room, ok.blt, fun x hx => (ok.dfs x hx).to rfl rfl rfl rfl rfl rfl, hs, fun σ => L2.passAt L2.takes0 σ, fun _ _ _ => trivial⟩
  show relS scope X.env.scope = relS scope k.sc
  rw [ok.sc]
end
section
variable (K : PySem.W.Frag) (mg : Str → Option Value) (fx : List Nat) (io : Str → List Bool) (cf : Str → List D → RC) (W : WX)
def tCs (cs : Oe) : TT := fun σ H Q => ∃ P O env, EnvOk K mg P O H σ env ∧ TRes K mg (fun c d H' => W c d σ H') P O H σ env (evC fx io cf cs env) (fun b env' H' O' => Q b H')
def SC (cs : Oe) : Prop := ∀ (X : Cx) (k : Kx) (W : WX) (ifs : List Expr), chkC cs k ifs = true → Okc X k W io cf → PTs X ifs (tCs X.K X.mg fx io cf W cs)
end
theorem _root_.L2.PTs.imp {X : Cx} {e : List Expr} {t t' : TT} (h : PTs X e t) (i : ∀ σ H Q, t' σ H Q → t σ H Q) : PTs X e t' := ⟨fun pins s σ H Q I q => h.run pins s σ H Q I (i σ H Q q)⟩
section
variable {X : Cx} {k : Kx} {fx : List Nat} {io : Str → List Bool} {cf : Str → List D → RC}
theorem sc_no : SC fx io cf .no := by
  intro X k W ifs h ok
  cases ifs with
  | cons a r => exact Bool.noConfusion (show false = true from h)
  | nil =>
    refine pts_nil.imp fun σ H Q ⟨P, O, env, E, t⟩ => ?_
    unfold evC at t
    exact t H O (Post.refl E)
theorem sc_yes {c : Ex} (hc : ST fx io cf c) : SC fx io cf (.yes c) := by
  intro X k W ifs h ok
  match ifs, h with
  | [x], h =>
    have h : chkE c k x = true := h
    refine (pts_one (hc X k W x h ok)).imp fun σ H Q ⟨P, O, env, E, t⟩ => ⟨P, O, env, E, ?_⟩
    unfold evC at t
    exact t
end

/-! ### a block's own slots -/
theorem wipeE_len : ∀ {l : List Nat} {env : Env}, (wipeE env l).length = env.length
  | [], _ => rfl
  | i :: r, env => by rw [wipeE, List.length_set, wipeE_len]
theorem wipeE_out {env : Env} {i : Nat} : ∀ {l : List Nat}, i ∉ l → (wipeE env l)[i]? = env[i]?
  | [], _ => rfl
  | v :: vs, h => by
    have h1 : v ≠ i := fun e => h (by rw [e]; exact List.mem_cons_self)
    have h2 : i ∉ vs := fun m => h (List.mem_cons_of_mem _ m)
    unfold wipeE
    rw [List.getElem?_set_ne h1]
    exact wipeE_out h2
theorem wipeE_in {env : Env} {i : Nat} {s : Slot} : ∀ {l : List Nat}, i ∈ l → (wipeE env l)[i]? = some s → s = .un
  | [], h, _ => by cases h
  | v :: vs, h, e => by
    unfold wipeE at e
    rcases set_get e with ⟨_, z⟩ | ⟨n, z⟩
    · exact z
    · rcases List.mem_cons.mp h with h | h
      · exact absurd h.symm n
      · exact wipeE_in h z
theorem wipeE_get {env : Env} {i : Nat} {s : Slot} {l : List Nat} (e : (wipeE env l)[i]? = some s) : s = .un ∨ (i ∉ l ∧ env[i]? = some s) := by
  by_cases h : i ∈ l
  · exact .inl (wipeE_in h e)
  · rw [wipeE_out h] at e; exact .inr ⟨h, e⟩
theorem backE_len {old : Env} : ∀ {l : List Nat} {env : Env}, (backE env old l).length = env.length
  | [], _ => rfl
  | i :: r, env => by
    unfold backE
    split
    · rw [List.length_set, backE_len]
    · exact backE_len
theorem backE_out {env old : Env} {i : Nat} : ∀ {l : List Nat}, i ∉ l → (backE env old l)[i]? = env[i]?
  | [], _ => rfl
  | v :: vs, h => by
    have h1 : v ≠ i := fun e => h (by rw [e]; exact List.mem_cons_self)
    have h2 : i ∉ vs := fun m => h (List.mem_cons_of_mem _ m)
    unfold backE
    split
    · rw [List.getElem?_set_ne h1]
      exact backE_out h2
    · exact backE_out h2
theorem backE_in {env old : Env} (hl : env.length = old.length) {i : Nat} : ∀ {l : List Nat}, i ∈ l → (backE env old l)[i]? = old[i]?
  | [], h => by cases h
  | v :: vs, h => by
    unfold backE
    by_cases e : v = i
    · subst e
      cases q : old[v]? with
      | none =>
        rw [List.getElem?_eq_none_iff] at q ⊢
        rw [backE_len]; omega
      | some s =>
        have : v < old.length := (List.getElem?_eq_some_iff.mp q).1
        exact List.getElem?_set_self (by rw [backE_len]; omega)
    · have m : i ∈ vs := by
        rcases List.mem_cons.mp h with h | h
        · exact absurd h.symm e
        · exact h
      split
      · rw [List.getElem?_set_ne e]; exact backE_in hl m
      · exact backE_in hl m
section
variable {K : PySem.W.Frag} {mg : Str → Option Value} {P : Addr → Prop} {O O' : Nat → Option Addr} {H H' : Hp} {σ σ' : L2.St} {env env' : Env}
/-- forgotten slots that hold no own objects -/
theorem EnvOk.wipe (E : EnvOk K mg P O H σ env) {l : List Nat} (h : ∀ i ∈ l, O i = none) (hσ : σ'.length = σ.length) (hs : ∀ i, i ∉ l → σ'[i]? = σ[i]?) : EnvOk K mg P O H σ' (wipeE env l) := by
  refine ⟨by rw [hσ, wipeE_len]; exact E.len, fun i s e => ?_, fun i e => E.out i ?_, E.inj, E.apart, E.tr⟩
  · by_cases m : i ∈ l
    · rw [wipeE_in m e]; exact h i m
    · rw [wipeE_out m] at e
      rw [hs i m]
      exact E.sl i s e
  · rw [List.getElem?_eq_none_iff] at e ⊢
    rw [wipeE_len] at e; exact e
/-- a private object of nobody's is changed -/
theorem EnvOk.updP (E : EnvOk K mg P O H σ env) {D : Addr} {ho : HO} (hD : P D) (m : MutO ho) : EnvOk K mg P O (upd H D ho) σ env := by
  have k : Same (msk (Priv P O) H) (msk (Priv P O) (upd H D ho)) := by rw [msk_upd (.inl hD)]; exact Same.refl _
  refine ⟨E.len, fun i s e => (E.sl i s e).mono k fun a h => ?_, E.out, E.inj, E.apart, fun a h => ?_⟩
  · rw [upd_ne]
    rintro rfl
    exact E.apart i a h hD
  · by_cases e : a = D
    · subst e; exact ⟨ho, upd_same, m⟩
    · obtain ⟨o, e1, e2⟩ := E.tr a h
      exact ⟨o, by rw [upd_ne e]; exact e1, e2⟩
/-- at a turn of a comprehension: D the new list, acc its items -/
structure TurnOk (K : PySem.W.Frag) (mg : Str → Option Value) (own : List Nat) (P : Addr → Prop) (D : Addr) (O1 : Nat → Option Addr) (H1 : Hp) (envL : Env) (σw : L2.St) (acc : List MP.D) (env : Env) (H : Hp) (O : Nat → Option Addr) : Prop where
  post : Post K mg (plus P D) O1 H1 σw envL H (wipeE env own) O
  at_D : ∃ vs, H D = some (.lst vs) ∧ Reps K mg (msk (Priv (plus P D) O) H) acc vs
  none : ∀ i ∈ own, O i = none
theorem notU {D : Addr} (E : EnvOk K mg (plus P D) O H σ env) : ¬ U env O D := fun z => U.notP E z (.inr rfl)
end
section
variable {X : Cx} {k : Kx} {fx : List Nat} {io : Str → List Bool} {cf : Str → List D → RC}
/-- a comprehension's reading -/
theorem comp_lc {K : PySem.W.Frag} {mg : Str → Option Value} {W : WX} {e : Ex} {t : Tg} {it : MP.It} {cs : Oe} {own : List Nat} {σ : L2.St} {H : Hp} {Q : VK} (h : tE K mg fx io cf W (.comp e t it cs own) σ H Q) :
    tLc (tIt K mg fx io cf W it) (tTg K mg fx io cf W0 t) (tCs K mg fx io cf W0 cs) (tE K mg fx io cf W0 e) own σ H Q := by
  obtain ⟨P, O, env, E, h⟩ := h
  unfold ev at h
  refine ⟨P, O, env, E, h.bind.imp fun z env1 H1 O1 p1 ⟨_, h1⟩ hlk J wk => ?_⟩
  obtain ⟨items, lks⟩ := z
  simp only at h1 wk hlk
  intro D hD
  by_cases hc : (patT own t && own.all (fun i => (env1[i]?).any plain)) = true
  · simp only [hc, if_true] at h1
    rw [Bool.and_eq_true] at hc
    obtain ⟨hpat, hall⟩ := hc
    have own_none : ∀ i ∈ own, O1 i = none ∧ ∃ s, env1[i]? = some s ∧ plain s = true := fun i hi => by
      rw [List.all_eq_true] at hall
      have a := hall i hi
      cases q : env1[i]? with
      | none => rw [q] at a; cases a
      | some s =>
        rw [q] at a
        have z := p1.ok.sl i s q
        cases s with
        | un => exact ⟨z, _, rfl, rfl⟩
        | sh d => exact ⟨z.1, _, rfl, rfl⟩
        | ow d => cases a
        | lk d => cases a
    have hσw : (L2.wipe σ own).length = σ.length := wipe_length σ own
    have EL : EnvOk K mg P O1 H1 σ (lock env1 lks) := p1.ok.lock lks
    -- the block's start
    have kD : Same H1 (upd H1 D (.lst [])) := fun b o e => by
      rw [upd_ne]
      · exact e
      · rintro rfl; rw [hD] at e; cases e
    have ED : EnvOk K mg (plus P D) O1 (upd H1 D (.lst [])) σ (lock env1 lks) := EL.fresh kD hD upd_same trivial
    have T0 : TurnOk K mg own P D O1 H1 (lock env1 lks) (L2.wipe σ own) [] (lock env1 lks) (upd H1 D (.lst [])) O1 := by
      refine ⟨⟨fun i a z => z, Eff.same kD, fun a ⟨i, d, e1, e2⟩ => ?_, fun a o z => ⟨o, kD a o z⟩, fun i d e => ?_, ED.wipe (fun i hi => (own_none i hi).1) hσw fun i hi => wipe_out hi⟩, ⟨[], upd_same, Reps.nil⟩, fun i hi => (own_none i hi).1⟩
      · rcases wipeE_get e1 with z | ⟨_, z⟩
        · cases z
        · exact ⟨i, d, z, e2⟩
      · rcases wipeE_get e with z | ⟨_, z⟩
        · cases z
        · exact ⟨d, z⟩
    generalize hf : (fun x env1 => (asg fx io cf t (.val x) (wipeE env1 own)).bind fun env2 => (evC fx io cf cs env2).bind fun q => if q.1 then (ev fx io cf e q.2).bind opt1 else .ok (Option.none, q.2)) = f at h1
    cases hg : compGo f items (lock env1 lks) [] with
    | bad => rw [hg] at h1; exact h1.elim
    | exc z => rw [hg] at h1; exact h1.elim
    | ok y =>
      rw [hg] at h1
      simp only at h1
      obtain ⟨res, envE⟩ := y
      simp only at h1
      -- the invariant
      refine ⟨fun i m H2 => m = items.length - i ∧ ∃ acc env2 O2, TurnOk K mg own P D O1 H1 (lock env1 lks) (L2.wipe σ own) acc env2 H2 O2 ∧ compGo f (items.drop i) env2 acc = .ok (res, envE), ⟨_, rfl, [], lock env1 lks, O1, T0, by simpa using hg⟩, ?_⟩
      rintro i m H2 ⟨rfl, acc, env2, O2, T, go⟩
      have hS : ∀ a, Priv (plus P D) O2 a → ∃ o, H2 a = some o := fun a z => let ⟨o, e, _⟩ := T.post.ok.priv a z; ⟨o, e⟩
      have keep : Same (msk (Priv P O1) H1) (msk (Priv (plus P D) O2) H2) := fun a o z => by
        obtain ⟨n, e⟩ := msk_some.mp z
        refine msk_some.mpr ⟨fun z => ?_, T.post.eff a o e fun u => n u.priv⟩
        rcases z with (z | z) | ⟨j, z⟩
        · exact n (.inl z)
        · subst z; rw [hD] at e; cases e
        · exact n (.inr ⟨j, T.post.sub j a z⟩)
      obtain ⟨stop, step⟩ := wk.step H2 (Priv (plus P D) O2) keep T.post.eff hS i
      by_cases hi : i < items.length
      · right
        obtain ⟨g1, g2⟩ := step hi
        refine ⟨g1, fun H3 => ∃ acc env3 O3, TurnOk K mg own P D O1 H1 (lock env1 lks) (L2.wipe σ own) acc env3 H3 O3 ∧ compGo f (items.drop (i + 1)) env3 acc = .ok (res, envE), fun H3 q => ⟨items.length - (i + 1), by omega, rfl, q⟩, fun x H3 yl => ?_⟩
        obtain ⟨kx, d, hd, rd⟩ := g2 x H3 yl
        have hdrop : items.drop i = d :: items.drop (i + 1) := by
          rw [List.drop_eq_getElem_cons hi]
          rw [List.getElem?_eq_getElem hi] at hd
          cases hd; rfl
        rw [hdrop] at go
        have p3 := Post.same T.post.ok kx
        have T3 := T.post.trans p3
        have at3 : ∃ vs, H3 D = some (.lst vs) ∧ Reps K mg (msk (Priv (plus P D) O2) H3) acc vs := by
          obtain ⟨vs, z1, z2⟩ := T.at_D
          exact ⟨vs, kx _ _ z1, z2.mono (keep_msk T.post.ok p3.sub p3.eff)⟩
        unfold compGo at go
        cases hfx : f d env2 with
        | bad => rw [hfx] at go; cases go
        | exc z => rw [hfx] at go; cases go
        | ok z =>
          rw [hfx] at go
          rw [← hf] at hfx
          simp only at hfx
          cases ha : asg fx io cf t (.val d) (wipeE env2 own) with
          | bad => rw [ha] at hfx; cases hfx
          | exc z => rw [ha] at hfx; cases hfx
          | ok env3 =>
            rw [ha] at hfx
            refine ⟨plus P D, O2, wipeE env2 own, .val d, p3.ok, rd, ?_⟩
            rw [ha]
            intro H4 σ4 O4 p4 fr
            have p4 : PostS K mg fx (FrOf (.val d) x) (plus P D) O2 H3 (wipeE env2 own) H4 σ4 env3 O4 := p4
            obtain ⟨eH, fr1, fr2, fr3⟩ := fr own hpat ⟨d, rfl⟩
            subst eH
            have hw : L2.wipe σ4 own = L2.wipe σ own := by
              refine List.ext_getElem? fun j => ?_
              by_cases hj : j ∈ own
              · have : ∀ {τ : L2.St}, τ.length = σ.length → (L2.wipe τ own)[j]? = if j < σ.length then some Option.none else Option.none := fun {τ} ht => by
                  split
                  · rename_i hjl
                    cases q : (L2.wipe τ own)[j]? with
                    | none => rw [List.getElem?_eq_none_iff, wipe_length] at q; omega
                    | some o =>
                      cases o with
                      | none => rfl
                      | some v => exact absurd hj (wipe_some q).2
                  · rw [List.getElem?_eq_none_iff, wipe_length]; omega
                rw [this (fr1.trans hσw), this rfl]
              · rw [wipe_out hj, wipe_out hj, fr2 j hj, wipe_out hj]
            refine ⟨by rw [hw], ?_⟩
            -- the store as an expression's end, in the new state
            have q4 : Post K mg (plus P D) O1 H1 σ4 (lock env1 lks) H4 env3 O4 := by
              refine ⟨fun j a z => T.post.sub j a (fr3 j a z), T3.eff.trans p4.eff fun a z => .inl (T3.um a z), fun a z => ?_, fun a o z => let ⟨o1, h1⟩ := T3.dom a o z; p4.dom a o1 h1, fun j d' z => ?_, p4.ok⟩
              · rcases p4.um a z with z | ⟨_, d', z⟩
                · exact T3.um a z
                · cases z
              · obtain ⟨_, d1, e1⟩ := p4.lk j d' z
                exact T3.lk j d1 e1
            have hnone4 : ∀ i ∈ own, O4 i = none := fun i hi => by
              cases q : O4 i with
              | none => rfl
              | some a => have := fr3 i a q; rw [T.none i hi] at this; cases this
            have at4 : ∃ vs, H4 D = some (.lst vs) ∧ Reps K mg (msk (Priv (plus P D) O4) H4) acc vs := by
              obtain ⟨vs, z1, z2⟩ := at3
              refine ⟨vs, z1, z2.mono (msk_mono (fun a z => .inl ?_) fun a o _ e => e)⟩
              rcases z with z | ⟨j, z⟩
              · exact .inl z
              · exact .inr ⟨j, fr3 j a z⟩
            have hfx : (evC fx io cf cs env3).bind (fun q => if q.1 then (ev fx io cf e q.2).bind opt1 else .ok (Option.none, q.2)) = .ok z := hfx
            cases hcs : evC fx io cf cs env3 with
            | bad => rw [hcs] at hfx; cases hfx
            | exc z => rw [hcs] at hfx; cases hfx
            | ok q =>
              rw [hcs] at hfx
              refine ⟨plus P D, O4, env3, q4.ok, ?_⟩
              rw [hcs]
              intro H5 O5 p5
              have q5 := q4.trans p5
              have at5 : ∃ vs, H5 D = some (.lst vs) ∧ Reps K mg (msk (Priv (plus P D) O5) H5) acc vs := by
                obtain ⟨vs, z1, z2⟩ := at4
                exact ⟨vs, p5.eff D _ z1 (notU q4.ok), z2.mono (keep_msk q4.ok p5.sub p5.eff)⟩
              have fin : ∀ {env6 : Env} {H6 : Hp} {O6 : Nat → Option Addr} {acc' : List MP.D}, Post K mg (plus P D) O1 H1 σ4 (lock env1 lks) H6 env6 O6 → (∀ i a, O6 i = some a → O4 i = some a) → (∃ vs, H6 D = some (.lst vs) ∧ Reps K mg (msk (Priv (plus P D) O6) H6) acc' vs) → TurnOk K mg own P D O1 H1 (lock env1 lks) (L2.wipe σ own) acc' env6 H6 O6 := fun {env6 H6 O6 acc'} p sub a => by
                have nn : ∀ i ∈ own, O6 i = none := fun i hi => by
                  cases q : O6 i with
                  | none => rfl
                  | some a => have := sub i a q; rw [hnone4 i hi] at this; cases this
                refine ⟨⟨p.sub, p.eff, fun a ⟨j, d', e1, e2⟩ => ?_, p.dom, fun j d' e1 => ?_, p.ok.wipe nn (by rw [fr1]) fun j hj => by rw [fr2 j hj]⟩, a, nn⟩
                · rcases wipeE_get e1 with z | ⟨_, z⟩
                  · cases z
                  · exact p.um a ⟨j, d', z, e2⟩
                · rcases wipeE_get e1 with z | ⟨_, z⟩
                  · cases z
                  · exact p.lk j d' z
              cases hb : q.1 with
              | false =>
                have hfx : (if q.1 then (ev fx io cf e q.2).bind opt1 else .ok (Option.none, q.2)) = .ok z := hfx
                rw [hb] at hfx
                simp only [Bool.false_eq_true, if_false] at hfx ⊢
                cases hfx
                exact ⟨acc, q.2, O5, fin q5 p5.sub at5, go⟩
              | true =>
                have hfx : (if q.1 then (ev fx io cf e q.2).bind opt1 else .ok (Option.none, q.2)) = .ok z := hfx
                rw [hb] at hfx
                simp only [if_true] at hfx ⊢
                cases he : ev fx io cf e q.2 with
                | bad => rw [he] at hfx; cases hfx
                | exc z => rw [he] at hfx; cases hfx
                | ok r =>
                  rw [he] at hfx
                  refine ⟨plus P D, O5, q.2, p5.ok, ?_⟩
                  rw [he]
                  intro H6 O6 p6 v ro
                  have hfx : opt1 r = .ok z := hfx
                  unfold opt1 at hfx
                  cases hd2 : deref r.2 r.1.arg with
                  | none => rw [hd2] at hfx; cases hfx
                  | some d2 =>
                    rw [hd2] at hfx
                    cases hfx
                    have p6 : Post K mg (plus P D) O5 H5 σ4 q.2 H6 r.2 O6 := p6
                    obtain ⟨O7, p7, r7⟩ := p6.ok.frz1 (ROk.arg p5.ok p6 ro)
                    obtain ⟨vs, z1, z2⟩ := at5
                    have z1 : H6 D = some (.lst vs) := p6.eff D _ z1 (notU p5.ok)
                    have z2 := (z2.mono (keep_msk p5.ok p6.sub p6.eff)).mono (keep_msk p6.ok p7.sub p7.eff)
                    have q7 := (q5.trans p6).trans p7
                    have go : (if acc.length < sizeLine then compGo f (items.drop (i + 1)) (frz1 r.2 r.1.arg) (acc ++ [d2]) else .bad) = .ok (res, envE) := go
                    split at go
                    · rename_i hsz
                      refine ⟨vs, z1, by rw [← z2.length]; exact hsz, acc ++ [d2], frz1 r.2 r.1.arg, O7, fin ?_ (fun i a z => p5.sub i a (p6.sub i a (p7.sub i a z))) ?_, go⟩
                      · refine ⟨q7.sub, fun a o e n => ?_, q7.um, fun a o e => ?_, q7.lk, q7.ok.updP (.inr rfl) trivial⟩
                        · rw [upd_ne]
                          · exact q7.eff a o e n
                          · rintro rfl; rw [hD] at e; cases e
                        · by_cases ea : a = D
                          · subst ea; exact ⟨_, upd_same⟩
                          · rw [upd_ne ea]; exact q7.dom a o e
                      · refine ⟨vs ++ [v], upd_same, ?_⟩
                        rw [msk_upd (.inl (.inr rfl))]
                        exact z2.append (Reps.cons (r7 d2 hd2) Reps.nil)
                    · cases go
      · left
        refine ⟨stop (by omega), ?_⟩
        have : items.drop i = [] := List.drop_eq_nil_of_le (by omega)
        rw [this] at go
        unfold compGo at go
        cases go
        -- back in the frame
        obtain ⟨vs, z1, z2⟩ := T.at_D
        have hlen : envE.length = env1.length := by
          have a1 := T.post.ok.len
          rw [wipeE_len, hσw] at a1
          rw [← a1]; exact p1.ok.len
        have EB : ∀ {P' : Addr → Prop}, (∀ a, P' a → plus P D a) → (∀ a, P a → P' a) → EnvOk K mg P' O2 H2 σ (backE envE env1 own) := fun {P'} hP hP2 => by
          have E2 := T.post.ok.less hP
          refine ⟨by rw [backE_len, hlen]; exact p1.ok.len, fun j s e => ?_, fun j e => ?_, E2.inj, E2.apart, E2.tr⟩
          · by_cases hj : j ∈ own
            · rw [backE_in hlen hj] at e
              obtain ⟨n1, s', e', pl⟩ := own_none j hj
              rw [e] at e'; cases e'
              rw [T.none j hj]
              have z := p1.ok.sl j s e
              cases s with
              | un => rfl
              | sh d =>
                obtain ⟨_, v, y1, y2⟩ := z
                refine ⟨rfl, v, y1, y2.mono fun a o z => ?_⟩
                obtain ⟨n, e⟩ := msk_some.mp (keep a o z)
                refine msk_some.mpr ⟨fun z => n ?_, e⟩
                rcases z with z | z
                · exact .inl (hP a z)
                · exact .inr z
              | ow d => cases pl
              | lk d => cases pl
            · rw [backE_out hj] at e
              have := E2.sl j s (by rw [wipeE_out hj]; exact e)
              rw [wipe_out hj] at this
              exact this
          · refine E2.out j ?_
            rw [List.getElem?_eq_none_iff] at e ⊢
            rw [backE_len] at e
            rw [wipeE_len]; exact e
        have pB : Post K mg P O1 H1 σ (lock env1 lks) H2 (backE envE env1 own) O2 := by
          refine ⟨T.post.sub, T.post.eff, fun a ⟨j, d', e1, e2⟩ => ?_, T.post.dom, fun j d' e1 => ?_, EB (fun a z => .inl z) fun a z => z⟩
          · by_cases hj : j ∈ own
            · rw [T.none j hj] at e2; cases e2
            · rw [backE_out hj] at e1
              exact T.post.um a ⟨j, d', by rw [wipeE_out hj]; exact e1, e2⟩
          · by_cases hj : j ∈ own
            · rw [backE_in hlen hj] at e1
              obtain ⟨n1, s', e', pl⟩ := own_none j hj
              rw [e1] at e'; cases e'; cases pl
            · rw [backE_out hj] at e1
              exact T.post.lk j d' (by rw [wipeE_out hj]; exact e1)
        have pU : Post K mg P O1 H1 σ env1 H2 (unlock (backE envE env1 own) lks) O2 := by
          refine ⟨pB.sub, pB.eff.mono fun a => U.lock, fun a ⟨j, d', e1, e2⟩ => ?_, pB.dom, fun j d' e1 => ?_, pB.ok.unlock lks⟩
          · rcases unlock_ow e1 with e1 | ⟨m, e1⟩
            · exact U.lock (pB.um a ⟨j, d', e1, e2⟩)
            · obtain ⟨d2, y⟩ := hlk j m
              exact ⟨j, d2, y, pB.sub j a e2⟩
          · obtain ⟨e1, m⟩ := unlock_lk e1
            obtain ⟨d2, y⟩ := pB.lk j d' e1
            rcases lock_lk y with y | ⟨m', _⟩
            · exact ⟨d2, y⟩
            · exact absurd m' m
        refine h1 H2 O2 pU (.ref D) ?_
        refine ⟨D, rfl, ?_, (EB (fun a z => z) fun a z => .inl z).unlock lks, vs, z1, z2⟩
        cases q : H D with
        | none => rfl
        | some o =>
          obtain ⟨o', e'⟩ := p1.dom D o q
          rw [hD] at e'; cases e'
  · simp only [hc] at h1
    exact h1.elim
theorem se_comp {e : Ex} {t : Tg} {it : MP.It} {cs : Oe} {own : List Nat} (he : SE fx io cf e) (ht : STg fx io cf t) (hi : SI fx io cf it) (hc : SC fx io cf cs) : SE fx io cf (.comp e t it cs own) := by
  intro X k W ex h ok
  obtain ⟨elt, tg, iter, ifs, scope, p, rfl, h1, h2, h3, h4, h5⟩ := chkE_comp h
  have bk := blkOk_by h1
  rw [← ok.N, ← ok.sc] at bk
  obtain ⟨pi, hs⟩ := hi X k W tg iter h2 ok
  have := pe_lc (g := tTg X.K X.mg fx io cf W0 t) (tt := tCs X.K X.mg fx io cf W0 cs) (te := tE X.K X.mg fx io cf W0 e) (pos := p) ok.calm (ok.N ▸ ok.nd) pi bk (fun s H C cl fp => ht _ _ W0 tg h3 (ok.blk bk.kind s H C cl fp)) (fun s H C cl fp => hc _ _ W0 ifs h4 (ok.blk bk.kind s H C cl fp)) (fun s H C cl fp => he _ _ W0 elt h5 (ok.blk bk.kind s H C cl fp)) hs
  rw [Kx.own_map] at this
  exact this.imp fun σ H Q t => comp_lc t
end
end MP
end
section
set_option Elab.async false
set_option linter.all false
set_option maxRecDepth 100000
set_option maxHeartbeats 1000000
/-! MPV: statements. -/
namespace MP
open PySem PySem.Spec PyProof.Rows L2

theorem swp_ok {k : Kx} {env : PySem.Env} {ts : List Expr} {v : Expr} {r : Option (List Str)} (hk : env.scope.kind = .function) (hsc : env.scope = k.sc) (h : swp k ts v = some r) : swappedStores ts v env = pure r := by
  have hb : env.blockKind = .function := by unfold Env.blockKind; rw [hk]; rfl
  have hki : ∀ id, env.kindOf id = k.kind id := fun id => by unfold Env.kindOf Kx.kind; rw [hsc]
  unfold swp at h
  unfold swappedStores
  split at h
  · rename_i a1 a2 a3 b1 b2 b3
    simp only [hb, hki]
    split at h
    · rename_i c
      cases h
      rw [if_pos (by rw [Bool.or_eq_true]; exact .inl c)]
    · rename_i c
      rw [if_neg (by rw [Bool.or_eq_true]; rintro (z | z); exact c z; cases z)]
      split at h
      · rename_i c2
        cases h
        exact if_pos c2
      · rename_i c2
        refine (if_neg c2).trans ?_
        simp only at h
        split at h
        · rename_i c3
          cases h
          exact if_pos c3
        · rename_i c3
          refine (if_neg c3).trans ?_
          split at h
          · rename_i c4
            cases h
            exact if_pos c4
          · rename_i c4
            refine (if_neg c4).trans ?_
            split at h
            · cases h
            · rename_i c5
              refine (if_neg c5).trans ?_
              cases h
              rfl
  · cases h
  · cases h
    rename_i h1 h2
    split
    · rename_i e
      split at e
      · rename_i a b c d e1 f; exact (h2 _ _ _ _ _ _ rfl rfl).elim
      · exact (h1 _ _ rfl).elim
      · cases e
    · rfl

section
variable (K : PySem.W.Frag) (mg : Str → Option Value) (fx : List Nat) (io : Str → List Bool) (cf : Str → List D → RC) (wf : Nat) (W : WX)
/-- what is wanted behind each flow -/
def FlK (E : Ends) (P : Addr → Prop) (H : Hp) : Fl × Env → Hp → L2.St → (Nat → Option Addr) → Prop := fun z H' σ' O' => match z.1 with
  | .nx => E.nx σ' H'
  | .bk => E.bk σ' H'
  | .ct => E.ct σ' H'
  | .ret r => ∀ v, ROk K mg P H σ' H' z.2 O' v r → E.rt v H'
def tS (s : Sm) : TS := fun E σ H => ∃ P O env, EnvOk K mg P O H σ env ∧ TX K mg Prod.snd W fx (New H) P O H env (exec fx io cf wf s env) (FlK K mg E P H)
def tSs (s : Sms) : TS := fun E σ H => ∃ P O env, EnvOk K mg P O H σ env ∧ TX K mg Prod.snd W fx (New H) P O H env (execs fx io cf wf s env) (FlK K mg E P H)
def SS (s : Sm) : Prop := ∀ (X : Cx) (k : Kx) (W : WX) (st : Stmt), chkS s k st = true → Okc X k W io cf → PassesOwn (model X.prog X.w) X.A X.env X.xe → PS X st (tS X.K X.mg fx io cf wf W s)
def SSs (s : Sms) : Prop := ∀ (X : Cx) (k : Kx) (W : WX) (st : List Stmt), chkSs s k st = true → Okc X k W io cf → PassesOwn (model X.prog X.w) X.A X.env X.xe → PSs X st (tSs X.K X.mg fx io cf wf W s)
end
section
variable {k : Kx} {st : Stmt}
theorem chkS_asg {t : Tg} {e : Ex} (h : chkS (.asg t e) k st = true) : ∃ tg v p, st = .Assign [tg] v p ∧ (if isComp v then compAsg k tg v else decide (swp k [tg] v = some none)) = true ∧ chkT t k tg = true ∧ chkE e k v = true := by
  cases st <;> first | exact Bool.noConfusion (show false = true from h) | skip
  rename_i ts v p
  match ts, h with
  | [tg], h =>
    have h : ((if isComp v then compAsg k tg v else decide (swp k [tg] v = some none)) && (chkT t k tg && chkE e k v)) = true := h
    rw [Bool.and_eq_true, Bool.and_eq_true] at h
    exact ⟨tg, v, p, rfl, h.1, h.2.1, h.2.2⟩
theorem chkS_par {i j : Nat} {a b : Ex} (h : chkS (.par i j a b) k st = true) : ∃ x px y py kt pt u v k2 pt2 p, st = .Assign [.Tuple [.Name x px, .Name y py] kt pt] (.Tuple [u, v] k2 pt2) p ∧ k.slot i x = true ∧ k.slot j y = true ∧ k.kind x = some .local ∧ k.kind y = some .local ∧ i ≠ j ∧
    swp k [.Tuple [.Name x px, .Name y py] kt pt] (.Tuple [u, v] k2 pt2) = some (some [x, y]) ∧ chkE a k u = true ∧ chkE b k v = true := by
  cases st <;> first | exact Bool.noConfusion (show false = true from h) | skip
  rename_i ts v p
  match ts, v, h with
  | [.Tuple [.Name x px, .Name y py] kt pt], .Tuple [u, v] k2 pt2, h =>
    have h : (k.slot i x && k.slot j y && decide (k.kind x = some .local) && decide (k.kind y = some .local) && decide (i ≠ j) &&
      decide (swp k [.Tuple [.Name x px, .Name y py] kt pt] (.Tuple [u, v] k2 pt2) = some (some [x, y])) && (chkE a k u && chkE b k v)) = true := h
    simp only [Bool.and_eq_true, decide_eq_true_eq] at h
    obtain ⟨⟨⟨⟨⟨⟨h1, h2⟩, h3⟩, h4⟩, h5⟩, h6⟩, h7, h8⟩ := h
    exact ⟨x, px, y, py, kt, pt, u, v, k2, pt2, p, rfl, h1, h2, h3, h4, h5, h6, h7, h8⟩
theorem chkS_aug {i : Nat} {o : Bin} {e : Ex} (h : chkS (.aug i o e) k st = true) : ∃ x px op v p, st = .AugAssign (.Name x px) op v p ∧ k.slot i x = true ∧ k.loc x = true ∧ (o = .add ∨ o = .sub) ∧ opIs o op = true ∧ chkE e k v = true := by
  cases st <;> first | exact Bool.noConfusion (show false = true from h) | skip
  rename_i tg op v p
  cases tg <;> first | exact Bool.noConfusion (show false = true from h) | skip
  rename_i x px
  have h : (k.slot i x && k.loc x && (decide (o = .add ∨ o = .sub) && opIs o op) && chkE e k v) = true := h
  simp only [Bool.and_eq_true, decide_eq_true_eq] at h
  exact ⟨x, px, op, v, p, rfl, h.1.1.1, h.1.1.2, h.1.2.1, h.1.2.2, h.2⟩
theorem chkS_expr {e : Ex} (h : chkS (.expr e) k st = true) : ∃ v p, st = .Expr v p ∧ isComp v = false ∧ chkE e k v = true := by
  cases st <;> first | exact Bool.noConfusion (show false = true from h) | skip
  rename_i v p
  have h : (!isComp v && chkE e k v) = true := h
  simp only [Bool.and_eq_true, Bool.not_eq_true'] at h
  exact ⟨v, p, rfl, h.1, h.2⟩
theorem chkS_ret {e : Ex} (h : chkS (.ret e) k st = true) : ∃ v p, st = .Return (some v) p ∧ chkE e k v = true := by
  cases st <;> first | exact Bool.noConfusion (show false = true from h) | skip
  rename_i v p
  cases v with
  | none => exact Bool.noConfusion (show false = true from h)
  | some v => exact ⟨v, p, rfl, h⟩
theorem chkS_retN (h : chkS .retN k st = true) : ∃ p, st = .Return none p := by
  cases st <;> first | exact Bool.noConfusion (show false = true from h) | skip
  rename_i v p
  cases v with
  | none => exact ⟨p, rfl⟩
  | some v => exact Bool.noConfusion (show false = true from h)
theorem chkS_ite {c : Ex} {a b : Sms} (h : chkS (.ite c a b) k st = true) : ∃ x y z p, st = .If x y z p ∧ chkE c k x = true ∧ chkSs a k y = true ∧ chkSs b k z = true := by
  cases st <;> first | exact Bool.noConfusion (show false = true from h) | skip
  rename_i x y z p
  have h : (chkE c k x && (chkSs a k y && chkSs b k z)) = true := h
  simp only [Bool.and_eq_true] at h
  exact ⟨x, y, z, p, rfl, h.1, h.2.1, h.2.2⟩
theorem chkS_loop {t : Tg} {it : MP.It} {b : Sms} (h : chkS (.loop t it b) k st = true) : ∃ tg iter y p, st = .For tg iter y [] p ∧ chkI it k tg iter = true ∧ chkT t k tg = true ∧ chkSs b k y = true := by
  cases st <;> first | exact Bool.noConfusion (show false = true from h) | skip
  rename_i tg iter y z p
  cases z with
  | cons a r => exact Bool.noConfusion (show false = true from h)
  | nil =>
    have h : (chkI it k tg iter && (chkT t k tg && chkSs b k y)) = true := h
    simp only [Bool.and_eq_true] at h
    exact ⟨tg, iter, y, p, rfl, h.1, h.2.1, h.2.2⟩
theorem chkS_whil {c : Ex} {b : Sms} (h : chkS (.whil c b) k st = true) : ∃ x y p, st = .While x y [] p ∧ chkE c k x = true ∧ chkSs b k y = true := by
  cases st <;> first | exact Bool.noConfusion (show false = true from h) | skip
  rename_i x y z p
  cases z with
  | cons a r => exact Bool.noConfusion (show false = true from h)
  | nil =>
    have h : (chkE c k x && chkSs b k y) = true := h
    simp only [Bool.and_eq_true] at h
    exact ⟨x, y, p, rfl, h.1, h.2⟩
theorem chkS_pass (h : chkS .pass k st = true) : ∃ p, st = .Pass p := by
  cases st <;> first | exact Bool.noConfusion (show false = true from h) | exact ⟨_, rfl⟩
theorem chkS_brk (h : chkS .brk k st = true) : ∃ p, st = .Break p := by
  cases st <;> first | exact Bool.noConfusion (show false = true from h) | exact ⟨_, rfl⟩
theorem chkS_cont (h : chkS .cont k st = true) : ∃ p, st = .Continue p := by
  cases st <;> first | exact Bool.noConfusion (show false = true from h) | exact ⟨_, rfl⟩
end
theorem noSwap {v : Expr} (h : isComp v = false) (t : Option Expr) (l : Nat) (env : PySem.Env) : swapsWith v t l env = pure false := by
  cases v <;> first | rfl | exact Bool.noConfusion (show true = false from h)
section
variable {fx : List Nat} {io : Str → List Bool} {cf : Str → List D → RC} {wf : Nat}
theorem TX.map {K : PySem.W.Frag} {mg : Str → Option Value} {W : WX} {F P : Addr → Prop} {O : Nat → Option Addr} {H : Hp} {env : Env} {α β : Type} {pr : α → Env} {pb : β → Env} {g : α → β} {res : RE α} {kk : β → Hp → L2.St → (Nat → Option Addr) → Prop} (hp : ∀ a, pb (g a) = pr a) (h : TX K mg pb W fx F P O H env (res.bind fun a => .ok (g a)) kk) :
    TX K mg pr W fx F P O H env res fun a => kk (g a) := by
  cases res with
  | bad => exact h
  | exc z => exact h
  | ok z => exact fun H' σ' O' p => h H' σ' O' (by rw [hp]; exact p)
/-- target = value -/
theorem asg_tail {K : PySem.W.Frag} {mg : Str → Option Value} {W : WX} {t : Tg} {e : Ex} {D : Ends} {σ : L2.St} {H : Hp} (h : tS K mg fx io cf wf W (.asg t e) D σ H) : tAsg (tE K mg fx io cf W e) (tTg K mg fx io cf W t) D σ H := by
  obtain ⟨P, O, env, E, t1⟩ := h
  unfold exec at t1
  refine ⟨P, O, env, E, (TX.bindE E t1).imp fun r env1 H1 O1 p1 ⟨_, t2⟩ v o => ?_⟩
  refine ⟨P, O1, env1, r, p1.ok, o.rin E, ?_⟩
  have t3 := TX.map (g := fun a => (Fl.nx, a)) (pr := id) (fun _ => rfl) (t2 (FrOf r v) fun a z => o.frOf a z)
  exact t3.imp fun env2 H2 σ2 O2 _ p2 q _ => q
theorem tTg_nm {K : PySem.W.Frag} {mg : Str → Option Value} {W : WX} {i : Nat} {v : V} {σ : L2.St} {H : Hp} {Q : L2.St → Hp → Prop} (h : tTg K mg fx io cf W (.nm i) v σ H Q) : gName i v σ H Q := by
  obtain ⟨P, O, env, r, E, hr, t⟩ := h
  unfold asg at t
  show Q (σ.set i (some v)) H
  cases q : store fx env i r with
  | bad => rw [q] at t; exact t.elim
  | exc z => exact (store_not_exc q).elim
  | ok env' =>
    rw [q] at t
    by_cases hv : ∃ d, r = .val d
    · obtain ⟨d, rfl⟩ := hv
      simp only [store] at q
      split at q
      · rename_i c; cases q
        refine t H _ _ (store_val E c.1 c.2 hr) fun own hp hv => ⟨rfl, by rw [List.length_set], fun j hj => ?_, fun j a e => (drop1_some e).2⟩
        rw [List.getElem?_set_ne]
        rintro rfl
        exact hj (by simpa [patT] using hp)
      · cases q
    · obtain ⟨O', p⟩ := store_ok E hr q
      exact t H _ O' p fun own hp z => absurd z hv
theorem ss_asg {t : Tg} {e : Ex} (he : SE fx io cf e) (ht : STg fx io cf t) (hcomp : ∀ el tg it cs own, e = .comp el tg it cs own → SE fx io cf el ∧ STg fx io cf tg ∧ SI fx io cf it ∧ SC fx io cf cs) : SS fx io cf wf (.asg t e) := by
  intro X k W st h ok ho
  obtain ⟨tg, v, p, rfl, h0, h1, h2⟩ := chkS_asg h
  have hkind : X.env.scope.kind = .function := by rw [ok.sc]; exact ok.kind
  cases hc : isComp v with
  | false =>
    rw [hc] at h0
    simp only [Bool.false_eq_true, if_false, decide_eq_true_eq] at h0
    refine (ps_asg (he X k W v h2 ok) (ht X k W tg h1 ok) (noSwap hc _ _ _) (swp_ok hkind ok.sc h0) ?_).imp fun D σ H t => asg_tail t
    rw [assignEach_plain h1]; rfl
  | true =>
    rw [hc] at h0
    simp only [if_true] at h0
    -- a comprehension
    obtain ⟨x, px, rfl⟩ : ∃ x px, tg = .Name x px := by
      cases tg <;> first | exact Bool.noConfusion (show false = true from h0) | exact ⟨_, _, rfl⟩
    obtain ⟨i, rfl⟩ : ∃ i, t = .nm i := by
      cases t <;> first | exact Bool.noConfusion (show false = true from h1) | exact ⟨_, rfl⟩
    obtain ⟨y, py, e1, s1, s2⟩ := chkT_nm h1
    cases e1
    obtain ⟨l1, l2⟩ := ok.locX s2
    have nset : swapsWith v (some (.Name x px)) p.line X.env = pure false → PS X (.Assign [.Name x px] v p) (tS X.K X.mg fx io cf wf W (.asg (.nm i) e)) := fun hsw =>
      (ps_set (ok.N ▸ ok.nd) (ok.slotX s1) l1 (he X k W v h2 ok) hsw l2).imp fun D σ H t => by
        obtain ⟨P, O, env, E, q⟩ := asg_tail t
        exact ⟨P, O, env, E, q.imp fun r env1 H1 O1 p1 z v o => tTg_nm (z v o)⟩
    cases v <;> first | exact Bool.noConfusion (show false = true from hc) | skip
    · rename_i elt gs scope pos
      cases e <;> first | exact Bool.noConfusion (show false = true from h2) | skip
      rename_i el t2 it cs own
      by_cases hs : (decide (X.env.scope.names.lookup x = some .local) && px.line == pos.line && !(scope.names.any fun (n, q) => n == x && (q == .local || q == .cell))) = true
      · simp only [Bool.and_eq_true, Bool.not_eq_true', decide_eq_true_eq] at hs
        obtain ⟨⟨g1, g2⟩, g3⟩ := hs
        obtain ⟨q1, q2, q3, q4⟩ := hcomp _ _ _ _ _ rfl
        obtain ⟨elt', tg', iter, ifs, scope', p', e', b1, b2, b3, b4, b5⟩ := chkE_comp h2
        cases e'
        have bk := blkOk_by b1
        rw [← ok.N, ← ok.sc] at bk
        obtain ⟨pi, hs⟩ := q3 X k W _ _ b2 ok
        have := ps_setLc (py := px) (spos := p) (pos := pos) (g := tTg X.K X.mg fx io cf W0 t2) (tt := tCs X.K X.mg fx io cf W0 cs) (te := tE X.K X.mg fx io cf W0 el) ok.calm (ok.N ▸ ok.nd) (ok.slotX s1) g1 (sw_true hkind g1 g2 g3) pi bk (fun s H C cl fp => q2 _ _ W0 _ b3 (ok.blk bk.kind s H C cl fp)) (fun s H C cl fp => q4 _ _ W0 _ b4 (ok.blk bk.kind s H C cl fp)) (fun s H C cl fp => q1 _ _ W0 _ b5 (ok.blk bk.kind s H C cl fp)) hs
        rw [Kx.own_map] at this
        refine this.imp fun D σ H t => ?_
        obtain ⟨P, O, env, E, q⟩ := asg_tail t
        exact comp_lc ⟨P, O, env, E, q.imp fun r env1 H1 O1 p1 z v o => tTg_nm (z v o)⟩
      · refine nset ?_
        have hb : X.env.blockKind = .function := by unfold Env.blockKind; rw [hkind]; rfl
        have hki : X.env.kindOf x = X.env.scope.names.lookup x := rfl
        unfold swapsWith
        simp only [hb, hki, Expr.pos]
        congr 1
        rw [Bool.not_eq_true] at hs
        have e1 : (NameKind.local == NameKind.local) = true := rfl
        have e2 : (X.env.scope.names.lookup x == some NameKind.local) = decide (X.env.scope.names.lookup x = some .local) := by
          rw [Bool.beq_eq_decide_eq]
        rw [e2]
        simpa using hs
    · cases e <;> exact Bool.noConfusion (show false = true from h2)
    · cases e <;> exact Bool.noConfusion (show false = true from h2)
end
end MP
end
section
set_option Elab.async false
set_option linter.all false
set_option maxRecDepth 100000
set_option maxHeartbeats 1000000
/-! MPW: statements, on. -/
namespace MP
open PySem PySem.Spec PyProof.Rows L2

section
variable {fx : List Nat} {io : Str → List Bool} {cf : Str → List D → RC} {wf : Nat}
variable {K : PySem.W.Frag} {mg : Str → Option Value} {W : WX} {P : Addr → Prop} {O O1 : Nat → Option Addr} {H H1 : Hp} {σ σ1 : L2.St} {env env1 : Env}
/-- an expression, then the end -/
theorem TX.retE {Q : VK} {res : RE (R × Env)} {D : Ends} (E : EnvOk K mg P O H σ env) (h : TX K mg Prod.snd W fx (New H) P O H env (res.bind fun z => .ok (Fl.ret z.1, z.2)) (FlK K mg D P H)) (hq : Q = D.rt) :
    TRes K mg (fun c d H' => W c d σ H') P O H σ env res (fun r env' H' O' => ∀ v, ROk K mg P H σ H' env' O' v r → Q v H') := by
  subst hq
  cases res with
  | bad => exact h
  | exc z => exact fun H' O' cls od q x => h H' σ O' cls od (q.toS E) x
  | ok z => exact fun H1 O1 p v o => h H1 σ O1 (p.toS E) v o
theorem New.mono (p : PostS K mg fx (New H) P O H env H1 σ1 env1 O1) : ∀ a, New H1 a → New H a := fun x h => by
  cases q : H x with
  | none => exact q
  | some o => obtain ⟨o', e⟩ := p.dom x o q; rw [show H1 x = none from h] at e; cases e
theorem New.monoP (p : Post K mg P O H σ env H1 env1 O1) : ∀ a, New H1 a → New H a := fun x h => by
  cases q : H x with
  | none => exact q
  | some o => obtain ⟨o', e⟩ := p.dom x o q; rw [show H1 x = none from h] at e; cases e
theorem FlK.shift {D : Ends} {z : Fl × Env} {H2 : Hp} {σ2 : L2.St} {O2 : Nat → Option Addr} (hd : ∀ a o, H a = some o → ∃ o', H1 a = some o') (h : FlK K mg D P H z H2 σ2 O2) : FlK K mg D P H1 z H2 σ2 O2 := by
  obtain ⟨f, env2⟩ := z
  cases f with
  | ret r => exact fun v o => h v (o.dom hd)
  | _ => exact h
/-- on from a statement's part -/
theorem tS_of {s : Sm} {D : Ends} (E : EnvOk K mg P O1 H1 σ1 env1) (hd : ∀ a o, H a = some o → ∃ o', H1 a = some o') (t : TX K mg Prod.snd W fx (New H1) P O1 H1 env1 (exec fx io cf wf s env1) (FlK K mg D P H)) : tS K mg fx io cf wf W s D σ1 H1 :=
  ⟨P, O1, env1, E, t.imp fun z H2 σ2 O2 _ _ q => FlK.shift hd q⟩
theorem tSs_of {s : Sms} {D : Ends} (E : EnvOk K mg P O1 H1 σ1 env1) (hd : ∀ a o, H a = some o → ∃ o', H1 a = some o') (t : TX K mg Prod.snd W fx (New H1) P O1 H1 env1 (execs fx io cf wf s env1) (FlK K mg D P H)) : tSs K mg fx io cf wf W s D σ1 H1 :=
  ⟨P, O1, env1, E, t.imp fun z H2 σ2 O2 _ _ q => FlK.shift hd q⟩
end
section
variable {fx : List Nat} {io : Str → List Bool} {cf : Str → List D → RC} {wf : Nat}
theorem ss_pass : SS fx io cf wf .pass := by
  intro X k W st h ok ho
  obtain ⟨p, rfl⟩ := chkS_pass h
  refine ps_pass.imp fun D σ H ⟨P, O, env, E, t⟩ => ?_
  unfold exec at t
  exact t H σ O (PostS.refl E)
theorem ss_brk : SS fx io cf wf .brk := by
  intro X k W st h ok ho
  obtain ⟨p, rfl⟩ := chkS_brk h
  refine ps_break.imp fun D σ H ⟨P, O, env, E, t⟩ => ?_
  unfold exec at t
  exact t H σ O (PostS.refl E)
theorem ss_cont : SS fx io cf wf .cont := by
  intro X k W st h ok ho
  obtain ⟨p, rfl⟩ := chkS_cont h
  refine ps_continue.imp fun D σ H ⟨P, O, env, E, t⟩ => ?_
  unfold exec at t
  exact t H σ O (PostS.refl E)
theorem ss_retN : SS fx io cf wf .retN := by
  intro X k W st h ok ho
  obtain ⟨p, rfl⟩ := chkS_retN h
  refine ps_retN.imp fun D σ H ⟨P, O, env, E, t⟩ => ?_
  unfold exec at t
  exact t H σ O (PostS.refl E) .non (by simp only [ROk, Rep])
theorem ss_ret {e : Ex} (he : SE fx io cf e) : SS fx io cf wf (.ret e) := by
  intro X k W st h ok ho
  obtain ⟨v, p, rfl, h1⟩ := chkS_ret h
  refine (ps_ret (he X k W v h1 ok)).imp fun D σ H ⟨P, O, env, E, t⟩ => ⟨P, O, env, E, ?_⟩
  unfold exec at t
  exact TX.retE E t rfl
theorem ss_expr {e : Ex} (he : SE fx io cf e) : SS fx io cf wf (.expr e) := by
  intro X k W st h ok ho
  obtain ⟨v, p, rfl, hc, h1⟩ := chkS_expr h
  refine (ps_expr (he X k W v h1 ok) (noSwap hc _ _ _)).imp fun D σ H ⟨P, O, env, E, t⟩ => ⟨P, O, env, E, ?_⟩
  unfold exec at t
  refine (TX.bindE E t).imp fun r env1 H1 O1 p1 ⟨_, t2⟩ v o => ?_
  exact t2 (New H1) (New.monoP p1) H1 σ O1 (PostS.refl p1.ok)
theorem ss_ite {c : Ex} {a b : Sms} (hc : ST fx io cf c) (ha : SSs fx io cf wf a) (hb : SSs fx io cf wf b) : SS fx io cf wf (.ite c a b) := by
  intro X k W st h ok ho
  obtain ⟨x, y, z, p, rfl, h1, h2, h3⟩ := chkS_ite h
  refine (ps_if (hc X k W x h1 ok) (ha X k W y h2 ok ho) (hb X k W z h3 ok ho)).imp fun D σ H ⟨P, O, env, E, t⟩ => ⟨P, O, env, E, ?_⟩
  unfold exec at t
  have assoc : ∀ {β γ : Type} (r : RE (R × Env)) (f : Bool × Env → RE γ), (r.bind fun z => (testR z).bind f) = (r.bind testR).bind f := fun r f => by cases r <;> rfl
  have t : TX X.K X.mg Prod.snd W fx (New H) P O H env ((ev fx io cf c env).bind fun z => (testR z).bind fun t => if t.1 then execs fx io cf wf a t.2 else execs fx io cf wf b t.2) (FlK X.K X.mg D P H) := t
  rw [assoc (β := Unit)] at t
  refine (TX.bindE E t).imp fun b env1 H1 O1 p1 ⟨_, t2⟩ => ?_
  have t2 := t2 (New H1) (New.monoP p1)
  cases b with
  | true => exact tSs_of p1.ok p1.dom t2
  | false => exact tSs_of p1.ok p1.dom t2
theorem ss_aug {i : Nat} {o : Bin} {e : Ex} (he : SE fx io cf e) : SS fx io cf wf (.aug i o e) := by
  intro X k W st h ok ho
  obtain ⟨x, px, op, v, p, rfl, h1, h2, ho2, h3, h4⟩ := chkS_aug h
  obtain ⟨l1, l2⟩ := ok.locX h2
  have key : ∀ (f : Int → Int → Int), (∀ a b r, inplace o a b = some r → ∃ i j, a = .int i ∧ b = .int j ∧ r = .val (.int (f i j))) → PIp X op (ipI f) → PS X (.AugAssign (.Name x px) op v p) (tS X.K X.mg fx io cf wf W (.aug i o e)) := fun f hf ip => by
    refine (ps_aug (ok.N ▸ ok.nd) (ok.slotX h1) l1 (he X k W v h4 ok) ip l2).imp fun D σ H ⟨P, O, env, E, t⟩ => ?_
    unfold exec at t
    cases q : env[i]? with
    | none => simp only [q] at t; exact t.elim
    | some s =>
      simp only [q] at t
      cases s with
      | un => exact t.elim
      | ow d => exact t.elim
      | lk d => exact t.elim
      | sh d =>
        obtain ⟨_, u, e1, e2⟩ := E.sl i _ q
        refine ⟨u, e1, P, O, env, E, (TX.bindE E t).imp fun r env1 H1 O1 p1 ⟨_, t2⟩ w ro => ?_⟩
        have t2 := t2 (New H1) (New.monoP p1)
        cases hd : deref env1 r.arg with
        | none => simp only [hd] at t2; exact t2.elim
        | some y =>
          simp only [hd] at t2
          cases hi : inplace o d y with
          | none => simp only [hi] at t2; exact t2.elim
          | some r' =>
            simp only [hi] at t2
            obtain ⟨a, b, rfl, rfl, rfl⟩ := hf _ _ _ hi
            have e2 : u = .int a := by simpa only [Rep] using e2
            have w1 := AOk.top p1.ok (ROk.arg E p1 ro) hd
            have w1 : w = .int b := by simpa only [Top, Rep] using w1
            subst e2; subst w1
            refine ⟨a, b, rfl, rfl, ?_⟩
            cases hs : store fx env1 i (.val (.int (f a b))) with
            | bad => rw [hs] at t2; exact t2.elim
            | exc z => exact (store_not_exc hs).elim
            | ok env2 =>
              rw [hs] at t2
              obtain ⟨O2, p2⟩ := store_ok (v := .int (f a b)) p1.ok (r := .val (.int (f a b))) (by show Rep _ _ _ _ _; simp only [Rep]) hs
              exact t2 H1 _ O2 (p2.mono fun a z => by obtain ⟨_, d', e⟩ := z; cases e)
  cases o with
  | add =>
    have : op = .Add := by cases op <;> first | rfl | exact Bool.noConfusion (show false = true from h3)
    subst this
    refine key (fun i j => i + j) (fun a b r q => ?_) ip_add
    unfold inplace at q
    split at q <;> first | cases q | skip
    · exact ⟨_, _, rfl, rfl, rfl⟩
    · rename_i z; cases z
  | sub =>
    have : op = .Sub := by cases op <;> first | rfl | exact Bool.noConfusion (show false = true from h3)
    subst this
    refine key (fun i j => i - j) (fun a b r q => ?_) ip_sub
    unfold inplace at q
    split at q <;> first | cases q | skip
    · rename_i z; cases z
    · exact ⟨_, _, rfl, rfl, rfl⟩
  | mul => rcases ho2 with z | z <;> cases z
  | fdiv => rcases ho2 with z | z <;> cases z
  | mod => rcases ho2 with z | z <;> cases z
/-- a value and a new object, stored: the value first -/
theorem store_pair {K : PySem.W.Frag} {mg : Str → Option Value} {W : WX} {P F : Addr → Prop} {O : Nat → Option Addr} {H : Hp} {σ : L2.St} {env : Env} {En : Ends} {Ps : Addr → Prop} {Hs H0 : Hp} {i j : Nat} {e d : D} {v : V} {p : Addr} (np : ¬ P p) (hp : F p) (E2 : EnvOk K mg (plus P p) O H σ env) (ow : Own K mg (msk (Priv (plus P p) O) H) (H p) d) (rd : Rep K mg (msk (Priv (plus P p) O) H) e v)
    {O0 : Nat → Option Addr} {env0 : Env} (p0 : PostS K mg fx (fun _ => False) P O0 H0 env0 H σ env O)
    (tt : TX K mg Prod.snd W fx F P O0 H0 env0 ((store fx env i (.val e)).bind fun env1 => (store fx env1 j (.fr d)).bind fun env2 => .ok (.nx, env2)) (FlK K mg En Ps Hs)) : En.nx ((σ.set i (some v)).set j (some (.ref p))) H := by
  cases hs : store fx env i (.val e) with
  | bad => rw [hs] at tt; exact tt.elim
  | exc z => exact (store_not_exc hs).elim
  | ok env1 =>
    rw [hs] at tt
    have c1 : i < env.length ∧ i ∉ fx ∧ env1 = env.set i (.sh e) := by
      simp only [store] at hs
      split at hs
      · rename_i c; cases hs; exact ⟨c.1, c.2, rfl⟩
      · cases hs
    obtain ⟨c1, c2, rfl⟩ := c1
    have a1 := store_val (fx := fx) (F := fun _ => False) E2 c1 c2 rd
    have a2 := store_val (fx := fx) (F := fun _ => False) (P := P) E2.unplus c1 c2 (rd.mono (msk_mono (fun a z => .inl (by
      rcases z with z | z
      · exact .inl (.inl z)
      · exact .inr z)) fun a o _ e => e))
    have tt : TX K mg Prod.snd W fx F P O0 H0 env0 ((store fx (env.set i (.sh e)) j (.fr d)).bind fun env2 => .ok (.nx, env2)) (FlK K mg En Ps Hs) := tt
    cases hs2 : store fx (env.set i (.sh e)) j (.fr d) with
    | bad => rw [hs2] at tt; exact tt.elim
    | exc z => exact (store_not_exc hs2).elim
    | ok env2 =>
      rw [hs2] at tt
      have c3 : j < (env.set i (.sh e)).length ∧ j ∉ fx ∧ env2 = (env.set i (.sh e)).set j (.ow d) := by
        simp only [store] at hs2
        split at hs2
        · rename_i c; cases hs2; exact ⟨c.1, c.2, rfl⟩
        · cases hs2
      obtain ⟨c3, c4, rfl⟩ := c3
      have a3 := store_fr a2.ok c3 c4 np a1.ok (ow.mono (msk_mono (fun a z => .inl (priv_drop1 z)) fun a o _ e => e))
      have a4 := (p0.trans a2 (F2 := fun _ => False) (fun _ z => z) (fun _ z => z) fun _ z => z.elim).trans a3 (F2 := F) (fun _ z => z.elim) (fun a z => by rw [z]; exact hp) fun _ z => z.elim
      exact tt H _ _ a4
theorem Post.unplus {K : PySem.W.Frag} {mg : Str → Option Value} {P : Addr → Prop} {O O' : Nat → Option Addr} {H H' : Hp} {σ : L2.St} {env env' : Env} {p : Addr} (h : Post K mg (plus P p) O H σ env H' env' O') : Post K mg P O H σ env H' env' O' := ⟨h.sub, h.eff, h.um, h.dom, h.lk, h.ok.unplus⟩
theorem ss_par {i j : Nat} {a b : Ex} (ha : SE fx io cf a) (hb : SE fx io cf b) : SS fx io cf wf (.par i j a b) := by
  intro X k W st h ok ho
  obtain ⟨x, px, y, py, kt, pt, u, v, k2, pt2, p, rfl, h1, h2, h3, h4, h5, h6, h7, h8⟩ := chkS_par h
  have hkind : X.env.scope.kind = .function := by rw [ok.sc]; exact ok.kind
  refine (ps_par ok.calm (ok.N ▸ ok.nd) (ok.slotX h1) (ok.slotX h2) h5 (by rw [ok.sc]; exact h3) (by rw [ok.sc]; exact h4) (pa_cons (ha X k W u h7 ok) (pa_cons (hb X k W v h8 ok) pa_nil (star_eq (no_star h8))) (star_eq (no_star h7))) (swp_ok hkind ok.sc h6)).imp fun D σ H ⟨P, O, env, E, t⟩ => ?_
  unfold exec at t
  refine ⟨P, O, env, E, (TX.bindE E t).imp fun r env1 H1 O1 p1 ⟨_, t1⟩ v1 o1 => ?_⟩
  have t0 := t1 (New H) fun _ z => z
  have t1 := t1 (New H1) (New.monoP p1)
  -- neither new, or the second new
  have noFr : (∀ d, r ≠ .fr d) ∨ True → (∀ r2 env2, ev fx io cf b env1 = .ok (r2, env2) → (∃ e, r2 = .fr e) ∨ ∀ d, r ≠ .fr d) → tCons (tE X.K X.mg fx io cf W b) tNil σ H1 (fun xs H2 => ∃ v w, v1 :: xs = [v, w] ∧ D.nx ((σ.set i (some v)).set j (some w)) H2) := fun _ hc => by
    refine ⟨P, O1, env1, p1.ok, ?_⟩
    have tb := TX.bindE p1.ok t1
    cases hev : ev fx io cf b env1 with
    | bad => rw [hev] at tb; exact tb.elim
    | exc z => rw [hev] at tb; exact tb
    | ok z =>
      obtain ⟨r2, env2⟩ := z
      have hc := hc r2 env2 hev
      rw [hev] at tb
      intro H2 O2 p2 v2 o2
      obtain ⟨_, t2⟩ := tb H2 O2 p2
      have t2 := t2 (New H2) (New.monoP p2)
      refine ⟨v1, v2, rfl, ?_⟩
      have p2 : Post X.K X.mg P O1 H1 σ env1 H2 env2 O2 := p2
      have a1 := AOk.keep p1.ok p2 (ROk.arg E p1 o1)
      have a2 := ROk.arg p1.ok p2 o2
      by_cases hfr : ∃ e, r2 = .fr e
      · obtain ⟨e, rfl⟩ := hfr
        cases hd : deref env2 r.arg with
        | none => cases r <;> (simp only [R.arg] at hd; simp only [R.arg, hd] at t2; exact t2.elim)
        | some d =>
          have t2 : TX X.K X.mg Prod.snd W fx (New H2) P O2 H2 env2 ((store fx (frz1 env2 r.arg) i (.val d)).bind fun env1 => (store fx env1 j (.fr e)).bind fun env2 => .ok (.nx, env2)) (FlK X.K X.mg D P H) := by
            cases r <;> (simp only [R.arg] at hd; simp only [R.arg, hd] at t2; exact t2)
          obtain ⟨q, rfl, hq, E2, ow⟩ := o2
          -- the first value beside the new object
          have a1' : AOk X.K X.mg (plus P q) σ H2 O2 v1 r.arg := by
            have a0 := ROk.arg E p1 o1
            cases hr : r.arg with
            | own i => rw [hr] at a0; exact a0
            | val d =>
              rw [hr] at a0
              have a0 : Rep X.K X.mg (msk (Priv P O1) H1) d v1 := a0
              refine a0.mono (msk_mono (fun a z => ?_) fun a o n e => p2.eff a o e fun z => n z.priv)
              rcases z with (z | z) | ⟨l, z⟩
              · exact .inl (.inl z)
              · subst z; exact .inr hq
              · exact .inl (.inr ⟨l, p2.sub l a z⟩)
          obtain ⟨O3, p3, r3⟩ := E2.frz1 a1'
          have rd := r3 d hd
          have np : ¬ P q := fun z => by
            obtain ⟨o, e, _⟩ := p1.ok.tr q z
            rw [hq] at e; cases e
          -- back to the start of b: the object is new there
          have p13 : PostS X.K X.mg fx (fun _ => False) P O1 H1 env1 H2 σ (frz1 env2 r.arg) O3 := (p2.trans p3.unplus).toS p1.ok
          have t1' : TX X.K X.mg Prod.snd W fx (New H1) P O1 H1 env1 ((store fx (frz1 env2 r.arg) i (.val d)).bind fun env1 => (store fx env1 j (.fr e)).bind fun env2 => .ok (.nx, env2)) (FlK X.K X.mg D P H) := by
            have t1 := t1
            rw [hev] at t1
            cases r <;> (simp only [R.arg] at hd; simp only [Res.bind, R.arg, hd] at t1; exact t1)
          exact store_pair np hq p3.ok (ow.mono (keep_msk E2 p3.sub p3.eff)) rd p13 t1'
      · have hnr : ∀ d, r ≠ .fr d := hc.resolve_left hfr
        have hnr2 : ∀ d, r2 ≠ .fr d := fun d z => hfr ⟨d, z⟩
        cases hd : deref env2 r.arg with
        | none =>
          cases r2 <;> first | exact absurd rfl (hnr2 _) | skip
          all_goals (cases r <;> first | exact absurd rfl (hnr _) | (simp only [R.arg] at hd; simp only [R.arg, hd] at t2; exact t2.elim))
        | some d =>
          cases he : deref env2 r2.arg with
          | none =>
            cases r2 <;> first | exact absurd rfl (hnr2 _) | skip
            all_goals (cases r <;> first | exact absurd rfl (hnr _) | (simp only [R.arg] at hd he; simp only [R.arg, hd, he] at t2; exact t2.elim))
          | some e =>
            have t2 : TX X.K X.mg Prod.snd W fx (New H2) P O2 H2 env2 ((store fx (frz env2 [r.arg, r2.arg]) i (.val d)).bind fun env1 => (store fx env1 j (.val e)).bind fun env2 => .ok (.nx, env2)) (FlK X.K X.mg D P H) := by
              cases r2 <;> first | exact absurd rfl (hnr2 _) | skip
              all_goals (cases r <;> first | exact absurd rfl (hnr _) | (simp only [R.arg] at hd he; simp only [R.arg, hd, he] at t2; exact t2))
            obtain ⟨O3, p3, r3⟩ := p2.ok.frz (as := [r.arg, r2.arg]) (vs := [v1, v2]) ⟨v1, [v2], rfl, a1, v2, [], rfl, a2, rfl⟩
            have rr := r3 [d, e] (by simp only [derefs, hd, he, Option.bind_some, Option.map_some])
            simp only [Reps] at rr
            obtain ⟨_, _, z1, rd, _, _, z2, re, rfl⟩ := rr
            cases z1; cases z2
            cases hs : store fx (frz env2 [r.arg, r2.arg]) i (.val d) with
            | bad => rw [hs] at t2; exact t2.elim
            | exc z => exact (store_not_exc hs).elim
            | ok env4 =>
              obtain ⟨O4, p4⟩ := store_ok (v := v1) p3.ok (r := .val d) rd hs
              have p4 := p4.mono (F' := fun _ => False) fun a z => by obtain ⟨_, d', e⟩ := z; cases e
              have k4 : Same (msk (Priv P O3) H2) (msk (Priv P O4) H2) := msk_mono (fun a z => .inl ((p4.pv a z).elim id fun z => z.elim)) fun a o _ e => e
              rw [hs] at t2
              have t2 : TX X.K X.mg Prod.snd W fx (New H2) P O2 H2 env2 ((store fx env4 j (.val e)).bind fun env2 => .ok (.nx, env2)) (FlK X.K X.mg D P H) := t2
              cases hs2 : store fx env4 j (.val e) with
              | bad => rw [hs2] at t2; exact t2.elim
              | exc z => exact (store_not_exc hs2).elim
              | ok env5 =>
                rw [hs2] at t2
                obtain ⟨O5, p5⟩ := store_ok (v := v2) p4.ok (r := .val e) (re.mono k4) hs2
                have p5 := p5.mono (F' := fun _ => False) fun a z => by obtain ⟨_, d', e⟩ := z; cases e
                have q := ((p3.toS (fx := fx) (F := fun _ => False) p2.ok).trans p4 (F2 := fun _ => False) (fun _ z => z) (fun _ z => z) fun _ z => z.elim).trans p5 (F2 := New H2) (fun _ z => z.elim) (fun _ z => z.elim) fun _ z => z.elim
                exact t2 H2 _ O5 q
  cases r with
  | val d => exact noFr (.inr trivial) fun _ _ _ => .inr fun _ z => by cases z
  | own i => exact noFr (.inr trivial) fun _ _ _ => .inr fun _ z => by cases z
  | fr d =>
    by_cases hall : ∃ e env2, ev fx io cf b env1 = .ok (.fr e, env2)
    · obtain ⟨e, env2, hev⟩ := hall
      refine noFr (.inr trivial) fun r2 env2' q => .inl ⟨e, ?_⟩
      rw [hev] at q; cases q; rfl
    · -- the first is new: the second is found beside it
      obtain ⟨q, rfl, hq, E2, ow⟩ := o1
      refine ⟨plus P q, O1, env1, E2, ?_⟩
      cases hev : ev fx io cf b env1 with
      | bad => rw [hev] at t1; exact t1.elim
      | exc z => rw [hev] at t1; exact fun H' O' cls od p x => t1 H' σ O' cls od (p.unplus.toS p1.ok) x
      | ok z =>
        obtain ⟨r2, env2⟩ := z
        have hnr2 : ∀ d, r2 ≠ .fr d := fun e z => hall ⟨e, env2, by rw [hev, z]⟩
        intro H2 O2 p2 v2 o2
        refine ⟨.ref q, v2, rfl, ?_⟩
        have p2 : Post X.K X.mg (plus P q) O1 H1 σ env1 H2 env2 O2 := p2
        have a2 := ROk.arg E2 p2 o2
        rw [hev] at t0
        cases he : deref env2 r2.arg with
        | none => cases r2 <;> first | exact absurd rfl (hnr2 _) | (simp only [R.arg] at he; simp only [Res.bind, R.arg, he] at t0; exact t0.elim)
        | some e =>
          have t0 : TX X.K X.mg Prod.snd W fx (New H) P O1 H1 env1 ((store fx (frz1 env2 r2.arg) j (.val e)).bind fun env1 => (store fx env1 i (.fr d)).bind fun env2 => .ok (.nx, env2)) (FlK X.K X.mg D P H) := by
            cases r2 <;> first | exact absurd rfl (hnr2 _) | (simp only [R.arg] at he; simp only [Res.bind, R.arg, he] at t0; exact t0)
          obtain ⟨O3, p3, r3⟩ := p2.ok.frz1 a2
          have rd := r3 e he
          have np : ¬ P q := fun z => by
            obtain ⟨o, e, _⟩ := E.tr q z
            rw [hq] at e; cases e
          have hq2 : H2 q = H1 q := by
            obtain ⟨o, e, _⟩ := E2.tr q (.inr rfl)
            rw [e]; exact p2.eff q o e (notU E2)
          have ow3 : Own X.K X.mg (msk (Priv (plus P q) O3) H2) (H2 q) d := by
            rw [hq2]
            exact (ow.mono (keep_msk E2 p2.sub p2.eff)).mono (keep_msk p2.ok p3.sub p3.eff)
          have p13 : PostS X.K X.mg fx (fun _ => False) P O1 H1 env1 H2 σ (frz1 env2 r2.arg) O3 := (p2.unplus.trans p3.unplus).toS p1.ok
          rw [List.set_comm _ _ h5]
          exact store_pair np hq p3.ok ow3 rd p13 t0
theorem sss_nil : SSs fx io cf wf .nil := by
  intro X k W st h ok ho
  cases st with
  | cons a r => exact Bool.noConfusion (show false = true from h)
  | nil =>
    refine pss_nil.imp fun D σ H ⟨P, O, env, E, t⟩ => ?_
    unfold execs at t
    exact t H σ O (PostS.refl E)
theorem sss_cons {s : Sm} {l : Sms} (h1 : SS fx io cf wf s) (h2 : SSs fx io cf wf l) : SSs fx io cf wf (.cons s l) := by
  intro X k W st h ok ho
  cases st with
  | nil => exact Bool.noConfusion (show false = true from h)
  | cons x r =>
    have h : (chkS s k x && chkSs l k r) = true := h
    rw [Bool.and_eq_true] at h
    refine (pss_cons (h1 X k W x h.1 ok ho) (h2 X k W r h.2 ok ho)).imp fun D σ H ⟨P, O, env, E, t⟩ => ⟨P, O, env, E, ?_⟩
    unfold execs at t
    refine (TX.bind (pb := Prod.snd) (F1 := New H) t (fun _ z => z) fun _ z => z).imp fun z H1 σ1 O1 _ p1 ⟨_, t1⟩ => ?_
    have t1 := t1 (New H1) (New.mono p1)
    obtain ⟨f, env1⟩ := z
    cases f with
    | nx => exact tSs_of p1.ok p1.dom t1
    | bk => exact t1 H1 σ1 O1 (PostS.refl p1.ok)
    | ct => exact t1 H1 σ1 O1 (PostS.refl p1.ok)
    | ret r => exact t1 H1 σ1 O1 (PostS.refl p1.ok)
theorem ss_whil {c : Ex} {b : Sms} (hc : ST fx io cf c) (hb : SSs fx io cf wf b) : SS fx io cf wf (.whil c b) := by
  intro X k W st h ok ho
  obtain ⟨x, y, p, rfl, h1, h2⟩ := chkS_whil h
  refine (ps_while ho (hc X k W x h1 ok) (hb X k W y h2 ok ho)).imp fun D σ H ⟨P, O, env, E, t⟩ => ?_
  unfold exec at t
  refine ⟨fun n σ1 H1 => ∃ O1 env1, EnvOk X.K X.mg P O1 H1 σ1 env1 ∧ (∀ a o, H a = some o → ∃ o', H1 a = some o') ∧ TX X.K X.mg Prod.snd W fx (New H1) P O1 H1 env1 (whileGo (fun env1 => (ev fx io cf c env1).bind testR) (fun env1 => execs fx io cf wf b env1) n env1) (FlK X.K X.mg D P H), ⟨wf, O, env, E, fun a o z => ⟨o, z⟩, t⟩, ?_⟩
  rintro n σ1 H1 ⟨O1, env1, E1, hd, t1⟩
  cases n with
  | zero => exact t1.elim
  | succ n =>
    unfold whileGo at t1
    refine ⟨P, O1, env1, E1, (TX.bindE E1 t1).imp fun bo env2 H2 O2 p2 ⟨_, t2⟩ => ?_⟩
    have t2 := t2 (New H2) (New.monoP p2)
    have hd2 : ∀ a o, H a = some o → ∃ o', H2 a = some o' := fun a o z => let ⟨o1, z1⟩ := hd a o z; p2.dom a o1 z1
    cases bo with
    | false =>
      simp only [Bool.false_eq_true, if_false] at t2 ⊢
      exact t2 H2 σ1 O2 (PostS.refl p2.ok)
    | true =>
      simp only [if_true] at t2 ⊢
      refine ⟨fun σ' H' => ∃ O1 env1, EnvOk X.K X.mg P O1 H' σ' env1 ∧ (∀ a o, H a = some o → ∃ o', H' a = some o') ∧ TX X.K X.mg Prod.snd W fx (New H') P O1 H' env1 (whileGo (fun env1 => (ev fx io cf c env1).bind testR) (fun env1 => execs fx io cf wf b env1) n env1) (FlK X.K X.mg D P H), fun σ' H' q => ⟨n, Nat.lt_succ_self n, q⟩, P, O2, env2, p2.ok, ?_⟩
      refine (TX.bind (pb := Prod.snd) (F1 := New H2) t2 (fun _ z => z) fun _ z => z).imp fun z H3 σ3 O3 _ p3 ⟨_, t3⟩ => ?_
      have t3 := t3 (New H3) (New.mono p3)
      have hd3 : ∀ a o, H a = some o → ∃ o', H3 a = some o' := fun a o z => let ⟨o1, z1⟩ := hd2 a o z; p3.dom a o1 z1
      obtain ⟨f, env3⟩ := z
      cases f with
      | nx => exact ⟨O3, env3, p3.ok, hd3, t3⟩
      | ct => exact ⟨O3, env3, p3.ok, hd3, t3⟩
      | bk => exact t3 H3 σ3 O3 (PostS.refl p3.ok)
      | ret r => exact fun v o => t3 H3 σ3 O3 (PostS.refl p3.ok) v (o.dom hd2)
theorem ss_loop {t : Tg} {it : MP.It} {b : Sms} (ht : STg fx io cf t) (hi : SI fx io cf it) (hb : SSs fx io cf wf b) : SS fx io cf wf (.loop t it b) := by
  intro X k W st h ok ho
  obtain ⟨tg, iter, y, p, rfl, h1, h2, h3⟩ := chkS_loop h
  obtain ⟨pi, hs⟩ := hi X k W tg iter h1 ok
  refine (ps_for ho ok.calm pi (ht X k W tg h2 ok) (hb X k W y h3 ok ho) hs).imp fun D σ H ⟨P, O, env, E, t1⟩ => ?_
  unfold exec at t1
  refine ⟨P, O, env, E, (TX.bindE E t1).imp fun z env1 H1 O1 p1 ⟨_, t2⟩ hlk J wk => ?_⟩
  obtain ⟨items, lks⟩ := z
  have t2 := t2 (New H1) (New.monoP p1)
  simp only at t2 wk hlk
  generalize hf : (fun x env1 => (asg fx io cf t (.val x) env1).bind fun env2 => execs fx io cf wf b env2) = f at t2
  -- the loop's own end
  have t3 : TX X.K X.mg Prod.snd W fx (New H1) P O1 H1 (lock env1 lks) (loopGo f items (lock env1 lks)) (fun z H' σ' O' => FlK X.K X.mg D P H (z.1, unlock z.2 lks) H' σ' O') := by
    cases q : loopGo f items (lock env1 lks) with
    | bad => rw [q] at t2; exact t2.elim
    | ok z => rw [q] at t2; exact fun H' σ' O' p => t2 H' σ' O' (p.unlock hlk)
    | exc z => rw [q] at t2; exact fun H' σ' O' cls od p x => t2 H' σ' O' cls od (p.unlock hlk) x
  clear t2 t1
  have EL : EnvOk X.K X.mg P O1 H1 σ (lock env1 lks) := p1.ok.lock lks
  refine ⟨fun i m σ2 H2 => m = items.length - i ∧ i ≤ items.length ∧ ∃ O2 env2, PostS X.K X.mg fx (New H1) P O1 H1 (lock env1 lks) H2 σ2 env2 O2 ∧ TX X.K X.mg Prod.snd W fx (New H2) P O2 H2 env2 (loopGo f (items.drop i) env2) (fun z H' σ' O' => FlK X.K X.mg D P H (z.1, unlock z.2 lks) H' σ' O'), ⟨_, rfl, Nat.zero_le _, O1, lock env1 lks, PostS.refl EL, by simpa using t3⟩, ?_⟩
  rintro i m σ2 H2 ⟨rfl, hil, O2, env2, p2, t4⟩
  have hS : ∀ a, Priv P O2 a → ∃ o, H2 a = some o := fun a z => let ⟨o, e, _⟩ := p2.ok.priv a z; ⟨o, e⟩
  obtain ⟨stop, step⟩ := wk.step H2 (Priv P O2) (keepS p2) p2.eff hS i
  have hd2 : ∀ a o, H a = some o → ∃ o', H2 a = some o' := fun a o z => let ⟨o1, z1⟩ := p1.dom a o z; p2.dom a o1 z1
  by_cases hlt : i < items.length
  · right
    obtain ⟨g1, g2⟩ := step hlt
    refine ⟨g1, fun σ' H' => i + 1 ≤ items.length ∧ ∃ O2 env2, PostS X.K X.mg fx (New H1) P O1 H1 (lock env1 lks) H' σ' env2 O2 ∧ TX X.K X.mg Prod.snd W fx (New H') P O2 H' env2 (loopGo f (items.drop (i + 1)) env2) (fun z H' σ' O' => FlK X.K X.mg D P H (z.1, unlock z.2 lks) H' σ' O'), fun σ' H' q => ⟨items.length - (i + 1), by omega, rfl, q⟩, fun x H3 yl => ?_⟩
    obtain ⟨kx, d, hd, rd⟩ := g2 x H3 yl
    have hdrop : items.drop i = d :: items.drop (i + 1) := by
      rw [List.drop_eq_getElem_cons hlt]
      rw [List.getElem?_eq_getElem hlt] at hd
      cases hd; rfl
    rw [hdrop] at t4
    unfold loopGo at t4
    have p3 := Post.same p2.ok kx
    have p3s := p3.toS (fx := fx) (F := New H2) p2.ok
    have t5 := TX.shift p3s t4 (F2 := New H3) (fun _ z => z) (New.mono p3s) fun _ z => z
    rw [← hf] at t5
    refine ⟨P, O2, env2, .val d, p3.ok, rd, ?_⟩
    have assoc : ∀ {α β γ : Type} (r : RE α) (g : α → RE β) (h : β → RE γ), ((r.bind g).bind h) = r.bind fun a => (g a).bind h := fun r g h => by cases r <;> rfl
    simp only [assoc] at t5
    refine (TX.bind (pb := id) (F1 := FrOf (.val d) x) t5 (fun a z => by obtain ⟨_, d', e⟩ := z; cases e) fun a z => by obtain ⟨_, d', e⟩ := z; cases e).imp fun env4 H4 σ4 O4 _ p4 ⟨_, t6⟩ _ => ?_
    have p4s := p4.mono (F' := New H3) fun a z => by obtain ⟨_, d', e⟩ := z; cases e
    have t6 := t6 (New H4) (New.mono p4s)
    refine ⟨P, O4, env4, p4.ok, (TX.bind (pb := Prod.snd) (F1 := New H4) t6 (fun _ z => z) fun _ z => z).imp fun z H5 σ5 O5 _ p5 ⟨_, t7⟩ => ?_⟩
    have t7 := t7 (New H5) (New.mono p5)
    have pall := ((p2.transN p3s).transN p4s).transN p5
    have hd4 : ∀ a o, H a = some o → ∃ o', H4 a = some o' := fun a o z => let ⟨o1, z1⟩ := hd2 a o z; p4.dom a o1 (kx a o1 z1)
    obtain ⟨fl, env5⟩ := z
    rw [hf] at t7
    cases fl with
    | nx => exact ⟨hlt, O5, env5, pall, t7⟩
    | ct => exact ⟨hlt, O5, env5, pall, t7⟩
    | bk => exact t7 H5 σ5 O5 (PostS.refl p5.ok)
    | ret r =>
      intro v o
      have := t7 H5 σ5 O5 (PostS.refl p5.ok) v
      refine this ?_
      have o := o.dom hd4
      cases r with
      | val d => exact o
      | own i => exact o
      | fr d =>
        obtain ⟨p, e1, e2, e3, e4⟩ := o
        exact ⟨p, e1, e2, e3.unlock lks, e4⟩
  · left
    refine ⟨stop (by omega), ?_⟩
    have : items.drop i = [] := List.drop_eq_nil_of_le (by omega)
    rw [this] at t4
    unfold loopGo at t4
    exact t4 H2 σ2 O2 (PostS.refl p2.ok)
end
end MP
end
section
set_option Elab.async false
set_option linter.all false
set_option maxRecDepth 100000
set_option maxHeartbeats 1000000
/-! MPX: all of the small language is sound; defs. -/
namespace MP
open PySem PySem.Spec PyProof.Rows L2

section
variable {fx : List Nat} {io : Str → List Bool} {cf : Str → List D → RC} {wf : Nat}
def ownTest : Ex → Bool
  | .not _ => true
  | .and _ _ => true
  | .or _ _ => true
  | .ite _ _ _ => true
  | .cmp _ _ _ => true
  | .chain _ _ _ _ _ => true
  | _ => false
theorem plain_test {a : Ex} (ha : ownTest a = false) {k : Kx} {e : Expr} (h : chkE a k e = true) (env : PySem.Env) (whole : Sem Value) : isTrue e env whole = (do let v ← whole; standAt e.pos; holding [v] (truthy v)) := by
  cases a with
  | not _ => cases ha
  | and _ _ => cases ha
  | or _ _ => cases ha
  | ite _ _ _ => cases ha
  | cmp _ _ _ => cases ha
  | chain _ _ _ _ _ => cases ha
  | neg a => obtain ⟨x, p, rfl, _⟩ := chkE_neg h; rfl
  | var i => cases e <;> first | rfl | exact Bool.noConfusion (show false = true from h)
  | int i => cases e <;> first | rfl | exact Bool.noConfusion (show false = true from h)
  | bl i => cases e <;> first | rfl | exact Bool.noConfusion (show false = true from h)
  | non => cases e <;> first | rfl | exact Bool.noConfusion (show false = true from h)
  | str i => cases e <;> first | rfl | exact Bool.noConfusion (show false = true from h)
  | gl i => cases e <;> first | rfl | exact Bool.noConfusion (show false = true from h)
  | ty i => cases e <;> first | rfl | exact Bool.noConfusion (show false = true from h)
  | bin o a b => cases e <;> first | rfl | exact Bool.noConfusion (show false = true from h)
  | tup l => cases e <;> first | rfl | exact Bool.noConfusion (show false = true from h)
  | lst l => cases e <;> first | rfl | exact Bool.noConfusion (show false = true from h)
  | ix a b => cases e <;> first | rfl | exact Bool.noConfusion (show false = true from h)
  | sl a b c => cases e <;> first | rfl | exact Bool.noConfusion (show false = true from h)
  | call x l => cases e <;> first | rfl | exact Bool.noConfusion (show false = true from h)
  | blt x l => cases e <;> first | rfl | exact Bool.noConfusion (show false = true from h)
  | pm x o l => cases e <;> first | rfl | exact Bool.noConfusion (show false = true from h)
  | mt x o l => cases e <;> first | rfl | exact Bool.noConfusion (show false = true from h)
  | comp e0 t it cs own => cases e <;> first | rfl | exact Bool.noConfusion (show false = true from h)
  | comp2 e0 t it cs t2 it2 cs2 own => cases e <;> exact Bool.noConfusion (show false = true from h)
theorem st_plain {a : Ex} (ha : ownTest a = false) (h : SE fx io cf a) : ST fx io cf a := st_val h fun k e c => plain_test ha c
def AE (fx : List Nat) (io : Str → List Bool) (cf : Str → List D → RC) (e : Ex) : Prop := SE fx io cf e ∧ ST fx io cf e ∧ ∀ el tg it cs own, e = .comp el tg it cs own → SE fx io cf el ∧ STg fx io cf tg ∧ SI fx io cf it ∧ SC fx io cf cs
theorem AE.of {e : Ex} (h1 : SE fx io cf e) (h2 : ST fx io cf e) (h3 : ∀ el tg it cs own, e ≠ .comp el tg it cs own) : AE fx io cf e := ⟨h1, h2, fun el tg it cs own z => absurd z (h3 el tg it cs own)⟩
mutual
theorem allE : ∀ e : Ex, AE fx io cf e
  | .var i => .of se_var (st_plain rfl se_var) fun _ _ _ _ _ z => by cases z
  | .int i => .of se_int (st_plain rfl se_int) fun _ _ _ _ _ z => by cases z
  | .bl i => .of se_bl (st_plain rfl se_bl) fun _ _ _ _ _ z => by cases z
  | .non => .of se_non (st_plain rfl se_non) fun _ _ _ _ _ z => by cases z
  | .str x => .of se_str (st_plain rfl se_str) fun _ _ _ _ _ z => by cases z
  | .gl x => .of se_gl (st_plain rfl se_gl) fun _ _ _ _ _ z => by cases z
  | .ty x => .of se_ty (st_plain rfl se_ty) fun _ _ _ _ _ z => by cases z
  | .bin o a b => have h := se_bin (o := o) (allE a).1 (allE b).1; .of h (st_plain rfl h) fun _ _ _ _ _ z => by cases z
  | .neg a => have h := se_neg (allE a).1; .of h (st_plain rfl h) fun _ _ _ _ _ z => by cases z
  | .cmp o a b => .of (se_cmp (allE a).1 (allE b).1) (st_cmp (allE a).1 (allE b).1) fun _ _ _ _ _ z => by cases z
  | .chain o p a b c => .of (se_chain (allE a).1 (allE b).1 (allE c).1) (st_chain (allE a).1 (allE b).1 (allE c).1) fun _ _ _ _ _ z => by cases z
  | .not a => .of (se_not (allE a).1) (st_not (allE a).2.1) fun _ _ _ _ _ z => by cases z
  | .and a b => .of (se_and (allE a).1 (allE b).1) (st_and (allE a).2.1 (allE b).2.1) fun _ _ _ _ _ z => by cases z
  | .or a b => .of (se_or (allE a).1 (allE b).1) (st_or (allE a).2.1 (allE b).2.1) fun _ _ _ _ _ z => by cases z
  | .ite c a b => .of (se_ite (allE c).2.1 (allE a).1 (allE b).1) (st_ite (allE c).2.1 (allE a).2.1 (allE b).2.1) fun _ _ _ _ _ z => by cases z
  | .tup l => have h := se_tup (allEs l); .of h (st_plain rfl h) fun _ _ _ _ _ z => by cases z
  | .lst l => have h := se_lst (allEs l); .of h (st_plain rfl h) fun _ _ _ _ _ z => by cases z
  | .ix a i => have h := se_ix (allE a).1 (allE i).1; .of h (st_plain rfl h) fun _ _ _ _ _ z => by cases z
  | .sl a lo hi => have h := se_sl (allE a).1 (allO lo).1 (allO hi).1; .of h (st_plain rfl h) fun _ _ _ _ _ z => by cases z
  | .call x l => have h := se_call (x := x) (allEs l); .of h (st_plain rfl h) fun _ _ _ _ _ z => by cases z
  | .blt b l => have h := se_blt (b := b) (allEs l); .of h (st_plain rfl h) fun _ _ _ _ _ z => by cases z
  | .pm m o l => have h := se_pm (m := m) (allE o).1 (allEs l); .of h (st_plain rfl h) fun _ _ _ _ _ z => by cases z
  | .mt m i l => have h := se_mt (m := m) (i := i) (allEs l); .of h (st_plain rfl h) fun _ _ _ _ _ z => by cases z
  | .comp e t it cs own => have h := se_comp (own := own) (allE e).1 (allT t) (allI it) (allO cs).2; ⟨h, st_plain rfl h, fun el tg it' cs' own' z => by cases z; exact ⟨(allE e).1, allT t, allI it, (allO cs).2⟩⟩
  | .comp2 e t it cs t2 it2 cs2 own => .of (fun _ _ _ e h => by cases e <;> exact Bool.noConfusion (show false = true from h)) (fun _ _ _ e h => by cases e <;> exact Bool.noConfusion (show false = true from h)) fun _ _ _ _ _ z => by cases z
theorem allEs : ∀ l : Exs, SAs fx io cf l
  | .nil => sas_nil
  | .cons e l => sas_cons (allE e).1 (allEs l)
theorem allO : ∀ o : Oe, SO fx io cf o ∧ SC fx io cf o
  | .no => ⟨so_no, sc_no⟩
  | .yes e => ⟨so_yes (allE e).1, sc_yes (allE e).2.1⟩
theorem allI : ∀ i : MP.It, SI fx io cf i
  | .seq e => si_seq (allE e).1
  | .rng1 a => si_rng1 (allE a).1
  | .rng2 a b => si_rng2 (allE a).1 (allE b).1
  | .zip a b => si_zip (allE a).1 (allE b).1
  | .enum a => si_enum (allE a).1
theorem allT : ∀ t : Tg, STg fx io cf t
  | .nm i => stg_nm
  | .tup l => stg_tup (allTs l)
  | .ix i k => stg_ix (allE k).1
theorem allTs : ∀ l : Tgs, STgs fx io cf l
  | .nil => stgs_nil
  | .cons t l => stgs_cons (allT t) (allTs l)
end
mutual
theorem allS : ∀ s : Sm, SS fx io cf wf s
  | .asg t e => ss_asg (allE e).1 (allT t) (allE e).2.2
  | .par i j a b => ss_par (allE a).1 (allE b).1
  | .aug i o e => ss_aug (allE e).1
  | .expr e => ss_expr (allE e).1
  | .ret e => ss_ret (allE e).1
  | .retN => ss_retN
  | .ite c a b => ss_ite (allE c).2.1 (allSs a) (allSs b)
  | .loop t it b => ss_loop (allT t) (allI it) (allSs b)
  | .whil c b => ss_whil (allE c).2.1 (allSs b)
  | .pass => ss_pass
  | .brk => ss_brk
  | .cont => ss_cont
theorem allSs : ∀ s : Sms, SSs fx io cf wf s
  | .nil => sss_nil
  | .cons s l => sss_cons (allS s) (allSs l)
end
end

/-! ### a def's end -/
theorem outsOf_at {env : Env} : ∀ {io : List Bool} {j : Nat} {outs ds : List D}, outsOf env io j = some outs → ∀ i, io.getD i false = true → i < ds.length → ∃ d, env[j + i]? = some (.ow d) ∧ (mergeO io ds outs)[i]? = some d
  | [], j, outs, ds, h, i, hi, hl => by simp at hi
  | true :: bs, j, outs, ds, h, i, hi, hl => by
    unfold outsOf at h
    cases q : env[j]? with
    | none => rw [q] at h; cases h
    | some s =>
      rw [q] at h
      cases s with
      | un => cases h
      | sh d => cases h
      | lk d => cases h
      | ow d =>
        obtain ⟨l, e, rfl⟩ := Option.map_eq_some_iff.mp h
        cases ds with
        | nil => simp at hl
        | cons d0 ds =>
          cases i with
          | zero => exact ⟨d, by simpa using q, by simp [mergeO]⟩
          | succ i =>
            obtain ⟨d', e1, e2⟩ := outsOf_at (ds := ds) e i (by simpa using hi) (by simpa using hl)
            exact ⟨d', by rw [show j + (i + 1) = j + 1 + i by omega]; exact e1, by simpa [mergeO] using e2⟩
  | false :: bs, j, outs, ds, h, i, hi, hl => by
    unfold outsOf at h
    cases ds with
    | nil => simp at hl
    | cons d0 ds =>
      cases i with
      | zero => simp at hi
      | succ i =>
        obtain ⟨d', e1, e2⟩ := outsOf_at (ds := ds) h i (by simpa using hi) (by simpa using hl)
        exact ⟨d', by rw [show j + (i + 1) = j + 1 + i by omega]; exact e1, by simpa [mergeO] using e2⟩
theorem mem_ioIx {l : List Bool} {i : Nat} (h : l.getD i false = true) : i ∈ ioIx l := by
  unfold ioIx
  rw [List.mem_filter]
  refine ⟨?_, h⟩
  rw [List.mem_range]
  rcases Nat.lt_or_ge i l.length with z | z
  · exact z
  · rw [List.getD_eq_getElem?_getD, List.getElem?_eq_none z] at h; cases h
section
variable {K : PySem.W.Frag} {mg : Str → Option Value} {P P' : Addr → Prop} {A O' : Nat → Option Addr} {H H' : Hp} {σ σ' : L2.St} {vs : List V} {io : List Bool} {ds outs : List D} {env' : Env}
/-- the parameters as the caller sees them behind the call -/
theorem exit_ok (E : EnvOk K mg P A H (vs.map some) (startE io ds ds.length)) (eff : Eff (ofIo A) H H') (dom : ∀ a o, H a = some o → ∃ o', H' a = some o')
    (hP : ∀ a, P' a → P a ∨ H a = none) (E' : EnvOk K mg P' O' H' σ' env') (ho : outsOf env' io 0 = some outs) (hA : ∀ i, io.getD i false = true → i < ds.length → O' i = A i) :
    Same (msk (Priv P' O') H') (msk (Priv P' A) H') ∧ CallOk K mg P' A H vs io ds outs H' := by
  have aio : ∀ i a, A i = some a → io.getD i false = true ∧ i < ds.length := fun i a h => by
    cases q : (startE io ds ds.length)[i]? with
    | none => rw [E.out i q] at h; cases h
    | some s =>
      have hi : i < ds.length := by have := (List.getElem?_eq_some_iff.mp q).1; rwa [startE_len] at this
      refine ⟨?_, hi⟩
      rw [startE_at (List.getElem?_eq_getElem hi)] at q
      cases hb : io.getD i false with
      | true => rfl
      | false =>
        rw [hb] at q
        have z := E.sl i (.sh ds[i]) (by rw [startE_at (List.getElem?_eq_getElem hi), hb]; rfl)
        rw [z.1] at h; cases h
  have k1 : Same (msk (Priv P' O') H') (msk (Priv P' A) H') := msk_mono (fun a z => .inl (by
    rcases z with z | ⟨i, z⟩
    · exact .inl z
    · obtain ⟨b1, b2⟩ := aio i a z
      exact .inr ⟨i, by rw [hA i b1 b2]; exact z⟩)) fun a o _ e => e
  have k2 : Same (msk (Priv P A) H) (msk (Priv P' A) H') := msk_mono (fun a z => by
    rcases z with z | z
    · exact (hP a z).imp .inl id
    · exact .inl (.inr z)) fun a o n e => eff a o e fun z => n (.inr z)
  refine ⟨k1, eff, dom, ?_⟩
  have len := E.len
  rw [startE_len, List.length_map] at len
  have ml : (mergeO io ds outs).length = ds.length := mergeO_len _ _ _
  have sl : (startE io (mergeO io ds outs) ds.length).length = ds.length := by have := startE_len (bs := io) (ds := mergeO io ds outs); rwa [ml] at this
  refine ⟨?_, fun i s hs => ?_, fun i hi => ?_, E.inj, fun i a h z => ?_, E'.tr⟩
  · rw [List.length_map, sl]; exact len
  · have hi : i < ds.length := by have := (List.getElem?_eq_some_iff.mp hs).1; rwa [sl] at this
    have em : (mergeO io ds outs)[i]? = some ((mergeO io ds outs)[i]'(by omega)) := List.getElem?_eq_getElem (by omega)
    rw [startE_at em] at hs
    have hs := Option.some.inj hs
    cases hb : io.getD i false with
    | true =>
      rw [hb] at hs
      simp only [if_true] at hs
      subst hs
      obtain ⟨d, e1, e2⟩ := outsOf_at ho i hb hi
      rw [em] at e2
      have e2 := Option.some.inj e2
      rw [e2]
      rw [Nat.zero_add] at e1
      obtain ⟨a, z1, z2, z3⟩ := E'.sl i _ e1
      have z1' : A i = some a := by rw [← hA i hb hi]; exact z1
      obtain ⟨a', y1, y2, _⟩ := E.sl i (.ow ds[i]) (by rw [startE_at (List.getElem?_eq_getElem hi), hb]; rfl)
      rw [z1'] at y1; cases y1
      exact ⟨a, z1', y2, z3.mono k1⟩
    | false =>
      rw [hb] at hs
      simp only [Bool.false_eq_true, if_false] at hs
      subst hs
      have e2 := mergeO_no io ds outs i hb
      rw [em, List.getElem?_eq_getElem hi] at e2
      have e2 := Option.some.inj e2
      rw [e2]
      obtain ⟨n, v, y1, y2⟩ := E.sl i (.sh ds[i]) (by rw [startE_at (List.getElem?_eq_getElem hi), hb]; rfl)
      exact ⟨n, v, y1, y2.mono k2⟩
  · refine E.out i ?_
    rw [List.getElem?_eq_none_iff] at hi ⊢
    rw [sl] at hi; rw [startE_len]; exact hi
  · rcases hP a z with z | z
    · exact E.apart i a h z
    · obtain ⟨o, e, _⟩ := E.own h
      rw [z] at e; cases e
/-- a slot's own object becomes nobody's -/
theorem EnvOk.toP {env : Env} {O : Nat → Option Addr} {σ : L2.St} (E : EnvOk K mg P O H σ env) {j : Nat} {a : Addr} (hO : O j = some a) : EnvOk K mg (plus P a) (drop1 O j) H σ (env.set j .un) := by
  have mono : Same (msk (Priv P O) H) (msk (Priv (plus P a) (drop1 O j)) H) := msk_mono (fun b z => .inl (by
    rcases z with (z | z) | ⟨l, z⟩
    · exact .inl z
    · subst z; exact .inr ⟨j, hO⟩
    · exact .inr ⟨l, (drop1_some z).2⟩)) fun b o _ e => e
  refine ⟨by rw [List.length_set]; exact E.len, fun l t ht => ?_, fun l hl => ?_, fun l m b h1 h2 => E.inj l m b (drop1_some h1).2 (drop1_some h2).2, fun l b h z => ?_, fun b z => ?_⟩
  · rcases set_get ht with ⟨rfl, rfl⟩ | ⟨n, z⟩
    · exact drop1_self
    · rw [drop1_ne (Ne.symm n)]
      exact (E.sl l t z).mono mono fun _ _ => rfl
  · by_cases e : l = j
    · subst e; exact drop1_self
    · rw [drop1_ne e]
      rw [List.getElem?_set_ne (Ne.symm e)] at hl
      exact E.out l hl
  · obtain ⟨n, e⟩ := drop1_some h
    rcases z with z | z
    · exact E.apart l b e z
    · subst z; exact n (E.inj l j b e hO)
  · rcases z with z | z
    · exact E.tr b z
    · subst z; exact E.own hO
theorem outsOf_set {env : Env} {j : Nat} {s : Slot} : ∀ {io : List Bool} {k : Nat}, (∀ i, io.getD i false = true → k + i ≠ j) → outsOf (env.set j s) io k = outsOf env io k
  | [], k, _ => rfl
  | true :: bs, k, h => by
    have h0 : j ≠ k := fun e => h 0 rfl (by rw [e]; rfl)
    unfold outsOf
    rw [List.getElem?_set_ne h0, outsOf_set fun i hi e => h (i + 1) (by simpa using hi) (by omega)]
  | false :: bs, k, h => by
    unfold outsOf
    exact outsOf_set fun i hi e => h (i + 1) (by simpa using hi) (by omega)
/-- a def's frame at its entry -/
theorem entry_ok (E : EnvOk K mg P A H (vs.map some) (startE io ds ds.length)) {nn : Nat} (hn : ds.length ≤ nn) {N : List Str} (hN : N.length = nn) : EnvOk K mg P A H (L2.start N vs) (startE io ds nn) := by
  have len := E.len
  rw [startE_len, List.length_map] at len
  have e0 : startE io ds nn = startE io ds ds.length ++ List.replicate (nn - ds.length) .un := by unfold startE; simp
  have ln : (startE io ds nn).length = nn := by rw [e0, List.length_append, startE_len, List.length_replicate]; omega
  unfold L2.start
  refine ⟨?_, fun i s hs => ?_, fun i hi => ?_, E.inj, E.apart, E.tr⟩
  · rw [ln, List.length_append, List.length_map, List.length_replicate]; omega
  · rw [e0] at hs
    by_cases hi : i < ds.length
    · rw [List.getElem?_append_left (by rw [startE_len]; exact hi)] at hs
      rw [List.getElem?_append_left (by rw [List.length_map]; omega)]
      exact E.sl i s hs
    · rw [List.getElem?_append_right (by rw [startE_len]; omega), List.getElem?_replicate] at hs
      split at hs
      · cases hs
        refine E.out i ?_
        rw [List.getElem?_eq_none_iff, startE_len]; omega
      · cases hs
  · refine E.out i ?_
    rw [List.getElem?_eq_none_iff] at hi ⊢
    rw [ln] at hi; rw [startE_len]; omega
end

/-! ### a def of the text -/
/-- a def as it stands behind the top, its body in the small language -/
structure DefAt (K : PySem.W.Frag) (mg : Str → Option Value) (dfs : List Str) (x : Str) (fn : Fn) (ps : List Str) (f : Addr) (fd : FuncData) : Prop where
  ex : ∃ (qual : Str) (st : Stmt) (N : List Str), Fun K x qual st f fd ∧ FnScope N ps (defScope st) ∧ fn.np = ps.length ∧ fn.nn = N.length ∧ ps.length ≤ N.length ∧ chkSs fn.body ⟨defScope st, fun _ => true, N, dfs⟩ (defBody st) = true
  at_ : mg x = some (.ref f)
  kp : PySem.W.keepIn K (.ref f) = true
  bd : Binds K fd ps []
section
variable {P : Program} {w : World} {K : PySem.W.Frag} {mg : Str → Option Value} {base : Heap} {T : Tab} {wf : Nat} {dfs : List Str}
theorem callF_len {n : Nat} {x : Str} {fn : Fn} {ds : List D} (hf : T.lookup x = some fn) (h : callF T wf n x ds ≠ .bad) : ds.length = fn.np := by
  cases n with
  | zero => exact absurd rfl h
  | succ n =>
    unfold callF at h
    rw [hf] at h
    simp only at h
    split at h
    · assumption
    · exact absurd rfl h
theorem def_ok (hb : ∀ y ∈ bltNames, mg y = none) {k n : Nat} (hk : 1 ≤ k) {x : Str} {fn : Fn} {ps : List Str} {f : Addr} {fd : FuncData} (hf : T.lookup x = some fn) (DA : DefAt K mg dfs x fn ps f fd)
    (hd : ∀ y ∈ dfs, ∃ (fn' : Fn) (ps' : List Str) (f' : Addr) (fd' : FuncData), T.lookup y = some fn' ∧ DefAt K mg dfs y fn' ps' f' fd' ∧ FnOk P w K mg base (L2.CX P w) k f' fd' ps' (spF K mg fn'.io ps'.length (callF T wf n y))) :
    FnOk P w K mg base (L2.CX P w) (k + 1) f fd ps (spF K mg fn.io ps.length (callF T wf (n + 1) x)) := by
  obtain ⟨qual, st, N, F, S, e1, e2, e3, chk⟩ := DA.ex
  refine L2.Fun.okX F S (fun vs H Q E h => ?_) (fun cdv A outer s H vs Q E hr h => ?_)
  · obtain ⟨_, _, _, h, _⟩ := h; exact h
  · obtain ⟨Pp, Ao, ds, h1, h2, E0, h3⟩ := h
    generalize hX : cxOf (L2.CX P w) P w K mg base N qual (defScope st) f cdv A outer s H E = X
    have ok : Okc X ⟨defScope st, fun _ => true, N, dfs⟩ (fun cls d _ H => E cls d H) T.io (callF T wf n) := by
      subst hX
      refine ⟨rfl, rfl, rfl, S.nd, rfl, hr.mono hk, hb, fun y hy => ?_, S.kind, fun σ => L2.passAt (L2.takes_of rfl rfl rfl rfl) σ, fun _ _ _ => trivial⟩
      obtain ⟨fn', ps', f', fd', g1, g2, g3⟩ := hd y hy
      refine ⟨k, f', fd', ps', g2.at_, g2.kp, g2.bd, hr, fun ds' z => ?_, ?_⟩
      · obtain ⟨_, _, _, _, _, q, _⟩ := g2.ex
        rw [← q]
        exact callF_len g1 z
      · have : T.io y = fn'.io := by unfold Tab.io; rw [g1]
        rw [this]
        exact g3
    have po : PassesOwn (model X.prog X.w) X.A X.env X.xe := by subst hX; exact L2.passes_of rfl
    have body := allSs (fx := ioIx fn.io) (wf := wf) fn.body X _ _ _ chk ok po
    refine ⟨_, body, ?_⟩
    have eK : X.K = K := by subst hX; rfl
    have eM : X.mg = mg := by subst hX; rfl
    rw [eK, eM]
    have En := entry_ok E0 (nn := fn.nn) (by omega) (N := N) e2.symm
    refine ⟨Pp, Ao, _, En, ?_⟩
    have h3 : match (finish fn.io (execs (ioIx fn.io) T.io (callF T wf n) wf fn.body (startE fn.io ds fn.nn))) with
      | .ok z => ∀ v H', (if z.2.1 then ∃ p, v = .ref p ∧ H p = none ∧ CallOk K mg (plus Pp p) Ao H vs fn.io ds z.2.2 H' ∧ Own K mg (msk (Priv (plus Pp p) Ao) H') (H' p) z.1
          else CallOk K mg Pp Ao H vs fn.io ds z.2.2 H' ∧ Rep K mg (msk (Priv Pp Ao) H') z.1 v) → Q v H'
      | .exc z => ∀ H' cls od, CallOk K mg Pp Ao H vs fn.io ds z.2 H' → XRep K mg z.1 cls od H' → E cls od H'
      | .bad => False := by
      have : callF T wf (n + 1) x ds = finish fn.io (execs (ioIx fn.io) T.io (callF T wf n) wf fn.body (startE fn.io ds fn.nn)) := by
        show (match T.lookup x with | some f => if ds.length = f.np then finish f.io (execs (ioIx f.io) T.io (callF T wf n) wf f.body (startE f.io ds f.nn)) else .bad | none => .bad) = _
        rw [hf]
        simp only
        rw [if_pos (by rw [e1]; exact h2)]
      rw [this] at h3
      exact h3
    -- behind the body
    have inA : ∀ {σ' : L2.St} {H' : Hp} {env' : Env} {O' : Nat → Option Addr} {outs : List D}, PostS K mg (ioIx fn.io) (New H) Pp Ao H (startE fn.io ds fn.nn) H' σ' env' O' → outsOf env' fn.io 0 = some outs → ∀ i, fn.io.getD i false = true → i < ds.length → O' i = Ao i := fun {σ' H' env' O' outs} p ho i hi hl => by
      obtain ⟨d, q, _⟩ := outsOf_at (ds := ds) ho i hi hl
      rw [Nat.zero_add] at q
      exact (p.fix i (mem_ioIx hi) d (.inl q)).1
    have effA : ∀ {σ' : L2.St} {H' : Hp} {env' : Env} {O' : Nat → Option Addr}, PostS K mg (ioIx fn.io) (New H) Pp Ao H (startE fn.io ds fn.nn) H' σ' env' O' → Eff (ofIo Ao) H H' := fun p => p.eff.mono fun a ⟨i, _, _, e⟩ => ⟨i, e⟩
    generalize hx : execs (ioIx fn.io) T.io (callF T wf n) wf fn.body (startE fn.io ds fn.nn) = res at h3 ⊢
    cases res with
    | bad => exact h3
    | exc z =>
      obtain ⟨xn, env'⟩ := z
      intro H' σ' O' cls od p xr
      have p : PostS K mg (ioIx fn.io) (New H) Pp Ao H (startE fn.io ds fn.nn) H' σ' env' O' := p
      unfold finish at h3
      cases ho : outsOf env' fn.io 0 with
      | none => simp only [ho] at h3
      | some outs =>
        simp only [ho] at h3
        exact h3 H' cls od (exit_ok E0 (effA p) p.dom (fun a z => .inl z) p.ok ho (inA p ho)).2 xr
    | ok z =>
      obtain ⟨fl, env'⟩ := z
      intro H' σ' O' p
      have p : PostS K mg (ioIx fn.io) (New H) Pp Ao H (startE fn.io ds fn.nn) H' σ' env' O' := p
      unfold finish at h3
      cases ho : outsOf env' fn.io 0 with
      | none => simp only [ho] at h3
      | some outs =>
        simp only [ho] at h3
        obtain ⟨k1, co⟩ := exit_ok E0 (effA p) p.dom (fun a z => .inl z) p.ok ho (inA p ho)
        cases fl with
        | bk => exact h3.elim
        | ct => exact h3.elim
        | nx => exact h3 .non H' (by simp only [Bool.false_eq_true, if_false]; exact ⟨co, by simp only [Rep]⟩)
        | ret r =>
          intro v ro
          cases r with
          | val d => exact h3 v H' (by simp only [Bool.false_eq_true, if_false]; exact ⟨co, Rep.mono k1 ro⟩)
          | fr d =>
            obtain ⟨q, rfl, hq, E2, ow⟩ := ro
            obtain ⟨k2, co2⟩ := exit_ok E0 (effA p) p.dom (P' := plus Pp q) (fun a z => by
              rcases z with z | z
              · exact .inl z
              · subst z; exact .inr hq) E2 ho (inA p ho)
            exact h3 _ H' (by simp only [if_true]; exact ⟨q, rfl, hq, co2, ow.mono k2⟩)
          | own i =>
            have ro : σ'[i]? = some (some v) := ro
            cases hi : fn.io.getD i false with
            | true => simp only [hi, if_true] at h3
            | false =>
              simp only [hi, Bool.false_eq_true, if_false] at h3
              cases hs : env'[i]? with
              | none => simp only [hs] at h3
              | some s =>
                have z := p.ok.sl i s hs
                cases s with
                | un => simp only [hs] at h3
                | lk d => simp only [hs] at h3
                | sh d =>
                  simp only [hs] at h3
                  obtain ⟨_, u, y1, y2⟩ := z
                  rw [ro] at y1; cases y1
                  exact h3 v H' (by simp only [Bool.false_eq_true, if_false]; exact ⟨co, y2.mono k1⟩)
                | ow d =>
                  simp only [hs] at h3
                  obtain ⟨q, y1, y2, y3⟩ := z
                  rw [ro] at y2; cases y2
                  have hq : H q = none := by
                    rcases p.pv q (.inr ⟨i, y1⟩) with (z | ⟨j, z⟩) | z
                    · exact absurd z (p.ok.apart i q y1)
                    · -- it would be an open parameter's
                      exfalso
                      cases qj : (startE fn.io ds ds.length)[j]? with
                      | none => rw [E0.out j qj] at z; cases z
                      | some s =>
                        have hj : j < ds.length := by have := (List.getElem?_eq_some_iff.mp qj).1; rwa [startE_len] at this
                        cases hb : fn.io.getD j false with
                        | true =>
                          have e := inA p ho j hb hj
                          rw [z] at e
                          have := p.ok.inj j i q e y1
                          subst this
                          rw [hb] at hi; cases hi
                        | false =>
                          obtain ⟨n, _⟩ := E0.sl j (.sh ds[j]) (by rw [startE_at (List.getElem?_eq_getElem hj), hb]; rfl)
                          rw [n] at z; cases z
                    · exact z
                  have E2 := p.ok.toP y1
                  have nj : ∀ l, fn.io.getD l false = true → 0 + l ≠ i := fun l hl e => by
                    rw [Nat.zero_add] at e; subst e; rw [hl] at hi; cases hi
                  obtain ⟨k2, co2⟩ := exit_ok E0 (effA p) p.dom (P' := plus Pp q) (fun a z => by
                    rcases z with z | z
                    · exact .inl z
                    · subst z; exact .inr hq) E2 (outs := outs) (by rw [outsOf_set nj]; exact ho) (fun l hl hlt => by
                      rw [drop1_ne (fun e => nj l hl (by omega))]
                      exact inA p ho l hl hlt)
                  refine h3 _ H' ?_
                  simp only [if_true]
                  refine ⟨q, rfl, hq, co2, (y3.mono (msk_mono (fun a z => .inl ?_) fun a o _ e => e)).mono k2⟩
                  rcases z with (z | z) | ⟨l, z⟩
                  · exact .inl z
                  · subst z; exact .inr ⟨i, y1⟩
                  · exact .inr ⟨l, (drop1_some z).2⟩
/-- all defs of the text, at all levels -/
theorem defs_ok (hb : ∀ y ∈ bltNames, mg y = none) (hd : ∀ y ∈ dfs, ∃ (fn' : Fn) (ps' : List Str) (f' : Addr) (fd' : FuncData), T.lookup y = some fn' ∧ DefAt K mg dfs y fn' ps' f' fd') :
    ∀ (n : Nat) {x : Str} {fn : Fn} {ps : List Str} {f : Addr} {fd : FuncData}, T.lookup x = some fn → DefAt K mg dfs x fn ps f fd → FnOk P w K mg base (L2.CX P w) (n + 1) f fd ps (spF K mg fn.io ps.length (callF T wf n x))
  | 0, x, fn, ps, f, fd, hf, D => ⟨fun vs H Q E h => by obtain ⟨_, _, _, h, _⟩ := h; exact h, fun A outer s H args us vs Q E _ _ _ _ h => by obtain ⟨_, _, _, _, _, _, h⟩ := h; exact h.elim⟩
  | n + 1, x, fn, ps, f, fd, hf, D => def_ok hb (Nat.le_add_left 1 n) hf D fun y hy => by
    obtain ⟨fn', ps', f', fd', g1, g2⟩ := hd y hy
    exact ⟨fn', ps', f', fd', g1, g2, defs_ok hb hd n g1 g2⟩
end
end MP
end
section
set_option Elab.async false
set_option linter.all false
set_option maxRecDepth 100000
set_option maxHeartbeats 1000000
/-! MPY: the head's facts, the law's promise. -/
namespace MP
open PySem PySem.Spec PyProof.Rows L2

/-- a def of the text: its name, its place in the top, its slots' names, its parameters, its body -/
structure Row where
  x : Str
  i : Nat
  N : List Str
  ps : List Str
  fn : Fn
def dfsOf (rows : List Row) : List Str := rows.map (·.x)
def tabOf (rows : List Row) : Tab := rows.map fun r => (r.x, r.fn)
def rowOk (top : Nat → Stmt) (dfs : List Str) (r : Row) : Bool :=
  C8.scC r.N r.ps (defScope (top r.i)) && decide (r.fn.np = r.ps.length) && decide (r.fn.nn = r.N.length) && decide (r.ps.length ≤ r.N.length) && chkSs r.fn.body ⟨defScope (top r.i), fun _ => true, r.N, dfs⟩ (defBody (top r.i))
def rowD (top : Nat → Stmt) (r : Row) : He.DefD := ⟨(r.x, none), r.x, r.x, defArgs (top r.i), defBody (top r.i), defScope (top r.i), [], []⟩
def fnOf (top : Nat → Stmt) (rows : List Row) : List He.DefD := rows.map (rowD top)
def faOf (rows : List Row) : List He.Fa := rows.map (fun r => He.Fa.glo r.x) ++ bltNames.map He.Fa.free
def BindsRow (top : Nat → Stmt) (r : Row) : Prop := ∀ (kV doc pm : Value) (an : Option Addr) (cdv ct : Value) (us : List Value), us.length = r.ps.length → bindArgs (PySem.W.fnOf r.x r.x (defArgs (top r.i)) (defBody (top r.i)) (defScope (top r.i)) .none kV doc pm an cdv ct) ⟨us, []⟩ = pure (r.ps.zip us)
theorem fun_ofD {K : PySem.W.Frag} {x qual : Str} {st : Stmt} {f : Addr} {fd : FuncData} {kws : List (Str × V)} (F : FunD K x qual (defArgs st) (defBody st) (defScope st) [] kws f fd) : Fun K x qual st f fd := by
  obtain ⟨oc, od, dV, kV, doc, pm, an, cdv, ct, osl, e, l, c, hd, _⟩ := F.ex
  rcases hd with ⟨_, e2⟩ | ⟨e2, _⟩
  · subst e2
    exact ⟨⟨oc, od, kV, doc, pm, an, cdv, ct, osl, e, l, c⟩, F.kp⟩
  · exact absurd rfl e2
section
variable {K : PySem.W.Frag} {h : Heap} {mg : Str → Option Value} {top : Nat → Stmt} {rows : List Row}
theorem head_facts (X : K.In h) (G : h.Ns mainGlobals mg) (c : He.SaysD (faOf rows) (fnOf top rows) K) (ok : rows.all (rowOk top (dfsOf rows)) = true) (bd : ∀ r ∈ rows, BindsRow top r) :
    (∀ y ∈ bltNames, mg y = none) ∧ ∀ r ∈ rows, ∃ fd, DefAt K mg (dfsOf rows) r.x r.fn r.ps (He.ga K r.x) fd ∧ ∀ (s : Shared) (us : List Value), us.length = r.ps.length → BindsTo s fd ⟨us, []⟩ (r.ps.zip us) := by
  refine ⟨fun y hy => He.free_ok X G (c.facts (f := .free y) (List.mem_append_right _ (List.mem_map_of_mem hy))), fun r hr => ?_⟩
  obtain ⟨fd, F⟩ := c.defs (d := rowD top r) (List.mem_map_of_mem hr)
  have g := He.glo_ok X G (c.facts (f := .glo r.x) (List.mem_append_left _ (List.mem_map_of_mem (f := fun r : Row => He.Fa.glo r.x) hr)))
  have F : FunD K r.x r.x (defArgs (top r.i)) (defBody (top r.i)) (defScope (top r.i)) [] [] (He.ga K r.x) fd := F
  rw [List.all_eq_true] at ok
  have o := ok r hr
  unfold rowOk at o
  simp only [Bool.and_eq_true, decide_eq_true_eq] at o
  obtain ⟨⟨⟨⟨o1, o2⟩, o3⟩, o4⟩, o5⟩ := o
  exact ⟨fd, ⟨⟨r.x, top r.i, r.N, fun_ofD F, C8.fnScope_by o1, o2, o3, o4, o5⟩, g, F.kp, F.bindsN (bd r hr)⟩, F.bindsA (bd r hr)⟩
end
/-- what the law is to do: its evaluation on the script gives True -/
def spL (K : PySem.W.Frag) (T : Tab) (wf n : Nat) : Sp := fun vs H Q _ => ∃ (a : Addr) (ns : List Int), vs = [.ref a] ∧ SqL K H a (ns.map V.int) ∧ callF T wf n "law" [.fz (ns.map .int)] = .ok (.bl true, false, []) ∧ ∀ H', Q (.bl true) H'
theorem reps_ints {K : PySem.W.Frag} {mg : Str → Option Value} {H : Hp} : ∀ ns : List Int, Reps K mg H (ns.map D.int) (ns.map V.int)
  | [] => Reps.nil
  | n :: ns => Reps.cons (by simp only [Rep]) (reps_ints ns)
theorem msk_nil {H : Hp} : msk (Priv (fun _ => False) fun _ => none) H = H := by
  funext a
  exact msk_out fun z => by rcases z with z | ⟨i, z⟩ <;> first | exact z | cases z
theorem law_facts {P : Program} {w : World} {K : PySem.W.Frag} {h : Heap} {mg : Str → Option Value} {top : Nat → Stmt} {rows : List Row} (wf n : Nat) {f : Addr} (X : K.In h) (G : h.Ns mainGlobals mg) (hfa : mg ("law" : Str) = some (.ref f)) (c : He.SaysD (faOf rows) (fnOf top rows) K)
    (ok : rows.all (rowOk top (dfsOf rows)) = true) (bd : ∀ r ∈ rows, BindsRow top r) (tb : ∀ r ∈ rows, (tabOf rows).lookup r.x = some r.fn) {rL : Row} (hL : rL ∈ rows) (hx : rL.x = "law") (hp : rL.ps = (["script"] : List Str)) (hio : rL.fn.io = [false]) :
    ∃ fd : FuncData, (∀ (s : Shared) (v : Value), BindsTo s fd ⟨[v], []⟩ [("script", v)]) ∧ ∀ base : Heap, K.In base → base.Ns mainGlobals mg → FnOk P w K mg base (L2.CX P w) (n + 1) f fd ["script"] (spL K (tabOf rows) wf n) := by
  obtain ⟨hb, hd⟩ := head_facts X G c ok bd
  obtain ⟨fd, DA, bs⟩ := hd rL hL
  have e := hfa.symm.trans (hx ▸ DA.at_)
  cases e
  rw [hp] at bs
  refine ⟨fd, fun s v => bs s [v] rfl, fun base _ _ => ?_⟩
  have F := defs_ok (P := P) (w := w) (base := base) (wf := wf) (T := tabOf rows) hb (fun y hy => by
    obtain ⟨r, hr, rfl⟩ := List.mem_map.mp hy
    obtain ⟨fd', DA', _⟩ := hd r hr
    exact ⟨r.fn, r.ps, _, fd', tb r hr, DA'⟩) n (tb rL hL) DA
  rw [hp, hx] at F
  refine F.imp fun vs H Q E hs => ?_
  obtain ⟨a, ns, rfl, hS, hc, q⟩ := hs
  refine ⟨fun _ => False, fun _ => none, [.fz (ns.map .int)], rfl, rfl, ?_, ?_⟩
  · rw [hio]
    refine ⟨rfl, fun i s hi => ?_, fun _ _ => rfl, fun i j a h => (by cases h), fun i a h => (by cases h), fun a z => z.elim⟩
    cases i with
    | zero =>
      have : s = .sh (.fz (ns.map .int)) := by
        have hi : some (Slot.sh (.fz (ns.map .int))) = some s := hi
        cases hi; rfl
      subst this
      refine ⟨rfl, .ref a, rfl, ?_⟩
      rw [msk_nil]
      simp only [Rep]
      exact ⟨a, ns.map V.int, rfl, hS, reps_ints ns⟩
    | succ i =>
      have hi : (none : Option Slot) = some s := by simpa [startE] using hi
      cases hi
  · rw [hc]
    intro v H' hv
    simp only [Bool.false_eq_true, if_false, Rep] at hv
    rw [hv.2]
    exact q H'
/-- the end, with exceptions of one's own -/
theorem walk_end {l : PySem.W.OpenLaw} {m k : Nat} {q : Program} {loose : List Str} {XP : (Str → Option Value) → Heap → Prop} {YP : World → Heap → Prop} {d : DefRec} {CX : World → CXT} {x : Str}
    (hn : l.most = some m) (hn2 : m ≤ sizeLine) (hdf : d.params.defaults = []) (hr : Room k callerA)
    (F : ∀ (w : World) (mg : Str → Option Value) (fa : Addr) (h : Heap), YP w h → h.Ns mainGlobals mg → mg d.name = some (.ref fa) →
      ∃ (K : PySem.W.Frag) (fd : FuncData) (sp : Sp), K.In h ∧ (∀ (s : Shared) (u : Value), BindsTo s fd ⟨[u], []⟩ [(x, u)]) ∧
        (∀ (H : Hp) (a : Addr) (ns : List Int), ns.length ≤ m → Only H → SqL K H a (ns.map V.int) → sp [.ref a] H (fun v _ => v = .bl true) fun _ _ _ => False) ∧
        ∀ base : Heap, K.In base → base.Ns mainGlobals mg → FnOk l.prog w K mg base (CX w) k fa fd [x] sp)
    (hCX : ∀ (w : World) (H : Hp) (s : Shared) (e : Value) (s' : Shared), CX w [] H s (fun _ _ _ => False) e s' → False) :
    PySem.W.WalkO q loose XP YP l.row.toRowW d [] (fun f vs => PySem.call f vs) := by
  refine Att.attach_call hn hdf fun w s₀ s₁ mg mb fa o pm cd doc a vs ns G Y ho hd hcd hmg hobj hints hlen hg => ?_
  obtain ⟨K, fd, sp, KX, hb, hsp, hF⟩ := F w mg fa _ Y G.T.g hmg
  exact law_call KX G.T.g G.T.b G.T.builtins G.T.nolimit hg hobj hints (Nat.le_trans hlen hn2) hr hF hb (fun H hO hS => hsp H a ns hlen hO hS) fun H e s' => hCX w H s₁ e s'
theorem cx_none {P : Program} {w : World} (H : Hp) (s : Shared) (e : Value) (s' : Shared) (h : L2.CX P w [] H s (fun _ _ _ => False) e s') : False := by
  obtain ⟨_, _, _, _, _, _, _, _, _, _, _, _, z⟩ := h
  exact z
end MP
namespace MP
open PySem PySem.Spec PyProof.Rows L2
theorem lookup_rows : ∀ {rows : List Row}, (rows.map (·.x)).Nodup → ∀ {r : Row}, r ∈ rows → (tabOf rows).lookup r.x = some r.fn
  | [], _, r, h => by cases h
  | s :: rows, nd, r, h => by
    have nd := List.nodup_cons.mp (show (s.x :: rows.map (·.x)).Nodup from nd)
    show ((s.x, s.fn) :: tabOf rows).lookup r.x = some r.fn
    rw [List.lookup_cons]
    rcases List.mem_cons.mp h with rfl | h
    · simp
    · have ne : r.x ≠ s.x := fun e => nd.1 (e ▸ List.mem_map_of_mem h)
      have : (r.x == s.x) = false := by simpa using ne
      rw [this]
      exact lookup_rows nd.2 h
end MP
end
section
set_option Elab.async false
set_option linter.all false
set_option maxRecDepth 100000
set_option maxHeartbeats 0
/-! K00R: the law's defs in the small language. -/
namespace K00
open MP PySem PySem.Spec PyProof.Rows L2
def topS (i : Nat) : Stmt := PySem.Challenge.pw_sheafroads_k00_whole_integers_and_choice.main.body.getD i (.Pass ⟨0, 0, 0, 0⟩)
def ir_is_integer : Fn := { np := 1, nn := 1, io := [false], body := (.cons (.ret (.and (.blt .isi (.cons (.var 0) (.cons (.ty "int") .nil))) (.not (.blt .isi (.cons (.var 0) (.cons (.ty "bool") .nil)))))) .nil) }
def ir_is_row : Fn := { np := 1, nn := 2, io := [false], body := (.cons (.ret (.and (.blt .isi (.cons (.var 0) (.cons (.ty "tuple") .nil))) (.blt .all (.cons (.comp (.call "is_integer" (.cons (.var 1) .nil)) (.nm 1) (.seq (.var 0)) .no [1]) .nil)))) .nil) }
def ir_is_rising : Fn := { np := 2, nn := 5, io := [false, false], body := (.cons (.ite (.or (.not (.call "is_row" (.cons (.var 0) .nil))) (.not (.blt .all (.cons (.comp (.chain .le .lt (.int 0) (.var 2) (.var 1)) (.nm 2) (.seq (.var 0)) .no [2]) .nil)))) (.cons (.ret (.bl false)) .nil) .nil) (.cons (.ret (.blt .all (.cons (.comp (.cmp .lt (.var 3) (.var 4)) (.tup (.cons (.nm 3) (.cons (.nm 4) .nil))) (.zip (.var 0) (.sl (.var 0) (.yes (.int 1)) .no)) .no [3, 4]) .nil))) .nil)) }
def ir_common : Fn := { np := 2, nn := 2, io := [false, false], body := (.cons (.par 0 1 (.blt .abs (.cons (.var 0) .nil)) (.blt .abs (.cons (.var 1) .nil))) (.cons (.whil (.cmp .ne (.var 1) (.int 0)) (.cons (.par 0 1 (.var 1) (.bin .mod (.var 0) (.var 1))) .nil)) (.cons (.ret (.var 0)) .nil))) }
def ir_common_of : Fn := { np := 1, nn := 3, io := [false], body := (.cons (.asg (.nm 1) (.int 0)) (.cons (.loop (.nm 2) (.seq (.var 0)) (.cons (.asg (.nm 1) (.call "common" (.cons (.var 1) (.cons (.var 2) .nil)))) .nil)) (.cons (.ret (.var 1)) .nil))) }
def ir_choose : Fn := { np := 2, nn := 4, io := [false, false], body := (.cons (.ite (.or (.cmp .lt (.var 1) (.int 0)) (.cmp .gt (.var 1) (.var 0))) (.cons (.ret (.int 0)) .nil) .nil) (.cons (.asg (.nm 2) (.int 1)) (.cons (.loop (.nm 3) (.rng1 (.var 1)) (.cons (.asg (.nm 2) (.bin .fdiv (.bin .mul (.var 2) (.bin .sub (.var 0) (.var 3))) (.bin .add (.var 3) (.int 1)))) .nil)) (.cons (.ret (.var 2)) .nil)))) }
def ir_choices_of : Fn := { np := 2, nn := 8, io := [false, false], body := (.cons (.asg (.nm 2) (.lst (.cons (.tup .nil) .nil))) (.cons (.loop (.nm 3) (.rng1 (.var 1)) (.cons (.asg (.nm 4) (.lst .nil)) (.cons (.loop (.nm 5) (.seq (.var 2)) (.cons (.asg (.nm 6) (.ite (.cmp .gt (.blt .len (.cons (.var 5) .nil)) (.int 0)) (.bin .add (.ix (.var 5) (.neg (.int 1))) (.int 1)) (.int 0))) (.cons (.expr (.mt .extend 4 (.cons (.comp (.bin .add (.var 5) (.tup (.cons (.var 7) .nil))) (.nm 7) (.rng2 (.var 6) (.var 0)) .no [7]) .nil))) .nil))) (.cons (.asg (.nm 2) (.var 4)) .nil)))) (.cons (.ret (.var 2)) .nil))) }
def ir_subsets_of : Fn := { np := 1, nn := 5, io := [false], body := (.cons (.asg (.nm 1) (.lst .nil)) (.cons (.loop (.nm 2) (.rng1 (.bin .add (.blt .len (.cons (.var 0) .nil)) (.int 1))) (.cons (.expr (.mt .extend 1 (.cons (.comp (.blt .tuple (.cons (.comp (.ix (.var 0) (.var 3)) (.nm 3) (.seq (.var 4)) .no [3]) .nil)) (.nm 4) (.seq (.call "choices_of" (.cons (.blt .len (.cons (.var 0) .nil)) (.cons (.var 2) .nil)))) .no [4]) .nil))) .nil)) (.cons (.ret (.var 1)) .nil))) }
def ir_orders_of : Fn := { np := 1, nn := 6, io := [false], body := (.cons (.asg (.nm 1) (.lst (.cons (.tup .nil) .nil))) (.cons (.loop (.nm 2) (.rng1 (.var 0)) (.cons (.asg (.nm 3) (.lst .nil)) (.cons (.loop (.nm 4) (.seq (.var 1)) (.cons (.expr (.mt .extend 3 (.cons (.comp (.bin .add (.var 4) (.tup (.cons (.var 5) .nil))) (.nm 5) (.rng1 (.var 0)) (.yes (.cmp .notin (.var 5) (.var 4))) [5]) .nil))) .nil)) (.cons (.asg (.nm 1) (.var 3)) .nil)))) (.cons (.ret (.var 1)) .nil))) }
def ir_put_in_order : Fn := { np := 1, nn := 7, io := [false], body := (.cons (.par 1 2 (.blt .list (.cons (.var 0) .nil)) (.int 1)) (.cons (.loop (.nm 3) (.rng1 (.blt .len (.cons (.var 1) .nil))) (.cons (.loop (.nm 4) (.rng1 (.bin .sub (.bin .sub (.blt .len (.cons (.var 1) .nil)) (.int 1)) (.var 3))) (.cons (.ite (.cmp .gt (.ix (.var 1) (.var 4)) (.ix (.var 1) (.bin .add (.var 4) (.int 1)))) (.cons (.asg (.tup (.cons (.ix 1 (.var 4)) (.cons (.ix 1 (.bin .add (.var 4) (.int 1))) .nil))) (.tup (.cons (.ix (.var 1) (.bin .add (.var 4) (.int 1))) (.cons (.ix (.var 1) (.var 4)) .nil)))) (.cons (.asg (.nm 2) (.neg (.var 2))) .nil)) .nil) .nil)) .nil)) (.cons (.ret (.tup (.cons (.blt .tuple (.cons (.var 1) .nil)) (.cons (.ite (.blt .any (.cons (.comp (.cmp .eq (.var 5) (.var 6)) (.tup (.cons (.nm 5) (.cons (.nm 6) .nil))) (.zip (.var 1) (.sl (.var 1) (.yes (.int 1)) .no)) .no [5, 6]) .nil)) (.int 0) (.var 2)) .nil)))) .nil))) }
def ir_sign_power : Fn := { np := 1, nn := 1, io := [false], body := (.cons (.ret (.ite (.cmp .eq (.bin .mod (.var 0) (.int 2)) (.int 0)) (.int 1) (.neg (.int 1)))) .nil) }
def ir_trimmed : Fn := { np := 1, nn := 2, io := [false], body := (.cons (.asg (.nm 1) (.blt .list (.cons (.var 0) .nil))) (.cons (.whil (.and (.cmp .gt (.blt .len (.cons (.var 1) .nil)) (.int 0)) (.cmp .eq (.ix (.var 1) (.neg (.int 1))) (.int 0))) (.cons (.expr (.mt .pop 1 .nil)) .nil)) (.cons (.ret (.blt .tuple (.cons (.var 1) .nil))) .nil))) }
def ir_law_state : Fn := { np := 1, nn := 4, io := [false], body := (.cons (.asg (.nm 1) (.int 0)) (.cons (.asg (.nm 2) (.int 1)) (.cons (.loop (.nm 3) (.seq (.sl (.var 0) .no (.yes (.int 63)))) (.cons (.asg (.nm 1) (.bin .add (.bin .mul (.var 1) (.int 1000003)) (.blt .abs (.cons (.var 3) .nil)))) (.cons (.asg (.nm 2) (.bin .mod (.blt .int (.cons (.bin .add (.bin .mul (.var 2) (.int 48271)) (.var 3)) .nil)) (.int 2147483647))) .nil))) (.cons (.ret (.lst (.cons (.var 1) (.cons (.ite (.cmp .ne (.var 2) (.int 1973665155)) (.var 2) (.int 7)) .nil)))) .nil)))) }
def ir_law_take : Fn := { np := 2, nn := 3, io := [true, false], body := (.cons (.ite (.cmp .gt (.ix (.var 0) (.int 0)) (.int 0)) (.cons (.asg (.nm 2) (.bin .mod (.blt .int (.cons (.ix (.var 0) (.int 0)) .nil)) (.var 1))) (.cons (.asg (.ix 0 (.int 0)) (.bin .fdiv (.ix (.var 0) (.int 0)) (.var 1))) (.cons (.ret (.var 2)) .nil))) .nil) (.cons (.asg (.ix 0 (.int 1)) (.bin .mod (.blt .int (.cons (.bin .add (.bin .mul (.ix (.var 0) (.int 1)) (.int 48271)) (.int 11)) .nil)) (.int 2147483647))) (.cons (.ret (.bin .mod (.blt .int (.cons (.bin .fdiv (.ix (.var 0) (.int 1)) (.int 7)) .nil)) (.var 1))) .nil))) }
def ir_law_says : Fn := { np := 2, nn := 2, io := [false, false], body := (.cons (.ret (.and (.blt .isi (.cons (.var 0) (.cons (.ty "bool") .nil))) (.cmp .eq (.var 0) (.var 1)))) .nil) }
def ir_law_is_whole : Fn := { np := 1, nn := 1, io := [false], body := (.cons (.ret (.and (.blt .isi (.cons (.var 0) (.cons (.ty "int") .nil))) (.not (.blt .isi (.cons (.var 0) (.cons (.ty "bool") .nil)))))) .nil) }
def ir_law_same : Fn := { np := 2, nn := 3, io := [false, false], body := (.cons (.ite (.blt .isi (.cons (.var 1) (.cons (.ty "bool") .nil))) (.cons (.ret (.and (.blt .isi (.cons (.var 0) (.cons (.ty "bool") .nil))) (.cmp .eq (.var 0) (.var 1)))) .nil) .nil) (.cons (.ite (.blt .isi (.cons (.var 1) (.cons (.ty "tuple") .nil))) (.cons (.ret (.and (.blt .isi (.cons (.var 0) (.cons (.ty "tuple") .nil))) (.and (.cmp .eq (.blt .len (.cons (.var 0) .nil)) (.blt .len (.cons (.var 1) .nil))) (.blt .all (.cons (.comp (.call "_law_same" (.cons (.ix (.var 0) (.var 2)) (.cons (.ix (.var 1) (.var 2)) .nil))) (.nm 2) (.rng1 (.blt .len (.cons (.var 1) .nil))) .no [2]) .nil))))) .nil) .nil) (.cons (.ite (.blt .isi (.cons (.var 1) (.cons (.ty "list") .nil))) (.cons (.ret (.and (.blt .isi (.cons (.var 0) (.cons (.ty "tuple") .nil))) (.call "_law_same" (.cons (.var 0) (.cons (.blt .tuple (.cons (.var 1) .nil)) .nil))))) .nil) .nil) (.cons (.ite (.blt .isi (.cons (.var 1) (.cons (.ty "str") .nil))) (.cons (.ret (.and (.blt .isi (.cons (.var 0) (.cons (.ty "str") .nil))) (.cmp .eq (.var 0) (.var 1)))) .nil) .nil) (.cons (.ite (.cmp .isN (.var 1) .non) (.cons (.ret (.cmp .isN (.var 0) .non)) .nil) .nil) (.cons (.ret (.and (.call "_law_is_whole" (.cons (.var 0) .nil)) (.cmp .eq (.var 0) (.var 1)))) .nil)))))) }
def ir_law_number : Fn := { np := 1, nn := 1, io := [true], body := (.cons (.ret (.bin .sub (.call "_law_take" (.cons (.var 0) (.cons (.int 7) .nil))) (.int 3))) .nil) }
def ir_law_row : Fn := { np := 2, nn := 3, io := [true, false], body := (.cons (.ret (.blt .tuple (.cons (.comp (.call "_law_number" (.cons (.var 0) .nil)) (.nm 2) (.rng1 (.var 1)) .no [2]) .nil))) .nil) }
def ir_law_choices : Fn := { np := 2, nn := 7, io := [false, false], body := (.cons (.asg (.nm 2) (.lst (.cons (.tup .nil) .nil))) (.cons (.loop (.nm 3) (.rng1 (.var 1)) (.cons (.asg (.nm 4) (.lst .nil)) (.cons (.loop (.nm 5) (.seq (.var 2)) (.cons (.asg (.nm 4) (.bin .add (.var 4) (.comp (.bin .add (.var 5) (.tup (.cons (.var 6) .nil))) (.nm 6) (.rng2 (.ite (.cmp .gt (.blt .len (.cons (.var 5) .nil)) (.int 0)) (.bin .add (.ix (.var 5) (.neg (.int 1))) (.int 1)) (.int 0)) (.var 0)) .no [6]))) .nil)) (.cons (.asg (.nm 2) (.var 4)) .nil)))) (.cons (.ret (.var 2)) .nil))) }
def ir_law_orders : Fn := { np := 1, nn := 6, io := [false], body := (.cons (.asg (.nm 1) (.lst (.cons (.tup .nil) .nil))) (.cons (.loop (.nm 2) (.rng1 (.var 0)) (.cons (.asg (.nm 3) (.lst .nil)) (.cons (.loop (.nm 4) (.seq (.var 1)) (.cons (.asg (.nm 3) (.bin .add (.var 3) (.comp (.bin .add (.var 4) (.tup (.cons (.var 5) .nil))) (.nm 5) (.rng1 (.var 0)) (.yes (.cmp .notin (.var 5) (.var 4))) [5]))) .nil)) (.cons (.asg (.nm 1) (.var 3)) .nil)))) (.cons (.ret (.var 1)) .nil))) }
def ir_law : Fn := { np := 1, nn := 30, io := [false], body := (.cons (.asg (.nm 1) (.call "_law_state" (.cons (.var 0) .nil))) (.cons (.asg (.tup (.cons (.nm 2) (.cons (.nm 3) .nil))) (.tup (.cons (.bin .sub (.call "_law_take" (.cons (.var 1) (.cons (.int 2001) .nil))) (.int 1000)) (.cons (.bin .sub (.call "_law_take" (.cons (.var 1) (.cons (.int 2001) .nil))) (.int 1000)) .nil)))) (.cons (.asg (.nm 4) (.comp (.var 5) (.nm 5) (.rng2 (.int 1) (.bin .add (.blt .max (.cons (.blt .abs (.cons (.var 2) .nil)) (.cons (.blt .abs (.cons (.var 3) .nil)) (.cons (.int 1) .nil)))) (.int 1))) (.yes (.and (.cmp .eq (.bin .mod (.blt .int (.cons (.var 2) .nil)) (.var 5)) (.int 0)) (.cmp .eq (.bin .mod (.blt .int (.cons (.var 3) .nil)) (.var 5)) (.int 0)))) [5])) (.cons (.ite (.or (.not (.call "_law_same" (.cons (.call "common" (.cons (.var 2) (.cons (.var 3) .nil))) (.cons (.ite (.and (.cmp .eq (.var 2) (.int 0)) (.cmp .eq (.var 3) (.int 0))) (.int 0) (.blt .max (.cons (.var 4) .nil))) .nil)))) (.not (.call "_law_same" (.cons (.call "common" (.cons (.int 0) (.cons (.var 3) .nil))) (.cons (.blt .abs (.cons (.var 3) .nil)) .nil))))) (.cons (.ret (.bl false)) .nil) .nil) (.cons (.asg (.nm 6) (.blt .tuple (.cons (.comp (.bin .mul (.int 12) (.call "_law_number" (.cons (.var 1) .nil))) (.nm 7) (.rng1 (.call "_law_take" (.cons (.var 1) (.cons (.int 4) .nil)))) .no [7]) .nil))) (.cons (.asg (.nm 8) (.comp (.var 5) (.nm 5) (.rng2 (.int 1) (.int 40)) (.yes (.blt .all (.cons (.comp (.cmp .eq (.bin .mod (.blt .int (.cons (.var 9) .nil)) (.var 5)) (.int 0)) (.nm 9) (.seq (.var 6)) .no [9]) .nil))) [5])) (.cons (.ite (.not (.call "_law_same" (.cons (.call "common_of" (.cons (.var 6) .nil)) (.cons (.ite (.blt .any (.cons (.comp (.cmp .ne (.var 9) (.int 0)) (.nm 9) (.seq (.var 6)) .no [9]) .nil)) (.blt .max (.cons (.var 8) .nil)) (.int 0)) .nil)))) (.cons (.ret (.bl false)) .nil) .nil) (.cons (.asg (.tup (.cons (.nm 10) (.cons (.nm 7) .nil))) (.tup (.cons (.call "_law_take" (.cons (.var 1) (.cons (.int 7) .nil))) (.cons (.call "_law_take" (.cons (.var 1) (.cons (.int 8) .nil))) .nil)))) (.cons (.asg (.nm 11) (.call "choices_of" (.cons (.var 10) (.cons (.var 7) .nil)))) (.cons (.ite (.or (.not (.blt .isi (.cons (.var 11) (.cons (.ty "list") .nil)))) (.or (.not (.call "_law_same" (.cons (.blt .tuple (.cons (.var 11) .nil)) (.cons (.blt .tuple (.cons (.call "_law_choices" (.cons (.var 10) (.cons (.var 7) .nil))) .nil)) .nil)))) (.or (.not (.call "_law_same" (.cons (.call "choose" (.cons (.var 10) (.cons (.var 7) .nil))) (.cons (.blt .len (.cons (.var 11) .nil)) .nil)))) (.not (.call "_law_same" (.cons (.call "choose" (.cons (.var 10) (.cons (.neg (.int 1)) .nil))) (.cons (.int 0) .nil))))))) (.cons (.ret (.bl false)) .nil) .nil) (.cons (.asg (.nm 12) (.blt .tuple (.cons (.blt .sorted (.cons (.comp (.bin .add (.bin .mul (.int 3) (.var 13)) (.call "_law_take" (.cons (.var 1) (.cons (.int 3) .nil)))) (.nm 13) (.rng1 (.call "_law_take" (.cons (.var 1) (.cons (.int 5) .nil)))) .no [13]) .nil)) .nil))) (.cons (.asg (.nm 14) (.lst .nil)) (.cons (.loop (.nm 15) (.rng1 (.bin .add (.blt .len (.cons (.var 12) .nil)) (.int 1))) (.cons (.asg (.nm 14) (.bin .add (.var 14) (.comp (.blt .tuple (.cons (.comp (.ix (.var 12) (.var 13)) (.nm 13) (.seq (.var 16)) .no [13]) .nil)) (.nm 16) (.seq (.call "_law_choices" (.cons (.blt .len (.cons (.var 12) .nil)) (.cons (.var 15) .nil)))) .no [16]))) .nil)) (.cons (.asg (.nm 11) (.call "subsets_of" (.cons (.var 12) .nil))) (.cons (.ite (.or (.not (.blt .isi (.cons (.var 11) (.cons (.ty "list") .nil)))) (.not (.call "_law_same" (.cons (.blt .tuple (.cons (.var 11) .nil)) (.cons (.blt .tuple (.cons (.var 14) .nil)) .nil))))) (.cons (.ret (.bl false)) .nil) .nil) (.cons (.asg (.nm 17) (.call "_law_take" (.cons (.var 1) (.cons (.int 5) .nil)))) (.cons (.asg (.nm 11) (.call "orders_of" (.cons (.var 17) .nil))) (.cons (.ite (.or (.not (.blt .isi (.cons (.var 11) (.cons (.ty "list") .nil)))) (.not (.call "_law_same" (.cons (.blt .tuple (.cons (.var 11) .nil)) (.cons (.blt .tuple (.cons (.call "_law_orders" (.cons (.var 17) .nil)) .nil)) .nil))))) (.cons (.ret (.bl false)) .nil) .nil) (.cons (.asg (.nm 18) (.blt .tupleF (.cons (.comp (.call "_law_take" (.cons (.var 1) (.cons (.int 7) .nil))) (.nm 13) (.rng1 (.call "_law_take" (.cons (.var 1) (.cons (.int 6) .nil)))) .no [13]) .nil))) (.cons (.asg (.nm 19) (.blt .sum (.cons (.comp (.blt .len (.cons (.comp (.var 20) (.nm 20) (.rng1 (.var 21)) (.yes (.cmp .gt (.ix (.var 18) (.var 20)) (.ix (.var 18) (.var 21)))) [20]) .nil)) (.nm 21) (.rng1 (.blt .len (.cons (.var 18) .nil))) .no [21]) .nil))) (.cons (.asg (.nm 22) (.ite (.blt .any (.cons (.comp (.cmp .gt (.pm .count (.var 18) (.cons (.var 9) .nil)) (.int 1)) (.nm 9) (.seq (.var 18)) .no [9]) .nil)) (.int 0) (.ite (.cmp .eq (.bin .mod (.var 19) (.int 2)) (.int 0)) (.int 1) (.neg (.int 1))))) (.cons (.ite (.or (.not (.call "_law_same" (.cons (.call "put_in_order" (.cons (.var 18) .nil)) (.cons (.tup (.cons (.blt .tuple (.cons (.blt .sorted (.cons (.var 18) .nil)) .nil)) (.cons (.var 22) .nil))) .nil)))) (.not (.call "_law_same" (.cons (.call "sign_power" (.cons (.var 7) .nil)) (.cons (.ite (.cmp .eq (.bin .mod (.var 7) (.int 2)) (.int 0)) (.int 1) (.neg (.int 1))) .nil))))) (.cons (.ret (.bl false)) .nil) .nil) (.cons (.asg (.nm 23) (.bin .add (.call "_law_row" (.cons (.var 1) (.cons (.int 3) .nil))) (.bin .mul (.tup (.cons (.int 0) .nil)) (.call "_law_take" (.cons (.var 1) (.cons (.int 4) .nil)))))) (.cons (.asg (.nm 24) (.comp (.var 25) (.nm 25) (.rng1 (.blt .len (.cons (.var 23) .nil))) (.yes (.cmp .ne (.ix (.var 23) (.var 25)) (.int 0))) [25])) (.cons (.ite (.not (.call "_law_same" (.cons (.call "trimmed" (.cons (.var 23) .nil)) (.cons (.ite (.cmp .gt (.blt .len (.cons (.var 24) .nil)) (.int 0)) (.sl (.var 23) .no (.yes (.bin .add (.ix (.var 24) (.neg (.int 1))) (.int 1)))) (.tup .nil)) .nil)))) (.cons (.ret (.bl false)) .nil) .nil) (.cons (.loop (.nm 26) (.seq (.lst (.cons (.var 2) (.cons (.bl true) (.cons .non (.cons (.str "1") (.cons (.tup (.cons (.int 1) .nil)) (.cons (.lst (.cons (.int 1) .nil)) (.cons (.tup .nil) (.cons (.tup (.cons (.bl true) .nil)) (.cons (.tup (.cons (.int 0) (.cons (.int 2) .nil))) (.cons (.tup (.cons (.int 2) (.cons (.int 0) .nil))) (.cons (.tup (.cons (.int 0) (.cons (.int 0) .nil))) (.cons (.tup (.cons (.int 0) (.cons (.var 10) .nil))) (.cons (.tup (.cons (.neg (.int 1)) (.cons (.int 2) .nil))) (.cons (.tup (.cons (.tup (.cons (.int 1) .nil)) .nil)) (.cons (.tup (.cons (.int 1) (.cons (.str "2") .nil))) .nil))))))))))))))))) (.cons (.asg (.nm 27) (.and (.blt .isi (.cons (.var 26) (.cons (.ty "int") .nil))) (.not (.blt .isi (.cons (.var 26) (.cons (.ty "bool") .nil)))))) (.cons (.asg (.nm 28) (.and (.blt .isi (.cons (.var 26) (.cons (.ty "tuple") .nil))) (.blt .all (.cons (.comp (.and (.blt .isi (.cons (.var 9) (.cons (.ty "int") .nil))) (.not (.blt .isi (.cons (.var 9) (.cons (.ty "bool") .nil))))) (.nm 9) (.seq (.var 26)) .no [9]) .nil)))) (.cons (.asg (.nm 29) (.and (.var 28) (.and (.blt .all (.cons (.comp (.chain .le .lt (.int 0) (.var 9) (.var 10)) (.nm 9) (.seq (.var 26)) .no [9]) .nil)) (.blt .all (.cons (.comp (.cmp .lt (.ix (.var 26) (.var 25)) (.ix (.var 26) (.bin .add (.var 25) (.int 1)))) (.nm 25) (.rng1 (.bin .sub (.blt .len (.cons (.var 26) .nil)) (.int 1))) .no [25]) .nil))))) (.cons (.ite (.or (.not (.call "_law_says" (.cons (.call "is_integer" (.cons (.var 26) .nil)) (.cons (.var 27) .nil)))) (.or (.not (.call "_law_says" (.cons (.call "is_row" (.cons (.var 26) .nil)) (.cons (.var 28) .nil)))) (.not (.call "_law_says" (.cons (.call "is_rising" (.cons (.var 26) (.cons (.var 10) .nil))) (.cons (.var 29) .nil)))))) (.cons (.ret (.bl false)) .nil) .nil) .nil))))) (.cons (.ret (.bl true)) .nil))))))))))))))))))))))))))) }
def r_is_integer : MP.Row := ⟨"is_integer", 1, [("value" : Str)], [("value" : Str)], ir_is_integer⟩
def r_is_row : MP.Row := ⟨"is_row", 2, [("value" : Str), ("c" : Str)], [("value" : Str)], ir_is_row⟩
def r_is_rising : MP.Row := ⟨"is_rising", 3, [("value" : Str), ("size" : Str), ("x" : Str), ("a" : Str), ("b" : Str)], [("value" : Str), ("size" : Str)], ir_is_rising⟩
def r_common : MP.Row := ⟨"common", 4, [("a" : Str), ("b" : Str)], [("a" : Str), ("b" : Str)], ir_common⟩
def r_common_of : MP.Row := ⟨"common_of", 5, [("row" : Str), ("found" : Str), ("c" : Str)], [("row" : Str)], ir_common_of⟩
def r_choose : MP.Row := ⟨"choose", 6, [("n" : Str), ("k" : Str), ("found" : Str), ("i" : Str)], [("n" : Str), ("k" : Str)], ir_choose⟩
def r_choices_of : MP.Row := ⟨"choices_of", 7, [("n" : Str), ("k" : Str), ("found" : Str), ("_" : Str), ("longer" : Str), ("own" : Str), ("low" : Str), ("x" : Str)], [("n" : Str), ("k" : Str)], ir_choices_of⟩
def r_subsets_of : MP.Row := ⟨"subsets_of", 8, [("items" : Str), ("found" : Str), ("k" : Str), ("x" : Str), ("own" : Str)], [("items" : Str)], ir_subsets_of⟩
def r_orders_of : MP.Row := ⟨"orders_of", 9, [("n" : Str), ("found" : Str), ("_" : Str), ("longer" : Str), ("own" : Str), ("x" : Str)], [("n" : Str)], ir_orders_of⟩
def r_put_in_order : MP.Row := ⟨"put_in_order", 10, [("row" : Str), ("own" : Str), ("sign" : Str), ("i" : Str), ("j" : Str), ("a" : Str), ("b" : Str)], [("row" : Str)], ir_put_in_order⟩
def r_sign_power : MP.Row := ⟨"sign_power", 11, [("k" : Str)], [("k" : Str)], ir_sign_power⟩
def r_trimmed : MP.Row := ⟨"trimmed", 12, [("row" : Str), ("found" : Str)], [("row" : Str)], ir_trimmed⟩
def r_law_state : MP.Row := ⟨"_law_state", 14, [("script" : Str), ("seed" : Str), ("total" : Str), ("cell" : Str)], [("script" : Str)], ir_law_state⟩
def r_law_take : MP.Row := ⟨"_law_take", 15, [("state" : Str), ("m" : Str), ("value" : Str)], [("state" : Str), ("m" : Str)], ir_law_take⟩
def r_law_says : MP.Row := ⟨"_law_says", 16, [("value" : Str), ("due" : Str)], [("value" : Str), ("due" : Str)], ir_law_says⟩
def r_law_is_whole : MP.Row := ⟨"_law_is_whole", 17, [("value" : Str)], [("value" : Str)], ir_law_is_whole⟩
def r_law_same : MP.Row := ⟨"_law_same", 18, [("one" : Str), ("two" : Str), ("k" : Str)], [("one" : Str), ("two" : Str)], ir_law_same⟩
def r_law_number : MP.Row := ⟨"_law_number", 19, [("state" : Str)], [("state" : Str)], ir_law_number⟩
def r_law_row : MP.Row := ⟨"_law_row", 20, [("state" : Str), ("n" : Str), ("k" : Str)], [("state" : Str), ("n" : Str)], ir_law_row⟩
def r_law_choices : MP.Row := ⟨"_law_choices", 21, [("n" : Str), ("k" : Str), ("found" : Str), ("t" : Str), ("longer" : Str), ("own" : Str), ("x" : Str)], [("n" : Str), ("k" : Str)], ir_law_choices⟩
def r_law_orders : MP.Row := ⟨"_law_orders", 22, [("n" : Str), ("found" : Str), ("t" : Str), ("longer" : Str), ("own" : Str), ("x" : Str)], [("n" : Str)], ir_law_orders⟩
def r_law : MP.Row := ⟨"law", 23, [("script" : Str), ("state" : Str), ("a" : Str), ("b" : Str), ("both" : Str), ("d" : Str), ("row" : Str), ("k" : Str), ("shares" : Str), ("c" : Str), ("n" : Str), ("told" : Str), ("items" : Str), ("x" : Str), ("due" : Str), ("size" : Str), ("own" : Str), ("m" : Str), ("line" : Str), ("falls" : Str), ("j" : Str), ("i" : Str), ("sign" : Str), ("low" : Str), ("last" : Str), ("t" : Str), ("value" : Str), ("whole" : Str), ("plain" : Str), ("rising" : Str)], [("script" : Str)], ir_law⟩
def rows_0 : List MP.Row := [r_is_integer, r_is_row, r_is_rising, r_common, r_common_of, r_choose, r_choices_of, r_subsets_of, r_orders_of, r_put_in_order, r_sign_power, r_trimmed, r_law_state, r_law_take, r_law_says, r_law_is_whole, r_law_same, r_law_number, r_law_row, r_law_choices, r_law_orders, r_law]
def rows : List MP.Row := rows_0
def topNames_0 : List Str := [("_law_choices" : Str), ("_law_is_whole" : Str), ("_law_number" : Str), ("_law_orders" : Str), ("_law_row" : Str), ("_law_same" : Str), ("_law_says" : Str), ("_law_state" : Str), ("_law_take" : Str), ("choices_of" : Str), ("choose" : Str), ("common" : Str), ("common_of" : Str), ("is_integer" : Str), ("is_rising" : Str), ("is_row" : Str), ("orders_of" : Str), ("put_in_order" : Str), ("sign_power" : Str), ("subsets_of" : Str), ("trimmed" : Str)]
def topNames : List Str := topNames_0
def lawAt : Nat := 23
theorem b_is_integer : BindsRow topS r_is_integer := fun _ _ _ _ _ _ us hl => match us, hl with | [_], _ => rfl
theorem b_is_row : BindsRow topS r_is_row := fun _ _ _ _ _ _ us hl => match us, hl with | [_], _ => rfl
theorem b_is_rising : BindsRow topS r_is_rising := fun _ _ _ _ _ _ us hl => match us, hl with | [_, _], _ => rfl
theorem b_common : BindsRow topS r_common := fun _ _ _ _ _ _ us hl => match us, hl with | [_, _], _ => rfl
theorem b_common_of : BindsRow topS r_common_of := fun _ _ _ _ _ _ us hl => match us, hl with | [_], _ => rfl
theorem b_choose : BindsRow topS r_choose := fun _ _ _ _ _ _ us hl => match us, hl with | [_, _], _ => rfl
theorem b_choices_of : BindsRow topS r_choices_of := fun _ _ _ _ _ _ us hl => match us, hl with | [_, _], _ => rfl
theorem b_subsets_of : BindsRow topS r_subsets_of := fun _ _ _ _ _ _ us hl => match us, hl with | [_], _ => rfl
theorem b_orders_of : BindsRow topS r_orders_of := fun _ _ _ _ _ _ us hl => match us, hl with | [_], _ => rfl
theorem b_put_in_order : BindsRow topS r_put_in_order := fun _ _ _ _ _ _ us hl => match us, hl with | [_], _ => rfl
theorem b_sign_power : BindsRow topS r_sign_power := fun _ _ _ _ _ _ us hl => match us, hl with | [_], _ => rfl
theorem b_trimmed : BindsRow topS r_trimmed := fun _ _ _ _ _ _ us hl => match us, hl with | [_], _ => rfl
theorem b_law_state : BindsRow topS r_law_state := fun _ _ _ _ _ _ us hl => match us, hl with | [_], _ => rfl
theorem b_law_take : BindsRow topS r_law_take := fun _ _ _ _ _ _ us hl => match us, hl with | [_, _], _ => rfl
theorem b_law_says : BindsRow topS r_law_says := fun _ _ _ _ _ _ us hl => match us, hl with | [_, _], _ => rfl
theorem b_law_is_whole : BindsRow topS r_law_is_whole := fun _ _ _ _ _ _ us hl => match us, hl with | [_], _ => rfl
theorem b_law_same : BindsRow topS r_law_same := fun _ _ _ _ _ _ us hl => match us, hl with | [_, _], _ => rfl
theorem b_law_number : BindsRow topS r_law_number := fun _ _ _ _ _ _ us hl => match us, hl with | [_], _ => rfl
theorem b_law_row : BindsRow topS r_law_row := fun _ _ _ _ _ _ us hl => match us, hl with | [_, _], _ => rfl
theorem b_law_choices : BindsRow topS r_law_choices := fun _ _ _ _ _ _ us hl => match us, hl with | [_, _], _ => rfl
theorem b_law_orders : BindsRow topS r_law_orders := fun _ _ _ _ _ _ us hl => match us, hl with | [_], _ => rfl
theorem b_law : BindsRow topS r_law := fun _ _ _ _ _ _ us hl => match us, hl with | [_], _ => rfl
def tab : Tab := tabOf rows
theorem rows_ok : rows.all (rowOk topS (dfsOf rows)) = true := by decide +kernel
theorem tab_ok : ∀ r ∈ rows, (tabOf rows).lookup r.x = some r.fn := by
  intro r hr
  have nd : (rows.map (·.x)).Nodup := by decide +kernel
  exact lookup_rows nd hr
theorem rows_bind : ∀ r ∈ rows, BindsRow topS r := by
  intro r hr
  simp only [rows, rows_0, List.mem_append, List.mem_cons, List.not_mem_nil, or_false] at hr
  rcases hr with (rfl | rfl | rfl | rfl | rfl | rfl | rfl | rfl | rfl | rfl | rfl | rfl | rfl | rfl | rfl | rfl | rfl | rfl | rfl | rfl | rfl | rfl)
  · exact b_is_integer
  · exact b_is_row
  · exact b_is_rising
  · exact b_common
  · exact b_common_of
  · exact b_choose
  · exact b_choices_of
  · exact b_subsets_of
  · exact b_orders_of
  · exact b_put_in_order
  · exact b_sign_power
  · exact b_trimmed
  · exact b_law_state
  · exact b_law_take
  · exact b_law_says
  · exact b_law_is_whole
  · exact b_law_same
  · exact b_law_number
  · exact b_law_row
  · exact b_law_choices
  · exact b_law_orders
  · exact b_law
end K00
end
section
set_option Elab.async false
set_option linter.all false
set_option maxRecDepth 100000
set_option maxHeartbeats 0
/-! K00H: the head's run. -/
namespace K00
open MP PySem PySem.Spec PyProof.Rows L2
abbrev RW : PySem.W.OpenRow := PySem.W.OpenLaw.row PySem.Challenge.rw_sheafroads_k00_whole_integers_and_choice
def fns : List He.DefD := fnOf topS rows
def fas : List He.Fa := faOf rows
abbrev hk : PySem.W.Hook := He.hookD 4 fas fns
def ob (s : PySem.W.SharedT) : He.AlD := He.obsDG 4 fas fns (HandSHeadRun.getT s)
theorem ob_eq (s : PySem.W.SharedT) : ob s = hk.obs s.abs := He.obsDG_eq (HandSHeadRun.getT_eq s)
theorem run (w : World) : HandSHeadRun.RunEq RW (PySem.W.view RW.prog [lawAt]) hk ob 1000 topNames w := by
  intro os
  kernel_rfl
end K00
end
section
set_option Elab.async false
set_option linter.all false
set_option maxRecDepth 100000
set_option maxHeartbeats 1000000
/-! MPZ: evaluation by hand; the laws' common defs. -/
namespace MP
open PySem L2

section
variable {T : Tab} {wf : Nat} {fx : List Nat} {io : Str → List Bool} {cf : Str → List D → RC}
theorem call_eq {k : Nat} {x : Str} {ds : List D} {f : Fn} (h : T.lookup x = some f) (hl : ds.length = f.np) : callF T wf (k + 1) x ds = finish f.io (execs (ioIx f.io) T.io (callF T wf k) wf f.body (startE f.io ds f.nn)) := by
  show (match T.lookup x with | some f => if ds.length = f.np then finish f.io (execs (ioIx f.io) T.io (callF T wf k) wf f.body (startE f.io ds f.nn)) else .bad | none => .bad) = _
  rw [h]
  simp only
  rw [if_pos hl]
theorem exs_step {s : Sm} {l : Sms} {env env1 : Env} {r : RE (Fl × Env)} (h1 : exec fx io cf wf s env = .ok (.nx, env1)) (h2 : execs fx io cf wf l env1 = r) : execs fx io cf wf (.cons s l) env = r := by
  unfold execs
  rw [h1]
  exact h2
theorem exs_nil {env : Env} : execs fx io cf wf .nil env = .ok (.nx, env) := by unfold execs; rfl
theorem exs_ret {s : Sm} {l : Sms} {env env1 : Env} {r : R} (h1 : exec fx io cf wf s env = .ok (.ret r, env1)) : execs fx io cf wf (.cons s l) env = .ok (.ret r, env1) := by
  unfold execs
  rw [h1]
  rfl
theorem mulOk_r {i j : Int} (h : j.natAbs < 2 ^ 64) : mulOk i j = true := by unfold mulOk; simp [h]
theorem mulOk_l {i j : Int} (h : i.natAbs < 2 ^ 64) : mulOk i j = true := by unfold mulOk; simp [h]
theorem divOk_of {m : Int} (h1 : m ≠ 0) (h2 : m.natAbs < 2 ^ 64) : divOk m = true := by
  unfold divOk
  have h3 : m.natAbs.log2 < 64 := (Nat.log2_lt (by omega)).mpr h2
  simp only [h1, ne_eq, not_false_eq_true, decide_true, Bool.true_and, decide_eq_true_eq]
  omega
/-- a loop that goes on -/
theorem loop_all {f : D → Env → RE (Fl × Env)} (I : Nat → Env → Prop) : ∀ {l : List D} {k : Nat} {env : Env}, I k env → (∀ i x env, l[i]? = some x → I (k + i) env → ∃ env', f x env = .ok (.nx, env') ∧ I (k + i + 1) env') → ∃ env', loopGo f l env = .ok (.nx, env') ∧ I (k + l.length) env'
  | [], k, env, h, _ => ⟨env, rfl, h⟩
  | x :: xs, k, env, h, hs => by
    obtain ⟨env1, e1, h1⟩ := hs 0 x env rfl h
    obtain ⟨env2, e2, h2⟩ := loop_all I (l := xs) (k := k + 1) h1 fun i y e hy hi => by
      obtain ⟨e', z1, z2⟩ := hs (i + 1) y e (by simpa using hy) (by rw [show k + (i + 1) = k + 1 + i by omega]; exact hi)
      exact ⟨e', z1, by rw [show k + 1 + i + 1 = k + (i + 1) + 1 by omega]; exact z2⟩
    refine ⟨env2, ?_, by rw [List.length_cons, show k + (xs.length + 1) = k + 1 + xs.length by omega]; exact h2⟩
    unfold loopGo
    rw [e1]
    exact e2
/-- a comprehension whose turns each give an item -/
theorem comp_all {f : D → Env → RE (Option D × Env)} (I : List D → Env → Prop) : ∀ {l : List D} {acc : List D} {env : Env}, acc.length + l.length ≤ sizeLine → I acc env → (∀ (x : D) (acc : List D) (env : Env), x ∈ l → I acc env → ∃ o env', f x env = .ok (o, env') ∧ I (acc ++ o.toList) env') → ∃ res env', compGo f l env acc = .ok (res, env') ∧ I res env'
  | [], acc, env, _, h, _ => ⟨acc, env, rfl, h⟩
  | x :: xs, acc, env, hl, h, hs => by
    obtain ⟨o, env1, e1, h1⟩ := hs x acc env List.mem_cons_self h
    rw [List.length_cons] at hl
    unfold compGo
    rw [e1]
    cases o with
    | none =>
      rw [show acc ++ (none : Option D).toList = acc by simp] at h1
      exact comp_all I (by omega) h1 fun y a e hy => hs y a e (List.mem_cons_of_mem _ hy)
    | some d =>
      obtain ⟨res, env2, e2, h2⟩ := comp_all I (l := xs) (acc := acc ++ [d]) (env := env1) (by simp; omega) h1 fun y a e hy => hs y a e (List.mem_cons_of_mem _ hy)
      refine ⟨res, env2, ?_, h2⟩
      show (if acc.length < sizeLine then compGo f xs env1 (acc ++ [d]) else .bad) = _
      rw [if_pos (by omega)]
      exact e2
/-- .. and leaves but its own slots changed: by a function -/
theorem comp_map {f : D → Env → RE (Option D × Env)} (g : D → Option D) (C : Env → Prop) : ∀ {l : List D} {acc : List D} {env : Env}, acc.length + l.length ≤ sizeLine → C env → (∀ (x : D) (env : Env), x ∈ l → C env → ∃ env', f x env = .ok (g x, env') ∧ C env') → ∃ env', compGo f l env acc = .ok (acc ++ l.filterMap g, env') ∧ C env'
  | [], acc, env, _, h, _ => ⟨env, by simp [compGo], h⟩
  | x :: xs, acc, env, hl, h, hs => by
    obtain ⟨env1, e1, h1⟩ := hs x env List.mem_cons_self h
    rw [List.length_cons] at hl
    unfold compGo
    rw [e1]
    cases hg : g x with
    | none =>
      obtain ⟨env2, e2, h2⟩ := comp_map g C (l := xs) (acc := acc) (env := env1) (by omega) h1 fun y e hy => hs y e (List.mem_cons_of_mem _ hy)
      exact ⟨env2, by rw [List.filterMap_cons, hg]; exact e2, h2⟩
    | some d =>
      obtain ⟨env2, e2, h2⟩ := comp_map g C (l := xs) (acc := acc ++ [d]) (env := env1) (by simp; omega) h1 fun y e hy => hs y e (List.mem_cons_of_mem _ hy)
      refine ⟨env2, ?_, h2⟩
      show (if acc.length < sizeLine then compGo f xs env1 (acc ++ [d]) else .bad) = _
      rw [if_pos (by omega), e2, List.filterMap_cons, hg]
      simp
end
/-! ### equality of data by test -/
mutual
def D.same : D → D → Bool
  | .non, .non => true
  | .bl a, .bl b => a == b
  | .int a, .int b => decide (a = b)
  | .str a, .str b => decide (a = b)
  | .tup a, .tup b => sames a b
  | .lst a, .lst b => sames a b
  | .tf a, .tf b => sames a b
  | _, _ => false
def sames : List D → List D → Bool
  | [], [] => true
  | a :: r, b :: q => a.same b && sames r q
  | _, _ => false
end
mutual
theorem D.same_eq : ∀ {a b : D}, a.same b = true → a = b
  | .non, b, h => by cases b <;> first | rfl | exact Bool.noConfusion (show false = true from h)
  | .bl a, b, h => by
    cases b <;> first | exact Bool.noConfusion (show false = true from h) | skip
    rename_i c
    rw [beq_iff_eq.mp (show (a == c) = true from h)]
  | .int a, b, h => by
    cases b <;> first | exact Bool.noConfusion (show false = true from h) | skip
    rename_i c
    rw [of_decide_eq_true (show decide (a = c) = true from h)]
  | .str a, b, h => by
    cases b <;> first | exact Bool.noConfusion (show false = true from h) | skip
    rename_i c
    rw [of_decide_eq_true (show decide (a = c) = true from h)]
  | .tup a, b, h => by
    cases b <;> first | exact Bool.noConfusion (show false = true from h) | skip
    rename_i c
    rw [sames_eq (show sames a c = true from h)]
  | .lst a, b, h => by
    cases b <;> first | exact Bool.noConfusion (show false = true from h) | skip
    rename_i c
    rw [sames_eq (show sames a c = true from h)]
  | .tf a, b, h => by
    cases b <;> first | exact Bool.noConfusion (show false = true from h) | skip
    rename_i c
    rw [sames_eq (show sames a c = true from h)]
  | .fz _, b, h => by cases b <;> exact Bool.noConfusion (show false = true from h)
  | .dK _ _, b, h => by cases b <;> exact Bool.noConfusion (show false = true from h)
  | .dT _ _, b, h => by cases b <;> exact Bool.noConfusion (show false = true from h)
  | .ins _ _ _, b, h => by cases b <;> exact Bool.noConfusion (show false = true from h)
  | .gl _, b, h => by cases b <;> exact Bool.noConfusion (show false = true from h)
  | .ty _, b, h => by cases b <;> exact Bool.noConfusion (show false = true from h)
theorem sames_eq : ∀ {a b : List D}, sames a b = true → a = b
  | [], b, h => by
    cases b with
    | nil => rfl
    | cons x y => exact Bool.noConfusion (show false = true from h)
  | a :: r, b, h => by
    cases b with
    | nil => exact Bool.noConfusion (show false = true from h)
    | cons x y =>
      have h : (a.same x && sames r y) = true := h
      rw [Bool.and_eq_true] at h
      rw [D.same_eq h.1, sames_eq h.2]
end
/-- a call gives this value -/
def isV (r : RC) (d : D) : Bool := match r with
  | .ok (e, false, []) => e.same d
  | _ => false
theorem isV_eq {r : RC} {d : D} (h : isV r d = true) : r = .ok (d, false, []) := by
  unfold isV at h
  split at h
  · rw [D.same_eq h]
  · cases h
/-- a call gives a new list -/
def newL (r : RC) : Option (List D) := match r with
  | .ok (.lst l, true, []) => some l
  | _ => none
theorem newL_eq {r : RC} {l : List D} (h : newL r = some l) : r = .ok (.lst l, true, []) := by
  unfold newL at h
  split at h
  · cases h; rfl
  · cases h
section
variable {wf : Nat} {fx : List Nat} {io : Str → List Bool} {cf : Str → List D → RC}
theorem exec_loop {t : Tg} {it : MP.It} {b : Sms} {env env1 env2 : Env} {items : List D} {lks : List Nat} {fl : Fl} (h : evI fx io cf it env = .ok ((items, lks), env1)) (hl : loopGo (fun x env1 => (asg fx io cf t (.val x) env1).bind fun env2 => execs fx io cf wf b env2) items (lock env1 lks) = .ok (fl, env2)) :
    exec fx io cf wf (.loop t it b) env = .ok (fl, unlock env2 lks) := by
  unfold exec
  rw [h]
  show (match loopGo (fun x env1 => (asg fx io cf t (.val x) env1).bind fun env2 => execs fx io cf wf b env2) items (lock env1 lks) with
    | .ok y => Res.ok (y.1, unlock y.2 lks)
    | .exc y => Res.exc (y.1, unlock y.2 lks)
    | .bad => Res.bad) = _
  rw [hl]
theorem ev_comp {e : Ex} {t : Tg} {it : MP.It} {cs : Oe} {own : List Nat} {env env1 env2 : Env} {items res : List D} {lks : List Nat} (h : evI fx io cf it env = .ok ((items, lks), env1)) (hp : (patT own t && own.all (fun i => (env1[i]?).any plain)) = true)
    (hl : compGo (fun x env1 => (asg fx io cf t (.val x) (wipeE env1 own)).bind fun env2 => (evC fx io cf cs env2).bind fun q => if q.1 then (ev fx io cf e q.2).bind opt1 else .ok (none, q.2)) items (lock env1 lks) [] = .ok (res, env2)) :
    ev fx io cf (.comp e t it cs own) env = .ok (.fr (.lst res), unlock (backE env2 env1 own) lks) := by
  unfold ev
  rw [h]
  show (if (patT own t && own.all (fun i => (env1[i]?).any plain)) = true then
        (match compGo (fun x env1 => (asg fx io cf t (.val x) (wipeE env1 own)).bind fun env2 => (evC fx io cf cs env2).bind fun q => if q.1 then (ev fx io cf e q.2).bind opt1 else .ok (none, q.2)) items (lock env1 lks) [] with
        | .ok y => Res.ok (R.fr (.lst y.1), unlock (backE y.2 env1 own) lks)
        | _ => Res.bad)
      else Res.bad) = _
  rw [if_pos hp, hl]
end
theorem pyEq_int {i j : Int} : pyEq (.int i) (.int j) = some (decide (i = j)) := by
  have h : ∀ i : Int, SeqAt.shaped (.int i) = true := fun i => rfl
  unfold pyEq
  simp only [D.py, Option.bind_some, h, Bool.and_self, if_true]
  congr 1
theorem pyEq_bl {i j : Bool} : pyEq (.bl i) (.bl j) = some (i == j) := by
  have h : ∀ i : Bool, SeqAt.shaped (.bool i) = true := fun i => rfl
  unfold pyEq
  simp only [D.py, Option.bind_some, h, Bool.and_self, if_true]
  congr 1
end MP
end
section
set_option Elab.async false
set_option linter.all false
set_option maxRecDepth 100000
set_option maxHeartbeats 1000000
/-! K00A: the law's own draws. -/
namespace K00
open MP PySem
abbrev cfL (k : Nat) : Str → List MP.D → RC := callF (tabOf rows) 1000000 k
abbrev ioL : Str → List Bool := (tabOf rows).io
theorem cfL_eq {k : Nat} {x : Str} {ds : List MP.D} {f : Fn} (h : (tabOf rows).lookup x = some f) (hl : ds.length = f.np) : cfL (k + 1) x ds = MP.finish f.io (MP.execs (ioIx f.io) ioL (cfL k) 1000000 f.body (startE f.io ds f.nn)) := call_eq h hl
theorem io_take : ioL "_law_take" = [true, false] := by decide +kernel
theorem io_number : ioL "_law_number" = [true] := by decide +kernel
theorem mod_bound (a m : Int) (h : 0 < m) : 0 ≤ a.fmod m ∧ a.fmod m < m := ⟨Int.fmod_nonneg_of_pos a h, Int.fmod_lt_of_pos a h⟩
theorem take_ok (k : Nat) (s0 s1 m : Int) (hm : 0 < m) (hm2 : m ≤ 5000) : ∃ v t0 t1 : Int, 0 ≤ v ∧ v < m ∧ cfL (k + 1) "_law_take" [.lst [.int s0, .int s1], .int m] = .ok (.int v, false, [.lst [.int t0, .int t1]]) := by
  have hd : divOk m = true := divOk_of (by omega) (by omega)
  have hd7 : divOk 7 = true := divOk_of (by omega) (by omega)
  have hm0 : m ≠ 0 := by omega
  have hM : mulOk s1 48271 = true := mulOk_r (by decide)
  by_cases hs : 0 < s0
  · refine ⟨s0.fmod m, s0.fdiv m, s1, (mod_bound s0 m hm).1, (mod_bound s0 m hm).2, ?_⟩
    rw [cfL_eq (f := ir_law_take) rfl rfl]
    simp [ir_law_take, startE, MP.execs, MP.exec, MP.ev, MP.evs, Res.bind, strict, derefs, deref, slotD, R.arg, cmpD, ixD, L2.atI, L2.ixN, testR, bltD, binD, MP.store, ioIx, MP.finish, outsOf, MP.asg, frz1, setIxD, hs, hd, hm0]
  · refine ⟨(((s1 * 48271 + 11).fmod 2147483647).fdiv 7).fmod m, s0, (s1 * 48271 + 11).fmod 2147483647, (mod_bound _ m hm).1, (mod_bound _ m hm).2, ?_⟩
    rw [cfL_eq (f := ir_law_take) rfl rfl]
    simp [ir_law_take, startE, MP.execs, MP.exec, MP.ev, MP.evs, Res.bind, strict, derefs, deref, slotD, R.arg, cmpD, ixD, L2.atI, L2.ixN, testR, bltD, binD, MP.store, ioIx, MP.finish, outsOf, MP.asg, frz1, setIxD, hs, hd, hm0, hM, hd7]
theorem number_ok (k : Nat) (s0 s1 : Int) : ∃ v t0 t1 : Int, -3 ≤ v ∧ v ≤ 3 ∧ cfL (k + 2) "_law_number" [.lst [.int s0, .int s1]] = .ok (.int v, false, [.lst [.int t0, .int t1]]) := by
  obtain ⟨v, t0, t1, h1, h2, h3⟩ := take_ok k s0 s1 7 (by omega) (by omega)
  refine ⟨v - 3, t0, t1, by omega, by omega, ?_⟩
  rw [cfL_eq (f := ir_law_number) rfl rfl]
  simp [ir_law_number, startE, MP.execs, MP.exec, MP.ev, MP.evs, Res.bind, strict, derefs, deref, slotD, R.arg, cmpD, ixD, L2.atI, L2.ixN, testR, bltD, binD, MP.store, ioIx, MP.finish, outsOf, MP.asg, frz1, setIxD, callGo, io_take, ioSlots, nonIo, frz, setOuts, isOw, h3]
theorem state_ok (k : Nat) (ns : List Int) : ∃ s0 s1 : Int, cfL (k + 1) "_law_state" [.fz (ns.map .int)] = .ok (.lst [.int s0, .int s1], true, []) := by
  simp only [cfL_eq (k := k) (x := "_law_state") (ds := [.fz (ns.map .int)]) (f := ir_law_state) rfl rfl]
  have hl := loop_all (f := fun x env1 => (MP.asg (ioIx [false]) ioL (cfL k) (.nm 3) (.val x) env1).bind fun env2 => MP.execs (ioIx [false]) ioL (cfL k) 1000000 (.cons (.asg (.nm 1) (.bin .add (.bin .mul (.var 1) (.int 1000003)) (.blt .abs (.cons (.var 3) .nil)))) (.cons (.asg (.nm 2) (.bin .mod (.blt .int (.cons (.bin .add (.bin .mul (.var 2) (.int 48271)) (.var 3)) .nil)) (.int 2147483647))) .nil)) env2)
    (fun _ env => ∃ s0 s1 x3, env = [.sh (.fz (ns.map .int)), .sh (.int s0), .sh (.int s1), x3]) (l := cutD (ns.map .int) none (some 63)) (k := 0) (env := [.sh (.fz (ns.map .int)), .sh (.int 0), .sh (.int 1), .un]) ⟨0, 1, .un, rfl⟩ (fun i x env hx ⟨s0, s1, x3, e⟩ => by
      subst e
      obtain ⟨c, rfl⟩ : ∃ c : Int, x = .int c := by
        have hm := List.mem_of_getElem? hx
        unfold cutD at hm
        obtain ⟨c, _, e⟩ := List.mem_map.mp (List.mem_of_mem_drop (List.mem_of_mem_take hm))
        exact ⟨c, e.symm⟩
      have h1 : mulOk s0 1000003 = true := mulOk_r (by decide)
      have h2 : mulOk s1 48271 = true := mulOk_r (by decide)
      simp [startE, MP.execs, MP.exec, MP.ev, MP.evs, Res.bind, strict, derefs, deref, slotD, R.arg, cmpD, ixD, L2.atI, L2.ixN, testR, bltD, binD, MP.store, ioIx, MP.finish, outsOf, MP.asg, frz1, setIxD, h1, h2])
  obtain ⟨env', e1, s0, s1, x3, rfl⟩ := hl
  have hL : MP.exec (ioIx [false]) ioL (cfL k) 1000000 (.loop (.nm 3) (.seq (.sl (.var 0) .no (.yes (.int 63)))) (.cons (.asg (.nm 1) (.bin .add (.bin .mul (.var 1) (.int 1000003)) (.blt .abs (.cons (.var 3) .nil)))) (.cons (.asg (.nm 2) (.bin .mod (.blt .int (.cons (.bin .add (.bin .mul (.var 2) (.int 48271)) (.var 3)) .nil)) (.int 2147483647))) .nil))) [.sh (.fz (ns.map .int)), .sh (.int 0), .sh (.int 1), .un] = .ok (.nx, [.sh (.fz (ns.map .int)), .sh (.int s0), .sh (.int s1), x3]) :=
    exec_loop (items := cutD (ns.map .int) none (some 63)) (lks := []) (by simp [evI, evO, startE, MP.execs, MP.exec, MP.ev, MP.evs, Res.bind, strict, derefs, deref, slotD, R.arg, cmpD, ixD, L2.atI, L2.ixN, testR, bltD, binD, MP.store, ioIx, MP.finish, outsOf, MP.asg, frz1, setIxD, slD, seq?, lockable]) e1
  refine ⟨s0, if s1 = 1973665155 then 7 else s1, ?_⟩
  have hx : MP.execs (ioIx [false]) ioL (cfL k) 1000000 ir_law_state.body (startE [false] [.fz (ns.map .int)] 4) = .ok (.ret (.fr (.lst [.int s0, .int (if s1 = 1973665155 then 7 else s1)])), [.sh (.fz (ns.map .int)), .sh (.int s0), .sh (.int s1), x3]) := by
    refine exs_step (env1 := [.sh (.fz (ns.map .int)), .sh (.int 0), .un, .un]) (by simp [startE, MP.execs, MP.exec, MP.ev, MP.evs, Res.bind, strict, derefs, deref, slotD, R.arg, cmpD, ixD, L2.atI, L2.ixN, testR, bltD, binD, MP.store, ioIx, MP.finish, outsOf, MP.asg, frz1, setIxD]) ?_
    refine exs_step (env1 := [.sh (.fz (ns.map .int)), .sh (.int 0), .sh (.int 1), .un]) (by simp [startE, MP.execs, MP.exec, MP.ev, MP.evs, Res.bind, strict, derefs, deref, slotD, R.arg, cmpD, ixD, L2.atI, L2.ixN, testR, bltD, binD, MP.store, ioIx, MP.finish, outsOf, MP.asg, frz1, setIxD]) ?_
    refine exs_step hL ?_
    refine exs_ret ?_
    by_cases h : s1 = 1973665155
    · simp [startE, MP.execs, MP.exec, MP.ev, MP.evs, Res.bind, strict, derefs, deref, slotD, R.arg, cmpD, ixD, L2.atI, L2.ixN, testR, bltD, binD, MP.store, ioIx, MP.finish, outsOf, MP.asg, frz1, setIxD, h, pyEq_int, small, frz, show 2 ≤ sizeLine from by decide]
    · simp [startE, MP.execs, MP.exec, MP.ev, MP.evs, Res.bind, strict, derefs, deref, slotD, R.arg, cmpD, ixD, L2.atI, L2.ixN, testR, bltD, binD, MP.store, ioIx, MP.finish, outsOf, MP.asg, frz1, setIxD, h, pyEq_int, small, frz, show 2 ≤ sizeLine from by decide]
  show MP.finish [false] (MP.execs (ioIx [false]) ioL (cfL k) 1000000 ir_law_state.body (startE [false] [.fz (ns.map .int)] 4)) = _
  rw [hx]
  rfl
end K00
end
section
set_option Elab.async false
set_option linter.all false
set_option maxRecDepth 100000
set_option maxHeartbeats 1000000
/-! K00C: equal numbers; the greatest common divisor. -/
namespace K00
open MP PySem
theorem isi_int_bool {i : Int} : bltD .isi [.int i, .ty "bool"] = some (.val (.bl false)) := by simp [bltD, D.tyName, isTy]
theorem isi_int_int {i : Int} : bltD .isi [.int i, .ty "int"] = some (.val (.bl true)) := by simp [bltD, D.tyName, isTy]
theorem isi_int_tuple {i : Int} : bltD .isi [.int i, .ty "tuple"] = some (.val (.bl false)) := by simp [bltD, D.tyName, isTy]
theorem isi_int_list {i : Int} : bltD .isi [.int i, .ty "list"] = some (.val (.bl false)) := by simp [bltD, D.tyName, isTy]
theorem isi_int_str {i : Int} : bltD .isi [.int i, .ty "str"] = some (.val (.bl false)) := by simp [bltD, D.tyName, isTy]
theorem io_whole : ioL "_law_is_whole" = [false] := by decide +kernel
theorem whole_ok (k : Nat) (i : Int) : cfL (k + 1) "_law_is_whole" [.int i] = .ok (.bl true, false, []) := by
  rw [cfL_eq (f := ir_law_is_whole) rfl rfl]
  simp [ir_law_is_whole, startE, MP.execs, MP.exec, MP.ev, MP.evs, Res.bind, strict, derefs, deref, slotD, R.arg, testR, isi_int_int, isi_int_bool, ioIx, MP.finish, outsOf]
theorem same_int (k : Nat) (i j : Int) : cfL (k + 2) "_law_same" [.int i, .int j] = .ok (.bl (decide (i = j)), false, []) := by
  rw [cfL_eq (f := ir_law_same) rfl rfl]
  have c1 : cmpD .isN (.int j) .non = some false := rfl
  simp [ir_law_same, startE, MP.execs, MP.exec, MP.ev, MP.evs, Res.bind, strict, derefs, deref, slotD, R.arg, testR, isi_int_int, isi_int_bool, isi_int_tuple, isi_int_list, isi_int_str, ioIx, MP.finish, outsOf, c1, callGo, io_whole, ioSlots, nonIo, frz, frz1, setOuts, whole_ok, cmpD, pyEq_int]
theorem gcd_loop (fx : List Nat) (h0 : 0 ∉ fx) (h1 : 1 ∉ fx) (k : Nat) : ∀ (n y x : Nat), y < n → whileGo (fun env1 => (MP.ev fx ioL (cfL k) (.cmp .ne (.var 1) (.int 0)) env1).bind testR) (fun env1 => MP.execs fx ioL (cfL k) 1000000 (.cons (.par 0 1 (.var 1) (.bin .mod (.var 0) (.var 1))) .nil) env1) n [.sh (.int x), .sh (.int y)] = .ok (.nx, [.sh (.int (Nat.gcd x y : Nat)), .sh (.int 0)])
  | 0, y, x, h => by omega
  | n + 1, 0, x, h => by
    unfold whileGo
    simp [MP.ev, Res.bind, strict, derefs, deref, R.arg, testR, cmpD, pyEq_int]
  | n + 1, y + 1, x, h => by
    have hm : (((x : Nat) : Int)).fmod ((y + 1 : Nat) : Int) = ((x % (y + 1) : Nat) : Int) := by
      rw [Int.fmod_eq_emod_of_nonneg _ (by omega)]; rfl
    have ih := gcd_loop fx h0 h1 k n (x % (y + 1)) (y + 1) (by have := Nat.mod_lt x (show 0 < y + 1 by omega); omega)
    have hne : ¬ (((y + 1 : Nat) : Int) = 0) := by omega
    have e : Nat.gcd x (y + 1) = Nat.gcd (y + 1) (x % (y + 1)) := by rw [Nat.gcd_comm, Nat.gcd_rec, Nat.gcd_comm]
    unfold whileGo
    rw [e, ← ih]
    generalize hy : ((y + 1 : Nat) : Int) = Y at *
    simp [MP.execs, MP.exec, MP.ev, Res.bind, strict, derefs, deref, R.arg, testR, cmpD, pyEq_int, binD, frz, frz1, MP.store, h0, h1, hne, hm]
theorem common_ok (k : Nat) (a b : Int) (hb : b.natAbs < 1000000) : cfL (k + 1) "common" [.int a, .int b] = .ok (.int (Nat.gcd a.natAbs b.natAbs : Nat), false, []) := by
  rw [cfL_eq (f := ir_common) rfl rfl]
  have ab : ∀ i : Int, (if i < 0 then -i else i) = ((i.natAbs : Nat) : Int) := fun i => by split <;> omega
  have hx : MP.execs (ioIx ir_common.io) ioL (cfL k) 1000000 ir_common.body (startE ir_common.io [.int a, .int b] ir_common.nn) = .ok (.ret (.val (.int (Nat.gcd a.natAbs b.natAbs : Nat))), [.sh (.int (Nat.gcd a.natAbs b.natAbs : Nat)), .sh (.int 0)]) := by
    refine exs_step (env1 := [.sh (.int a.natAbs), .sh (.int b.natAbs)]) (by simp [startE, MP.execs, MP.exec, MP.ev, MP.evs, Res.bind, strict, derefs, deref, slotD, R.arg, cmpD, ixD, L2.atI, L2.ixN, testR, bltD, binD, MP.store, ioIx, MP.finish, outsOf, MP.asg, frz1, setIxD, bltD, ab, ir_common, frz]) ?_
    refine exs_step (env1 := [.sh (.int (Nat.gcd a.natAbs b.natAbs : Nat)), .sh (.int 0)]) ?_ ?_
    · rw [MP.exec]
      exact gcd_loop _ (by decide) (by decide) k 1000000 b.natAbs a.natAbs hb
    · exact exs_ret (by simp [MP.exec, MP.ev, Res.bind])
  rw [hx]
  rfl
end K00
end
section
set_option Elab.async false
set_option linter.all false
set_option maxRecDepth 100000
set_option maxHeartbeats 1000000
/-! MFR: what an evaluation does not read it leaves alone. -/
namespace MP
open PySem L2

mutual
/-- no comprehension's own slot is among B -/
def avE (B : List Nat) : Ex → Bool
  | .bin _ a b => avE B a && avE B b
  | .neg a => avE B a
  | .cmp _ a b => avE B a && avE B b
  | .chain _ _ a b c => avE B a && (avE B b && avE B c)
  | .not a => avE B a
  | .and a b => avE B a && avE B b
  | .or a b => avE B a && avE B b
  | .ite c a b => avE B c && (avE B a && avE B b)
  | .tup l => avEs B l
  | .lst l => avEs B l
  | .ix a i => avE B a && avE B i
  | .sl a lo hi => avE B a && (avO B lo && avO B hi)
  | .call _ l => avEs B l
  | .blt _ l => avEs B l
  | .pm _ o l => avE B o && avEs B l
  | .mt _ _ l => avEs B l
  | .comp e t it cs own => own.all (fun i => !B.contains i) && (avE B e && (avT B t && (avI B it && avO B cs)))
  | _ => true
def avEs (B : List Nat) : Exs → Bool
  | .nil => true
  | .cons e l => avE B e && avEs B l
def avO (B : List Nat) : Oe → Bool
  | .no => true
  | .yes e => avE B e
def avI (B : List Nat) : MP.It → Bool
  | .seq e => avE B e
  | .rng1 a => avE B a
  | .rng2 a b => avE B a && avE B b
  | .zip a b => avE B a && avE B b
  | .enum a => avE B a
def avT (B : List Nat) : Tg → Bool
  | .nm _ => true
  | .tup l => avTs B l
  | .ix _ k => avE B k
def avTs (B : List Nat) : Tgs → Bool
  | .nil => true
  | .cons t l => avT B t && avTs B l
end
mutual
def avS (B : List Nat) : Sm → Bool
  | .asg t e => avT B t && avE B e
  | .par _ _ a b => avE B a && avE B b
  | .aug _ _ e => avE B e
  | .expr e => avE B e
  | .ret e => avE B e
  | .ite c a b => avE B c && (avSs B a && avSs B b)
  | .loop t it b => avT B t && (avI B it && avSs B b)
  | .whil c b => avE B c && avSs B b
  | _ => true
def avSs (B : List Nat) : Sms → Bool
  | .nil => true
  | .cons s l => avS B s && avSs B l
end
/-- b holds what a holds, and more -/
def Rel (B : List Nat) (a b : Env) : Prop := a.length = b.length ∧ ∀ i : Nat, a[i]? = b[i]? ∨ (a[i]? = some .un ∧ (i ∈ B ∨ (b[i]?).any plain = true))
def Fr (a b a' b' : Env) : Prop := (a'.length = b'.length ∧ a'.length = a.length) ∧ ∀ i : Nat, a'[i]? = b'[i]? ∨ (a'[i]? = some .un ∧ a[i]? = some .un ∧ b'[i]? = b[i]?)
section
variable {B : List Nat} {a b a' b' a2 b2 : Env}
theorem Fr.refl (h : Rel B a b) : Fr a b a b := ⟨⟨h.1, rfl⟩, fun i => (h.2 i).imp id fun z => ⟨z.1, z.1, rfl⟩⟩
theorem Fr.trans (h : Fr a b a' b') (g : Fr a' b' a2 b2) : Fr a b a2 b2 := ⟨⟨g.1.1, g.1.2.trans h.1.2⟩, fun i => by
  rcases g.2 i with g | ⟨g1, g2, g3⟩
  · exact .inl g
  · rcases h.2 i with h | ⟨h1, h2, h3⟩
    · left
      rw [g1, g3, ← h, g2]
    · exact .inr ⟨g1, h2, g3.trans h3⟩⟩
theorem Fr.rel (h : Rel B a b) (g : Fr a b a' b') : Rel B a' b' := ⟨g.1.1, fun i => by
  rcases g.2 i with g | ⟨g1, g2, g3⟩
  · exact .inl g
  · rcases h.2 i with h | ⟨h1, h2⟩
    · right
      refine ⟨g1, .inr ?_⟩
      rw [g3, ← h, g2]; rfl
    · right
      rw [g3]
      exact ⟨g1, h2⟩⟩
theorem Rel.eq (h : Rel B a b) {i : Nat} {s : Slot} (e : a[i]? = some s) (n : s ≠ .un) : b[i]? = some s := by
  rcases h.2 i with h | ⟨h1, _⟩
  · rw [← h]; exact e
  · rw [e] at h1; exact absurd (Option.some.inj h1) n
theorem Rel.deref (h : Rel B a b) {x : A} {d : D} (e : deref a x = some d) : MP.deref b x = some d := by
  cases x with
  | val y => exact e
  | own i =>
    simp only [MP.deref] at e ⊢
    cases q : a[i]? with
    | none => rw [q] at e; cases e
    | some s =>
      have n : s ≠ .un := by
        rintro rfl
        rw [q] at e; cases e
      rw [h.eq q n]
      rw [q] at e; exact e
theorem Rel.derefs (h : Rel B a b) : ∀ {xs : List A} {ds : List D}, derefs a xs = some ds → MP.derefs b xs = some ds
  | [], ds, e => e
  | x :: xs, ds, e => by
    simp only [MP.derefs] at e ⊢
    obtain ⟨d, e1, e⟩ := Option.bind_eq_some_iff.mp e
    obtain ⟨ds', e2, rfl⟩ := Option.map_eq_some_iff.mp e
    rw [h.deref e1, h.derefs e2]
    rfl
theorem Fr.set (h : Fr a b a' b') (i : Nat) (s : Slot) : Fr a b (a'.set i s) (b'.set i s) := ⟨⟨by rw [List.length_set, List.length_set]; exact h.1.1, by rw [List.length_set]; exact h.1.2⟩, fun j => by
  by_cases e : i = j
  · subst e
    left
    by_cases hl : i < a'.length
    · rw [List.getElem?_set_self hl, List.getElem?_set_self (h.1.1 ▸ hl)]
    · rw [List.getElem?_eq_none (by rw [List.length_set]; omega), List.getElem?_eq_none (by rw [List.length_set, ← h.1.1]; omega)]
  · rw [List.getElem?_set_ne e, List.getElem?_set_ne e]
    exact h.2 j⟩
/-- a slot that holds something is turned -/
theorem Fr.mod (h : Fr a b a' b') {i : Nat} {f : Slot → Slot} (e : a'[i]? = b'[i]?) : Fr a b (a'.modify i f) (b'.modify i f) := ⟨⟨by rw [mod_len, mod_len]; exact h.1.1, by rw [mod_len]; exact h.1.2⟩, fun j => by
  by_cases z : i = j
  · subst z
    left
    rw [mod_self, mod_self, e]
  · rw [mod_ne z, mod_ne z]
    exact h.2 j⟩
theorem Rel.frz1 (h : Rel B a b) {x : A} {d : D} (e : MP.deref a x = some d) : Fr a b (MP.frz1 a x) (MP.frz1 b x) := by
  cases x with
  | val y => exact Fr.refl h
  | own i =>
    refine (Fr.refl h).mod ?_
    simp only [MP.deref] at e
    cases q : a[i]? with
    | none => rw [q] at e; cases e
    | some s =>
      have n : s ≠ .un := by
        rintro rfl
        rw [q] at e; cases e
      rw [h.eq q n]
theorem Rel.frz : ∀ {xs : List A} {a b : Env}, Rel B a b → (∀ x ∈ xs, ∃ d, MP.deref a x = some d) → Fr a b (MP.frz a xs) (MP.frz b xs)
  | [], a, b, h, _ => Fr.refl h
  | x :: xs, a, b, h, e => by
    obtain ⟨d, e1⟩ := e x List.mem_cons_self
    have f := h.frz1 e1
    exact f.trans (Rel.frz (f.rel h) fun y hy => by
      obtain ⟨d', e2⟩ := e y (List.mem_cons_of_mem _ hy)
      exact ⟨d', by rw [deref_frz1]; exact e2⟩)
theorem derefs_mem : ∀ {xs : List A} {ds : List D}, derefs a xs = some ds → ∀ x ∈ xs, ∃ d, deref a x = some d
  | [], ds, e, x, h => by cases h
  | y :: xs, ds, e, x, h => by
    simp only [derefs] at e
    obtain ⟨d, e1, e⟩ := Option.bind_eq_some_iff.mp e
    obtain ⟨ds', e2, _⟩ := Option.map_eq_some_iff.mp e
    rcases List.mem_cons.mp h with rfl | h
    · exact ⟨d, e1⟩
    · exact derefs_mem e2 x h
end
/-- what gives a result in a gives it in b -/
def Mono {α : Type} (B : List Nat) (F : Env → RE (α × Env)) : Prop := ∀ a b a' x, Rel B a b → F a = .ok (x, a') → ∃ b', F b = .ok (x, b') ∧ Fr a b a' b'
def MonoG (B : List Nat) (F : Env → RE Env) : Prop := ∀ a b a', Rel B a b → F a = .ok a' → ∃ b', F b = .ok b' ∧ Fr a b a' b'
section
variable {B : List Nat} {α β : Type}
theorem bind_ok {x : RE α} {f : α → RE β} {y : β} (h : x.bind f = .ok y) : ∃ z, x = .ok z ∧ f z = .ok y := by
  cases x with
  | ok z => exact ⟨z, rfl, h⟩
  | exc z => cases h
  | bad => cases h
theorem Mono.bind {F : Env → RE (α × Env)} {G : α → Env → RE (β × Env)} (hF : Mono B F) (hG : ∀ x, Mono B (G x)) : Mono B fun env => (F env).bind fun z => G z.1 z.2 := fun a b a' y R h => by
  obtain ⟨⟨x, a1⟩, e1, e2⟩ := bind_ok h
  obtain ⟨b1, g1, f1⟩ := hF a b a1 x R e1
  obtain ⟨b2, g2, f2⟩ := hG x a1 b1 a' y (f1.rel R) e2
  exact ⟨b2, by simp only [g1, Res.bind]; exact g2, f1.trans f2⟩
theorem Mono.bindG {F : Env → RE (α × Env)} {G : α → Env → RE Env} (hF : Mono B F) (hG : ∀ x, MonoG B (G x)) : MonoG B fun env => (F env).bind fun z => G z.1 z.2 := fun a b a' R h => by
  obtain ⟨⟨x, a1⟩, e1, e2⟩ := bind_ok h
  obtain ⟨b1, g1, f1⟩ := hF a b a1 x R e1
  obtain ⟨b2, g2, f2⟩ := hG x a1 b1 a' (f1.rel R) e2
  exact ⟨b2, by simp only [g1, Res.bind]; exact g2, f1.trans f2⟩
theorem MonoG.bind {F : Env → RE Env} {G : Env → RE (β × Env)} (hF : MonoG B F) (hG : Mono B G) : Mono B fun env => (F env).bind G := fun a b a' y R h => by
  obtain ⟨a1, e1, e2⟩ := bind_ok h
  obtain ⟨b1, g1, f1⟩ := hF a b a1 R e1
  obtain ⟨b2, g2, f2⟩ := hG a1 b1 a' y (f1.rel R) e2
  exact ⟨b2, by simp only [g1, Res.bind]; exact g2, f1.trans f2⟩
theorem MonoG.bindG {F G : Env → RE Env} (hF : MonoG B F) (hG : MonoG B G) : MonoG B fun env => (F env).bind G := fun a b a' R h => by
  obtain ⟨a1, e1, e2⟩ := bind_ok h
  obtain ⟨b1, g1, f1⟩ := hF a b a1 R e1
  obtain ⟨b2, g2, f2⟩ := hG a1 b1 a' (f1.rel R) e2
  exact ⟨b2, by simp only [g1, Res.bind]; exact g2, f1.trans f2⟩
theorem Mono.pure {x : α} : Mono B fun env => .ok (x, env) := fun a b a' y R h => by
  cases h
  exact ⟨b, rfl, Fr.refl R⟩
theorem Mono.bad : Mono (α := α) B fun env => .bad := fun a b a' y R h => by cases h
theorem MonoG.bad : MonoG B fun env => .bad := fun a b a' R h => by cases h
theorem Mono.of {F G : Env → RE (α × Env)} (h : Mono B F) (e : ∀ env, G env = F env) : Mono B G := fun a b a' x R q => by
  rw [e] at q
  obtain ⟨b', g, f⟩ := h a b a' x R q
  exact ⟨b', by rw [e]; exact g, f⟩
theorem MonoG.of {F G : Env → RE Env} (h : MonoG B F) (e : ∀ env, G env = F env) : MonoG B G := fun a b a' R q => by
  rw [e] at q
  obtain ⟨b', g, f⟩ := h a b a' R q
  exact ⟨b', by rw [e]; exact g, f⟩
theorem mono_strict {f : List D → Option R} {as : List A} : Mono B (strict f as) := fun a b a' x R h => by
  unfold strict at h
  cases hd : derefs a as with
  | none => rw [hd] at h; cases h
  | some ds =>
    rw [hd] at h
    simp only at h
    cases hf : f ds with
    | none => rw [hf] at h; cases h
    | some r =>
      rw [hf] at h
      cases h
      refine ⟨b, ?_, Fr.refl R⟩
      unfold strict
      rw [R.derefs hd]
      simp only [hf]
theorem mono_test {r : R} : Mono B fun env => testR (r, env) := fun a b a' x R h => by
  unfold testR at h
  simp only at h
  cases hd : deref a r.arg with
  | none => rw [hd] at h; cases h
  | some d =>
    rw [hd] at h
    cases d with
    | bl v =>
      cases h
      refine ⟨b, ?_, Fr.refl R⟩
      unfold testR
      simp only [R.deref hd]
    | _ => cases h
theorem mono_opt1 {r : R} : Mono B fun env => opt1 (r, env) := fun a b a' x R h => by
  unfold opt1 at h
  simp only at h
  cases hd : deref a r.arg with
  | none => rw [hd] at h; cases h
  | some d =>
    rw [hd] at h
    cases h
    refine ⟨frz1 b r.arg, ?_, R.frz1 hd⟩
    unfold opt1
    simp only [R.deref hd]
theorem mono_disp {as : List A} {mk : List D → R} : Mono B fun env => (match derefs env as with | some ds => if small ds.length then .ok (mk ds, frz env as) else .bad | none => .bad : RE (R × Env)) := fun a b a' x R h => by
  simp only at h
  cases hd : derefs a as with
  | none => rw [hd] at h; cases h
  | some ds =>
    rw [hd] at h
    simp only at h
    split at h
    · rename_i hs
      cases h
      exact ⟨frz b as, by simp only [R.derefs hd, hs, if_true], R.frz (derefs_mem hd)⟩
    · cases h
theorem mono_store {fx : List Nat} {i : Nat} {r : R} : MonoG B fun env => store fx env i r := fun a b a' R h => by
  have hl := R.1
  cases r with
  | val d =>
    simp only [store] at h ⊢
    split at h
    · rename_i c; cases h
      exact ⟨b.set i (.sh d), if_pos (by rw [← hl]; exact c), (Fr.refl R).set i _⟩
    · cases h
  | fr d =>
    simp only [store] at h ⊢
    split at h
    · rename_i c; cases h
      exact ⟨b.set i (.ow d), if_pos (by rw [← hl]; exact c), (Fr.refl R).set i _⟩
    · cases h
  | own j =>
    simp only [store] at h ⊢
    cases q : a[j]? with
    | none => rw [q] at h; cases h
    | some s =>
      rw [q] at h
      cases s with
      | un => cases h
      | lk d => cases h
      | ow d =>
        simp only at h
        rw [R.eq q (by simp)]
        simp only
        split at h
        · rename_i c; cases h
          exact ⟨(b.set j .un).set i (.ow d), if_pos (by rw [← hl]; exact c), ((Fr.refl R).set j _).set i _⟩
        · cases h
      | sh d =>
        simp only at h
        rw [R.eq q (by simp)]
        simp only
        split at h
        · rename_i c; cases h
          exact ⟨b.set i (.sh d), if_pos (by rw [← hl]; exact c), (Fr.refl R).set i _⟩
        · cases h
end
end MP
end
section
set_option Elab.async false
set_option linter.all false
set_option maxRecDepth 100000
set_option maxHeartbeats 1000000
/-! MFS: the same, for all of the small language. -/
namespace MP
open PySem L2

section
variable {B : List Nat} {fx : List Nat} {io : Str → List Bool} {cf : Str → List D → RC} {wf : Nat}
theorem ioSlots_mono {a b : Env} (R : Rel B a b) : ∀ {bs : List Bool} {as : List A} {sl : List Nat}, ioSlots bs as a = some sl → ioSlots bs as b = some sl := by
  intro bs
  induction bs with
  | nil => intro as sl h; cases as <;> simpa [ioSlots] using h
  | cons x bs ih =>
    intro as sl h
    cases as with
    | nil => cases x <;> simpa [ioSlots] using h
    | cons y as =>
      cases x with
      | false => exact ih (show ioSlots bs as a = some sl from h)
      | true =>
        cases y with
        | val d => cases (show (none : Option (List Nat)) = some sl from h)
        | own i =>
          have h : (if (a[i]?).any isOw then (ioSlots bs as a).map fun l => i :: l else none) = some sl := h
          split at h
          · rename_i c
            obtain ⟨l, e, rfl⟩ := Option.map_eq_some_iff.mp h
            show (if (b[i]?).any isOw then (ioSlots bs as b).map fun l => i :: l else none) = _
            cases q : a[i]? with
            | none => rw [q] at c; cases c
            | some s =>
              rw [q] at c
              have n : s ≠ .un := by rintro rfl; cases c
              have c' : Option.any isOw (some s) = true := c
              rw [R.eq q n, if_pos c', ih e]
              rfl
          · cases h
theorem nonIo_sub : ∀ {bs : List Bool} {as : List A} {x : A}, x ∈ nonIo bs as → x ∈ as := by
  intro bs
  induction bs with
  | nil => intro as x h; cases as <;> simpa [nonIo] using h
  | cons y bs ih =>
    intro as x h
    cases as with
    | nil => cases y <;> simp [nonIo] at h
    | cons a as =>
      cases y with
      | true => exact List.mem_cons_of_mem _ (ih (show x ∈ nonIo bs as from h))
      | false =>
        rcases List.mem_cons.mp (show x ∈ a :: nonIo bs as from h) with rfl | h
        · exact List.mem_cons_self
        · exact List.mem_cons_of_mem _ (ih h)
theorem Fr.setOuts {a b : Env} : ∀ {sl : List Nat} {ds : List D} {a' b' : Env}, Fr a b a' b' → Fr a b (MP.setOuts a' sl ds) (MP.setOuts b' sl ds)
  | [], _, _, _, h => by simpa [MP.setOuts] using h
  | i :: r, [], _, _, h => by simpa [MP.setOuts] using h
  | i :: r, d :: ds, a', b', h => Fr.setOuts (sl := r) (ds := ds) (h.set i (.ow d))
theorem mono_call {x : Str} {as : List A} : Mono B fun env => callGo io cf x as env := fun a b a' r R h => by
  unfold callGo at h
  cases hd : derefs a as with
  | none => simp only [hd] at h; cases h
  | some ds =>
    cases hs : ioSlots (io x) as a with
    | none => simp only [hd, hs] at h; cases h
    | some sl =>
      simp only [hd, hs] at h
      split at h
      · rename_i c
        have f := R.frz (xs := nonIo (io x) as) fun y hy => derefs_mem hd y (nonIo_sub hy)
        have R2 := f.rel R
        have c2 : sl.Nodup ∧ sl.all (fun i => ((frz b (nonIo (io x) as))[i]?).any isOw) = true := by
          refine ⟨c.1, ?_⟩
          have c1 := c.2
          rw [List.all_eq_true] at c1 ⊢
          intro i hi
          have z := c1 i hi
          cases q : (frz a (nonIo (io x) as))[i]? with
          | none => rw [q] at z; cases z
          | some s =>
            rw [q] at z
            have n : s ≠ .un := by rintro rfl; cases z
            rw [R2.eq q n]; exact z
        cases hcf : cf x ds with
        | bad => rw [hcf] at h; cases h
        | exc z => rw [hcf] at h; cases h
        | ok z =>
          rw [hcf] at h
          cases h
          refine ⟨MP.setOuts (frz b (nonIo (io x) as)) sl z.2.2, ?_, f.setOuts⟩
          unfold callGo
          simp only [R.derefs hd, ioSlots_mono R hs, c2, and_self, if_true, hcf]
      · cases h
theorem Fr.wipe {a b : Env} {l : List Nat} {a' b' : Env} (h : Fr a b a' b') : Fr a b (wipeE a' l) (wipeE b' l) := by
  induction l with
  | nil => exact h
  | cons i r ih => exact ih.set i .un
theorem Rel.wipe {a b : Env} (R : Rel B a b) (l : List Nat) : Rel B (wipeE a l) (wipeE b l) := ((Fr.refl R).wipe).rel R
theorem compGo_mono {own : List Nat} {f : D → Env → RE (Option D × Env)} {a0 b0 : Env} (hf : ∀ x a b a' o, Rel B (wipeE a own) (wipeE b own) → f x a = .ok (o, a') → ∃ b', f x b = .ok (o, b') ∧ Fr (wipeE a own) (wipeE b own) a' b') :
    ∀ {l : List D} {acc res : List D} {a b a' : Env}, Rel B (wipeE a0 own) (wipeE b0 own) → Fr (wipeE a0 own) (wipeE b0 own) (wipeE a own) (wipeE b own) → compGo f l a acc = .ok (res, a') → ∃ b', compGo f l b acc = .ok (res, b') ∧ Fr (wipeE a0 own) (wipeE b0 own) (wipeE a' own) (wipeE b' own)
  | [], acc, res, a, b, a', R0, F, h => by
    unfold compGo at h
    cases h
    exact ⟨b, by unfold compGo; rfl, F⟩
  | x :: xs, acc, res, a, b, a', R0, F, h => by
    unfold compGo at h
    obtain ⟨⟨o, a1⟩, e1, e2⟩ := bind_ok h
    obtain ⟨b1, g1, f1⟩ := hf x a b a1 o (F.rel R0) e1
    have F1 : Fr (wipeE a0 own) (wipeE b0 own) (wipeE a1 own) (wipeE b1 own) := F.trans f1.wipe
    unfold compGo
    rw [g1]
    cases o with
    | none => exact compGo_mono hf R0 F1 e2
    | some d =>
      have e2 : (if acc.length < sizeLine then compGo f xs a1 (acc ++ [d]) else .bad) = .ok (res, a') := e2
      show ∃ b', (if acc.length < sizeLine then compGo f xs b1 (acc ++ [d]) else .bad) = .ok (res, b') ∧ _
      split at e2
      · rename_i c
        rw [if_pos c]
        exact compGo_mono hf R0 F1 e2
      · cases e2
theorem Fr.lock {a b : Env} (R : Rel B a b) {l : List Nat} (hl : ∀ i ∈ l, ∃ d, a[i]? = some (.ow d)) : Fr a b (MP.lock a l) (MP.lock b l) := ⟨⟨by rw [lock_len, lock_len]; exact R.1, lock_len⟩, fun i => by
  rw [lock_get, lock_get]
  by_cases m : i ∈ l
  · obtain ⟨d, e⟩ := hl i m
    left
    rw [if_pos m, if_pos m, e, R.eq e (by simp)]
  · rw [if_neg m, if_neg m]
    exact (R.2 i).imp id fun z => ⟨z.1, z.1, rfl⟩⟩
/-- behind a loop: open again -/
theorem Fr.unlock {a b : Env} {l : List Nat} (hl : ∀ i ∈ l, ∃ d, a[i]? = some (.ow d)) {a' b' : Env} (h : Fr (MP.lock a l) (MP.lock b l) a' b') : Fr a b (MP.unlock a' l) (MP.unlock b' l) := ⟨⟨by rw [unlock_len, unlock_len]; exact h.1.1, by rw [unlock_len, h.1.2, lock_len]⟩, fun i => by
  rw [unlock_get, unlock_get]
  by_cases m : i ∈ l
  · rw [if_pos m, if_pos m]
    rcases h.2 i with h | ⟨h1, h2, h3⟩
    · left; rw [h]
    · obtain ⟨d, e⟩ := hl i m
      rw [lock_get, if_pos m, e] at h2
      cases h2
  · rw [if_neg m, if_neg m]
    rcases h.2 i with h | ⟨h1, h2, h3⟩
    · exact .inl h
    · rw [lock_get, if_neg m] at h2
      rw [lock_get, if_neg m] at h3
      exact .inr ⟨h1, h2, h3⟩⟩
/-- what a loop walks -/
def MonoI (B : List Nat) (F : Env → RE ((List D × List Nat) × Env)) : Prop := Mono B F ∧ ∀ a a' z, F a = .ok (z, a') → ∀ i ∈ z.2, ∃ d, a'[i]? = some (.ow d)
theorem loopGo_mono {f : D → Env → RE (Fl × Env)} (hf : ∀ x, Mono B (f x)) : ∀ {l : List D}, Mono B fun env => loopGo f l env
  | [] => Mono.pure.of fun env => by unfold loopGo; rfl
  | x :: xs => fun a b a' fl R h => by
    simp only at h
    unfold loopGo at h
    obtain ⟨⟨o, a1⟩, e1, e2⟩ := bind_ok h
    obtain ⟨b1, g1, f1⟩ := hf x a b a1 o R e1
    simp only
    unfold loopGo
    rw [g1]
    cases o with
    | nx =>
      obtain ⟨b2, g2, f2⟩ := loopGo_mono hf (l := xs) a1 b1 a' fl (f1.rel R) e2
      exact ⟨b2, g2, f1.trans f2⟩
    | ct =>
      obtain ⟨b2, g2, f2⟩ := loopGo_mono hf (l := xs) a1 b1 a' fl (f1.rel R) e2
      exact ⟨b2, g2, f1.trans f2⟩
    | bk => cases e2; exact ⟨b1, rfl, f1⟩
    | ret r => cases e2; exact ⟨b1, rfl, f1⟩
theorem whileGo_mono {c : Env → RE (Bool × Env)} {f : Env → RE (Fl × Env)} (hc : Mono B c) (hf : Mono B f) : ∀ {n : Nat}, Mono B fun env => whileGo c f n env
  | 0 => Mono.bad.of fun env => by unfold whileGo; rfl
  | n + 1 => fun a b a' fl R h => by
    simp only at h
    unfold whileGo at h
    obtain ⟨⟨t, a1⟩, e1, e2⟩ := bind_ok h
    obtain ⟨b1, g1, f1⟩ := hc a b a1 t R e1
    simp only
    unfold whileGo
    rw [g1]
    cases t with
    | false =>
      have e2 : (Res.ok (Fl.nx, a1) : RE (Fl × Env)) = .ok (fl, a') := e2
      cases e2
      exact ⟨b1, rfl, f1⟩
    | true =>
      obtain ⟨⟨o, a2⟩, e3, e4⟩ := bind_ok (show (f a1).bind _ = _ from e2)
      obtain ⟨b2, g2, f2⟩ := hf a1 b1 a2 o (f1.rel R) e3
      have f12 := f1.trans f2
      show ∃ b', ((f b1).bind fun z => match z.1 with
        | .nx => whileGo c f n z.2
        | .ct => whileGo c f n z.2
        | .bk => .ok (.nx, z.2)
        | .ret r => .ok (.ret r, z.2)) = .ok (fl, b') ∧ _
      rw [g2]
      cases o with
      | nx =>
        obtain ⟨b3, g3, f3⟩ := whileGo_mono hc hf (n := n) a2 b2 a' fl (f12.rel R) e4
        exact ⟨b3, g3, f12.trans f3⟩
      | ct =>
        obtain ⟨b3, g3, f3⟩ := whileGo_mono hc hf (n := n) a2 b2 a' fl (f12.rel R) e4
        exact ⟨b3, g3, f12.trans f3⟩
      | bk => cases e4; exact ⟨b2, rfl, f12⟩
      | ret r => cases e4; exact ⟨b2, rfl, f12⟩
end
end MP
end
section
set_option Elab.async false
set_option linter.all false
set_option maxRecDepth 100000
set_option maxHeartbeats 1000000
/-! MFT: the small language leaves alone what it does not read: all forms. -/
namespace MP
open PySem L2

section
variable {B : List Nat} {fx : List Nat} {io : Str → List Bool} {cf : Str → List D → RC} {wf : Nat}
theorem lockable_mono {a b : Env} (R : Rel B a b) : ∀ {as : List A}, (∀ x ∈ as, ∃ d, deref a x = some d) → lockable b as = lockable a as
  | [], _ => rfl
  | .val d :: as, h => lockable_mono R (as := as) fun x hx => h x (List.mem_cons_of_mem _ hx)
  | .own i :: as, h => by
    have ih := lockable_mono R (as := as) fun x hx => h x (List.mem_cons_of_mem _ hx)
    obtain ⟨d, e⟩ := h (.own i) List.mem_cons_self
    have : b[i]? = a[i]? := by
      simp only [deref] at e
      cases q : a[i]? with
      | none => rw [q] at e; cases e
      | some s =>
        have n : s ≠ .un := by
          rintro rfl
          rw [q] at e; cases e
        rw [R.eq q n]
    unfold lockable
    rw [this, ih]
theorem MonoI.bind {α : Type} {F : Env → RE (α × Env)} {G : α → Env → RE ((List D × List Nat) × Env)} (hF : Mono B F) (hG : ∀ x, MonoI B (G x)) : MonoI B fun env => (F env).bind fun z => G z.1 z.2 :=
  ⟨hF.bind fun x => (hG x).1, fun a a' z h => by
    obtain ⟨⟨x, a1⟩, _, e2⟩ := bind_ok h
    exact (hG x).2 a1 a' z e2⟩
theorem MonoI.of {F G : Env → RE ((List D × List Nat) × Env)} (h : MonoI B F) (e : ∀ env, G env = F env) : MonoI B G := ⟨h.1.of e, fun a a' z q => h.2 a a' z (by rw [← e]; exact q)⟩
theorem MonoI.ofNil {F : Env → RE ((List D × List Nat) × Env)} (h : Mono B F) (hn : ∀ a a' z, F a = .ok (z, a') → z.2 = []) : MonoI B F := ⟨h, fun a a' z q i hi => by rw [hn a a' z q] at hi; cases hi⟩
theorem mono_seq {r : R} : MonoI B fun env => (match (deref env r.arg).bind seq? with
    | some l => .ok ((l, lockable env [r.arg]), env)
    | none => .bad : RE ((List D × List Nat) × Env)) := by
  refine ⟨fun a b a' x R h => ?_, fun a a' z h i hi => ?_⟩
  · simp only at h ⊢
    cases hd : deref a r.arg with
    | none => rw [hd] at h; cases h
    | some d =>
      rw [hd] at h
      rw [R.deref hd]
      simp only [Option.bind_some] at h ⊢
      cases hs : seq? d with
      | none => rw [hs] at h; cases h
      | some l =>
        rw [hs] at h
        cases h
        refine ⟨b, ?_, Fr.refl R⟩
        simp only
        have : lockable b [r.arg] = lockable a [r.arg] := lockable_mono R (fun y hy => by
          rw [List.mem_singleton] at hy; subst hy; exact ⟨d, hd⟩)
        rw [this]
  · simp only at h
    cases hs : (deref a r.arg).bind seq? with
    | none => rw [hs] at h; cases h
    | some l =>
      rw [hs] at h
      cases h
      exact lockable_ow hi
theorem mono_enum {r : R} : MonoI B fun env => (match deref env r.arg with
    | some d => (match seq? d with
      | some l => if isL d then .ok ((l.mapIdx fun k x => .tup [.int k, x], lockable env [r.arg]), env) else .bad
      | none => .bad)
    | none => .bad : RE ((List D × List Nat) × Env)) := by
  refine ⟨fun a b a' x R h => ?_, fun a a' z h i hi => ?_⟩
  · simp only at h ⊢
    cases hd : deref a r.arg with
    | none => rw [hd] at h; cases h
    | some d =>
      rw [hd] at h
      rw [R.deref hd]
      simp only at h ⊢
      have : lockable b [r.arg] = lockable a [r.arg] := lockable_mono R (fun y hy => by
        rw [List.mem_singleton] at hy; subst hy; exact ⟨d, hd⟩)
      rw [this]
      cases hs : seq? d with
      | none => rw [hs] at h; cases h
      | some l =>
        rw [hs] at h
        simp only at h ⊢
        split at h
        · rename_i c
          cases h
          exact ⟨b, by rw [if_pos c], Fr.refl R⟩
        · cases h
  · simp only at h
    split at h
    · split at h
      · split at h
        · cases h
          exact lockable_ow hi
        · cases h
      · cases h
    · cases h
theorem mono_zip {r q : R} : MonoI B fun env => (match deref env r.arg, deref env q.arg with
    | some d, some e => (match seq? d, seq? e with
      | some l, some m => if (isL d && isL e) || (isTu d && isTu e) then .ok (((l.zip m).map fun p => .tup [p.1, p.2], lockable env [r.arg, q.arg]), env) else .bad
      | _, _ => .bad)
    | _, _ => .bad : RE ((List D × List Nat) × Env)) := by
  refine ⟨fun a b a' x R h => ?_, fun a a' z h i hi => ?_⟩
  · simp only at h ⊢
    cases hd : deref a r.arg with
    | none => rw [hd] at h; cases h
    | some d =>
      cases he : deref a q.arg with
      | none => rw [hd, he] at h; cases h
      | some e =>
        rw [hd, he] at h
        rw [R.deref hd, R.deref he]
        simp only at h ⊢
        have : lockable b [r.arg, q.arg] = lockable a [r.arg, q.arg] := lockable_mono R (fun y hy => by
          rcases List.mem_cons.mp hy with rfl | hy
          · exact ⟨d, hd⟩
          · rw [List.mem_singleton] at hy; subst hy; exact ⟨e, he⟩)
        rw [this]
        cases hs : seq? d with
        | none => rw [hs] at h; cases h
        | some l =>
          cases hs2 : seq? e with
          | none => rw [hs, hs2] at h; cases h
          | some m =>
            rw [hs, hs2] at h
            simp only at h ⊢
            split at h
            · rename_i c
              cases h
              exact ⟨b, by rw [if_pos c], Fr.refl R⟩
            · cases h
  · simp only at h
    split at h
    · split at h
      · split at h
        · cases h
          exact lockable_ow hi
        · cases h
      · cases h
    · cases h
theorem mono_rng1 {r : R} : MonoI B fun env => (match r with
    | .val (.int j) => if -(2 ^ 62) ≤ j ∧ j < 2 ^ 62 then .ok (((List.range j.toNat).map fun (k : Nat) => .int (k : Int), []), env) else .bad
    | _ => .bad : RE ((List D × List Nat) × Env)) := by
  refine MonoI.ofNil (fun a b a' x R h => ?_) fun a a' z h => ?_
  · try simp only at h ⊢
    split at h
    · split at h
      · rename_i c
        cases h
        exact ⟨b, by rw [if_pos c], Fr.refl R⟩
      · cases h
    · cases h
  · try simp only at h
    split at h
    · split at h
      · cases h; rfl
      · cases h
    · cases h
theorem mono_rng2 {r q : R} : MonoI B fun env => (match r, q with
    | .val (.int i), .val (.int j) => if -(2 ^ 62) ≤ i ∧ i < 2 ^ 62 ∧ -(2 ^ 62) ≤ j ∧ j < 2 ^ 62 then .ok (((List.range (j - i).toNat).map fun (k : Nat) => .int (i + (k : Int)), []), env) else .bad
    | _, _ => .bad : RE ((List D × List Nat) × Env)) := by
  refine MonoI.ofNil (fun a b a' x R h => ?_) fun a a' z h => ?_
  · try simp only at h ⊢
    split at h
    · split at h
      · rename_i c
        cases h
        exact ⟨b, by rw [if_pos c], Fr.refl R⟩
      · cases h
    · cases h
  · try simp only at h
    split at h
    · split at h
      · cases h; rfl
      · cases h
    · cases h
theorem mono_int {r : R} : Mono B fun env => (match r with
    | .val (.int i) => .ok (some i, env)
    | _ => .bad : RE (Option Int × Env)) := fun a b a' x R h => by
  simp only at h ⊢
  split at h
  · cases h; exact ⟨b, rfl, Fr.refl R⟩
  · cases h
theorem mono_mt {m : Mt} {i : Nat} {as : List A} : Mono B fun env => (match derefs env as, (frz env as)[i]? with
      | some ds, some (.ow (.lst own)) => (match mtD m own ds with
        | some (d, own') => .ok (.val d, (frz env as).set i (.ow (.lst own')))
        | none => .bad)
      | _, _ => .bad : RE (R × Env)) := fun a b a' x R h => by
  simp only at h ⊢
  cases hd : derefs a as with
  | none => rw [hd] at h; cases h
  | some ds =>
    have f := R.frz (derefs_mem hd)
    have R2 := f.rel R
    rw [hd] at h
    cases q : (frz a as)[i]? with
    | none => rw [q] at h; cases h
    | some s =>
      rw [q] at h
      cases s with
      | un => cases h
      | sh d => cases h
      | lk d => cases h
      | ow d =>
        cases d with
        | lst own =>
          simp only at h
          rw [R.derefs hd, R2.eq q (by simp)]
          simp only
          cases hm : mtD m own ds with
          | none => rw [hm] at h; cases h
          | some z =>
            obtain ⟨d, own'⟩ := z
            rw [hm] at h
            cases h
            exact ⟨_, rfl, f.set i _⟩
        | _ => cases h
theorem mono_ix {i : Nat} {r q : R} : MonoG B fun env => (match deref env r.arg, (frz1 env r.arg)[i]?, deref (frz1 env r.arg) q.arg with
      | some d, some (.ow own), some kd => (match setIxD own kd d with
        | some own' => .ok ((frz1 env r.arg).set i (.ow own'))
        | none => .bad)
      | _, _, _ => .bad : RE Env) := fun a b a' R h => by
  simp only at h ⊢
  cases hd : deref a r.arg with
  | none => rw [hd] at h; cases h
  | some d =>
    have f := R.frz1 hd
    have R2 := f.rel R
    rw [hd] at h
    cases q1 : (frz1 a r.arg)[i]? with
    | none => rw [q1] at h; cases h
    | some s =>
      rw [q1] at h
      cases s with
      | un => cases h
      | sh d => cases h
      | lk d => cases h
      | ow own =>
        cases hk : deref (frz1 a r.arg) q.arg with
        | none => rw [hk] at h; cases h
        | some kd =>
          rw [hk] at h
          simp only at h
          rw [R.deref hd, R2.eq q1 (by simp), R2.deref hk]
          simp only
          cases hs : setIxD own kd d with
          | none => rw [hs] at h; cases h
          | some own' =>
            rw [hs] at h
            cases h
            exact ⟨_, rfl, f.set i _⟩
end
end MP
end
section
set_option Elab.async false
set_option linter.all false
set_option maxRecDepth 100000
set_option maxHeartbeats 1000000
/-! MFU: the mutual theorem: what is not read is left alone. -/
namespace MP
open PySem L2

section
variable {B : List Nat} {fx : List Nat} {io : Str → List Bool} {cf : Str → List D → RC} {wf : Nat}
theorem mono_comp {e : Ex} {t : Tg} {it : MP.It} {cs : Oe} {own : List Nat} (ho : own.all (fun i => !B.contains i) = true) (he : Mono B (ev fx io cf e)) (ht : ∀ r, MonoG B (asg fx io cf t r)) (hi : MonoI B (evI fx io cf it)) (hc : Mono B (evC fx io cf cs)) : Mono B (ev fx io cf (.comp e t it cs own)) := fun a b a' x R h => by
  unfold ev at h
  obtain ⟨⟨⟨items, lks⟩, a1⟩, e1, e2⟩ := bind_ok h
  obtain ⟨b1, g1, f1⟩ := hi.1 a b a1 _ R e1
  have R1 := f1.rel R
  have hl : ∀ i ∈ lks, ∃ d, a1[i]? = some (.ow d) := hi.2 a a1 _ e1
  simp only at e2
  split at e2
  · rename_i c
    rw [Bool.and_eq_true] at c
    have nB : ∀ i ∈ own, i ∉ B := fun i hi hb => by
      rw [List.all_eq_true] at ho
      have := ho i hi
      simp at this
      exact this hb
    have c2 : (patT own t && own.all (fun i => (b1[i]?).any plain)) = true := by
      rw [Bool.and_eq_true]
      refine ⟨c.1, ?_⟩
      have c1 := c.2
      rw [List.all_eq_true] at c1 ⊢
      intro i hi
      rcases R1.2 i with z | ⟨_, z | z⟩
      · rw [← z]; exact c1 i hi
      · exact absurd z (nB i hi)
      · exact z
    split at e2
    · rename_i y hg
      cases e2
      obtain ⟨res, af⟩ := y
      have fl := Fr.lock R1 hl
      have R2 := fl.rel R1
      have hf : ∀ x a b a' o, Rel B (wipeE a own) (wipeE b own) → (fun x env1 => (asg fx io cf t (.val x) (wipeE env1 own)).bind fun env2 => (evC fx io cf cs env2).bind fun q => if q.1 then (ev fx io cf e q.2).bind opt1 else .ok (Option.none, q.2)) x a = .ok (o, a') → ∃ b', (fun x env1 => (asg fx io cf t (.val x) (wipeE env1 own)).bind fun env2 => (evC fx io cf cs env2).bind fun q => if q.1 then (ev fx io cf e q.2).bind opt1 else .ok (Option.none, q.2)) x b = .ok (o, b') ∧ Fr (wipeE a own) (wipeE b own) a' b' := fun x a b a' o R h => by
        have m : Mono B fun env => (asg fx io cf t (.val x) env).bind fun env2 => (evC fx io cf cs env2).bind fun q => if q.1 then (ev fx io cf e q.2).bind opt1 else .ok (Option.none, q.2) := by
          refine (ht (.val x)).bind (Mono.of (hc.bind (G := fun q env => if q then (ev fx io cf e env).bind opt1 else .ok (Option.none, env)) fun q => ?_) fun env => rfl)
          cases q with
          | true => exact (he.bind (G := fun r env => opt1 (r, env)) fun r => mono_opt1).of fun env => rfl
          | false => exact Mono.pure.of fun env => rfl
        exact m (wipeE a own) (wipeE b own) a' o R h
      obtain ⟨bf, g2, f2⟩ := compGo_mono hf (R2.wipe own) (Fr.refl (R2.wipe own)) hg
      refine ⟨unlock (backE bf b1 own) lks, ?_, f1.trans ?_⟩
      · unfold ev
        rw [g1]
        simp only [Res.bind]
        rw [if_pos c2]
        have g2' : compGo (fun x env1 => (asg fx io cf t (.val x) (wipeE env1 own)).bind fun env2 => (evC fx io cf cs env2).bind fun q => if q.1 then (ev fx io cf e q.2).bind opt1 else .ok (Option.none, q.2)) items (lock b1 lks) [] = .ok (res, bf) := g2
        simp only [Res.bind] at g2'
        rw [g2']
      · have lenA : af.length = a1.length := by
          have := f2.1.2
          rwa [wipeE_len, wipeE_len, lock_len] at this
        have lenB : bf.length = b1.length := by
          have := f2.1.1
          rw [wipeE_len, wipeE_len] at this
          rw [← this, lenA]; exact R1.1
        refine Fr.unlock hl ⟨⟨by rw [backE_len, backE_len, lenA, lenB]; exact R1.1, by rw [backE_len, lock_len, lenA]⟩, fun j => ?_⟩
        by_cases m : j ∈ own
        · rw [backE_in lenA m, backE_in lenB m]
          rcases R1.2 j with z | ⟨z, _⟩
          · exact .inl z
          · have nl : j ∉ lks := fun hj => by
              obtain ⟨d, e⟩ := hl j hj
              rw [z] at e; cases e
            right
            rw [lock_get, lock_get, if_neg nl, if_neg nl]
            exact ⟨z, z, rfl⟩
        · rw [backE_out m, backE_out m]
          have := f2.2 j
          rw [wipeE_out m, wipeE_out m, wipeE_out m, wipeE_out m] at this
          exact this
    · cases e2
  · cases e2
theorem and2 {p q : Bool} (h : (p && q) = true) : p = true ∧ q = true := Bool.and_eq_true_iff.mp h
mutual
theorem frE : ∀ e : Ex, avE B e = true → Mono B (ev fx io cf e)
  | .var i, _ => fun a b a' x R h => by
    unfold ev at h ⊢
    cases q : a[i]? with
    | none => rw [q] at h; cases h
    | some s =>
      rw [q] at h
      cases s with
      | un => cases h
      | sh d => cases h; exact ⟨b, by rw [R.eq q (by simp)], Fr.refl R⟩
      | ow d => cases h; exact ⟨b, by rw [R.eq q (by simp)], Fr.refl R⟩
      | lk d => cases h; exact ⟨b, by rw [R.eq q (by simp)], Fr.refl R⟩
  | .int i, _ => Mono.pure.of fun env => by first | (rw [ev]; done) | (rw [ev]; rfl)
  | .bl i, _ => Mono.pure.of fun env => by first | (rw [ev]; done) | (rw [ev]; rfl)
  | .non, _ => Mono.pure.of fun env => by first | (rw [ev]; done) | (rw [ev]; rfl)
  | .str x, _ => Mono.pure.of fun env => by first | (rw [ev]; done) | (rw [ev]; rfl)
  | .gl x, _ => Mono.pure.of fun env => by first | (rw [ev]; done) | (rw [ev]; rfl)
  | .ty x, _ => Mono.pure.of fun env => by first | (rw [ev]; done) | (rw [ev]; rfl)
  | .bin o p q, h => by
    obtain ⟨h1, h2⟩ := and2 h
    exact ((frE p h1).bind fun x => (frE q h2).bind (G := fun y env => strict (fun ds => match ds with | [d, e] => binD o d e | _ => none) [x.arg, y.arg] env) fun y => mono_strict).of fun env => by first | (rw [ev]; done) | (rw [ev]; rfl)
  | .neg p, h => ((frE p h).bind (G := fun x env => strict (fun ds => match ds with | [.int i] => some (.val (.int (-i))) | _ => none) [x.arg] env) fun x => mono_strict).of fun env => by first | (rw [ev]; done) | (rw [ev]; rfl)
  | .cmp o p q, h => by
    obtain ⟨h1, h2⟩ := and2 h
    exact ((frE p h1).bind fun x => (frE q h2).bind (G := fun y env => strict (fun ds => match ds with | [d, e] => (cmpD o d e).map fun b => .val (.bl b) | _ => none) [x.arg, y.arg] env) fun y => mono_strict).of fun env => by first | (rw [ev]; done) | (rw [ev]; rfl)
  | .chain o o2 p q r, h => by
    obtain ⟨h1, h2⟩ := and2 h
    obtain ⟨h2, h3⟩ := and2 h2
    refine ((frE p h1).bind fun x => (frE q h2).bind fun y => Mono.bind (F := fun env => strict (fun ds => match ds with | [d, e] => (cmpD o d e).map fun b => .val (.bl b) | _ => none) [x.arg, y.arg] env) mono_strict (G := fun w env => (testR (w, env)).bind fun t => if t.1 then (ev fx io cf r t.2).bind fun x => strict (fun ds => match ds with | [d, e] => (cmpD o2 d e).map fun b => .val (.bl b) | _ => none) [y.arg, x.1.arg] x.2 else .ok (.val (.bl false), t.2)) fun w => mono_test.bind (G := fun t env => if t then (ev fx io cf r env).bind fun x => strict (fun ds => match ds with | [d, e] => (cmpD o2 d e).map fun b => .val (.bl b) | _ => none) [y.arg, x.1.arg] x.2 else .ok (.val (.bl false), env)) fun t => ?_).of fun env => by first | (rw [ev]; done) | (rw [ev]; rfl)
    cases t with
    | true => exact ((frE r h3).bind (G := fun x env => strict (fun ds => match ds with | [d, e] => (cmpD o2 d e).map fun b => .val (.bl b) | _ => none) [y.arg, x.arg] env) fun x => mono_strict).of fun env => rfl
    | false => exact Mono.pure.of fun env => rfl
  | .not p, h => ((frE p h).bind (G := fun z env => (testR (z, env)).bind fun t => (Res.ok (R.val (.bl (!t.1)), t.2) : RE (R × Env))) fun z => mono_test.bind (G := fun t env => (Res.ok (R.val (.bl (!t)), env) : RE (R × Env))) fun t => Mono.pure).of fun env => by first | (rw [ev]; done) | (rw [ev]; rfl)
  | .and p q, h => by
    obtain ⟨h1, h2⟩ := and2 h
    refine ((frE p h1).bind (G := fun z env => (testR (z, env)).bind fun t => if t.1 then ev fx io cf q t.2 else .ok (.val (.bl false), t.2)) fun z => mono_test.bind (G := fun t env => if t then ev fx io cf q env else .ok (.val (.bl false), env)) fun t => ?_).of fun env => by first | (rw [ev]; done) | (rw [ev]; rfl)
    cases t with
    | true => exact (frE q h2).of fun env => rfl
    | false => exact Mono.pure.of fun env => rfl
  | .or p q, h => by
    obtain ⟨h1, h2⟩ := and2 h
    refine ((frE p h1).bind (G := fun z env => (testR (z, env)).bind fun t => if t.1 then .ok (.val (.bl true), t.2) else ev fx io cf q t.2) fun z => mono_test.bind (G := fun t env => if t then .ok (.val (.bl true), env) else ev fx io cf q env) fun t => ?_).of fun env => by first | (rw [ev]; done) | (rw [ev]; rfl)
    cases t with
    | true => exact Mono.pure.of fun env => rfl
    | false => exact (frE q h2).of fun env => rfl
  | .ite c p q, h => by
    obtain ⟨h0, h1⟩ := and2 h
    obtain ⟨h1, h2⟩ := and2 h1
    refine ((frE c h0).bind (G := fun z env => (testR (z, env)).bind fun t => if t.1 then ev fx io cf p t.2 else ev fx io cf q t.2) fun z => mono_test.bind (G := fun t env => if t then ev fx io cf p env else ev fx io cf q env) fun t => ?_).of fun env => by first | (rw [ev]; done) | (rw [ev]; rfl)
    cases t with
    | true => exact (frE p h1).of fun env => rfl
    | false => exact (frE q h2).of fun env => rfl
  | .tup l, h => ((frEs l h).bind (G := fun z env => match derefs env z with | some ds => if small ds.length then .ok (.val (.tup ds), frz env z) else .bad | none => .bad) fun z => mono_disp (mk := fun ds => .val (.tup ds))).of fun env => by first | (rw [ev]; done) | (rw [ev]; rfl)
  | .lst l, h => ((frEs l h).bind (G := fun z env => match derefs env z with | some ds => if small ds.length then .ok (.fr (.lst ds), frz env z) else .bad | none => .bad) fun z => mono_disp (mk := fun ds => .fr (.lst ds))).of fun env => by first | (rw [ev]; done) | (rw [ev]; rfl)
  | .ix p q, h => by
    obtain ⟨h1, h2⟩ := and2 h
    exact ((frE p h1).bind fun x => (frE q h2).bind (G := fun y env => strict (fun ds => match ds with | [d, e] => ixD d e | _ => none) [x.arg, y.arg] env) fun y => mono_strict).of fun env => by first | (rw [ev]; done) | (rw [ev]; rfl)
  | .sl p lo hi, h => by
    obtain ⟨h1, h2⟩ := and2 h
    obtain ⟨h2, h3⟩ := and2 h2
    exact ((frE p h1).bind fun x => (frO lo h2).1.bind fun y => (frO hi h3).1.bind (G := fun w env => strict (fun ds => match ds with | [d] => slD d y w | _ => none) [x.arg] env) fun w => mono_strict).of fun env => by first | (rw [ev]; done) | (rw [ev]; rfl)
  | .call x l, h => ((frEs l h).bind (G := fun z env => callGo io cf x z env) fun z => mono_call).of fun env => by first | (rw [ev]; done) | (rw [ev]; rfl)
  | .blt x l, h => ((frEs l h).bind (G := fun z env => strict (bltD x) z env) fun z => mono_strict).of fun env => by first | (rw [ev]; done) | (rw [ev]; rfl)
  | .pm m o l, h => by
    obtain ⟨h1, h2⟩ := and2 h
    refine ((frE o h1).bind (G := fun y env => match deref env y.arg with
    | some (.tf _) => (evs fx io cf l env).bind fun z => strict (fun ds => match ds with | d :: r => pmD m d r | _ => none) (y.arg :: z.1) z.2
    | _ => .bad) fun y => ?_).of fun env => by first | (rw [ev]; done) | (rw [ev]; rfl)
    intro a b a' x R q
    simp only at q ⊢
    cases hd : deref a y.arg with
    | none => rw [hd] at q; cases q
    | some d =>
      rw [hd] at q
      rw [R.deref hd]
      cases d with
      | tf l0 => exact ((frEs l h2).bind (G := fun z env => strict (fun ds => match ds with | d :: r => pmD m d r | _ => none) (y.arg :: z) env) fun z => mono_strict) a b a' x R q
      | _ => cases q
  | .mt m i l, h => fun a b a' x R q => by
    unfold ev at q ⊢
    cases hs : a[i]? with
    | none => rw [hs] at q; cases q
    | some s =>
      rw [hs] at q
      cases s with
      | un => cases q
      | sh d => cases q
      | lk d => cases q
      | ow d =>
        cases d with
        | lst own =>
          rw [R.eq hs (by simp)]
          exact ((frEs l h).bind (G := fun z env => match derefs env z, (frz env z)[i]? with
      | some ds, some (.ow (.lst own)) => (match mtD m own ds with
        | some (d, own') => .ok (.val d, (frz env z).set i (.ow (.lst own')))
        | none => .bad)
      | _, _ => .bad) fun z => mono_mt) a b a' x R q
        | _ => cases q
  | .comp e t it cs own, h => by
    obtain ⟨h1, h2⟩ := and2 h
    obtain ⟨h2, h3⟩ := and2 h2
    obtain ⟨h3, h4⟩ := and2 h3
    obtain ⟨h4, h5⟩ := and2 h4
    exact mono_comp h1 (frE e h2) (frT t h3) (frI it h4) (frO cs h5).2
  | .comp2 e t it cs t2 it2 cs2 own, _ => Mono.bad.of fun env => by first | (rw [ev]; done) | (rw [ev]; rfl)
theorem frEs : ∀ l : Exs, avEs B l = true → Mono B (evs fx io cf l)
  | .nil, _ => Mono.pure.of fun env => by first | (rw [evs]; done) | (rw [evs]; rfl)
  | .cons e l, h => by
    obtain ⟨h1, h2⟩ := and2 h
    exact ((frE e h1).bind fun z => (frEs l h2).bind (G := fun y env => .ok (z.arg :: y, env)) fun y => Mono.pure).of fun env => by first | (rw [evs]; done) | (rw [evs]; rfl)
theorem frO : ∀ o : Oe, avO B o = true → Mono B (evO fx io cf o) ∧ Mono B (evC fx io cf o)
  | .no, _ => ⟨Mono.pure.of fun env => by first | (rw [evO]; done) | (rw [evO]; rfl), Mono.pure.of fun env => by first | (rw [evC]; done) | (rw [evC]; rfl)⟩
  | .yes e, h => ⟨((frE e h).bind (G := fun z env => match z with
    | .val (.int i) => .ok (some i, env)
    | _ => .bad) fun z => mono_int).of fun env => by first | (rw [evO]; done) | (rw [evO]; rfl), ((frE e h).bind (G := fun z env => testR (z, env)) fun z => mono_test).of fun env => by first | (rw [evC]; done) | (rw [evC]; rfl)⟩
theorem frI : ∀ i : MP.It, avI B i = true → MonoI B (evI fx io cf i)
  | .seq e, h => (MonoI.bind (frE e h) (G := fun z env => match (deref env z.arg).bind seq? with
    | some l => .ok ((l, lockable env [z.arg]), env)
    | none => .bad) fun z => mono_seq).of fun env => by first | (rw [evI]; done) | (rw [evI]; rfl)
  | .rng1 p, h => (MonoI.bind (frE p h) (G := fun z env => match z with
    | .val (.int j) => if -(2 ^ 62) ≤ j ∧ j < 2 ^ 62 then .ok (((List.range j.toNat).map fun (k : Nat) => .int (k : Int), []), env) else .bad
    | _ => .bad) fun z => mono_rng1).of fun env => by first | (rw [evI]; done) | (rw [evI]; rfl)
  | .rng2 p q, h => by
    obtain ⟨h1, h2⟩ := and2 h
    exact (MonoI.bind (frE p h1) fun z => MonoI.bind (frE q h2) (G := fun y env => match z, y with
    | .val (.int i), .val (.int j) => if -(2 ^ 62) ≤ i ∧ i < 2 ^ 62 ∧ -(2 ^ 62) ≤ j ∧ j < 2 ^ 62 then .ok (((List.range (j - i).toNat).map fun (k : Nat) => .int (i + (k : Int)), []), env) else .bad
    | _, _ => .bad) fun y => mono_rng2).of fun env => by first | (rw [evI]; done) | (rw [evI]; rfl)
  | .zip p q, h => by
    obtain ⟨h1, h2⟩ := and2 h
    exact (MonoI.bind (frE p h1) fun z => MonoI.bind (frE q h2) (G := fun y env => match deref env z.arg, deref env y.arg with
    | some d, some e => (match seq? d, seq? e with
      | some l, some m => if (isL d && isL e) || (isTu d && isTu e) then .ok (((l.zip m).map fun p => .tup [p.1, p.2], lockable env [z.arg, y.arg]), env) else .bad
      | _, _ => .bad)
    | _, _ => .bad) fun y => mono_zip).of fun env => by first | (rw [evI]; done) | (rw [evI]; rfl)
  | .enum p, h => (MonoI.bind (frE p h) (G := fun z env => match deref env z.arg with
    | some d => (match seq? d with
      | some l => if isL d then .ok ((l.mapIdx fun k x => .tup [.int k, x], lockable env [z.arg]), env) else .bad
      | none => .bad)
    | none => .bad) fun z => mono_enum).of fun env => by first | (rw [evI]; done) | (rw [evI]; rfl)
theorem frT : ∀ t : Tg, avT B t = true → ∀ r, MonoG B (asg fx io cf t r)
  | .nm i, _, r => mono_store.of fun env => by first | (rw [asg]; done) | (rw [asg]; rfl)
  | .tup l, h, r => fun a b a' R q => by
    unfold asg at q ⊢
    cases hd : deref a r.arg with
    | none => rw [hd] at q; cases q
    | some d =>
      rw [hd] at q
      rw [R.deref hd]
      cases d with
      | tup ds =>
        simp only at q ⊢
        split at q
        · rename_i c
          rw [if_pos c]
          exact frTs l h ds a b a' R q
        · cases q
      | _ => cases q
  | .ix i k, h, r => fun a b a' R q => by
    unfold asg at q ⊢
    cases hs : a[i]? with
    | none => rw [hs] at q; cases q
    | some s =>
      rw [hs] at q
      cases s with
      | un => cases q
      | sh d => cases q
      | lk d => cases q
      | ow d =>
        rw [R.eq hs (by simp)]
        exact (Mono.bindG (frE k h) (G := fun z env => match deref env r.arg, (frz1 env r.arg)[i]?, deref (frz1 env r.arg) z.arg with
      | some d, some (.ow own), some kd => (match setIxD own kd d with
        | some own' => .ok ((frz1 env r.arg).set i (.ow own'))
        | none => .bad)
      | _, _, _ => .bad) fun z => mono_ix) a b a' R q
theorem frTs : ∀ l : Tgs, avTs B l = true → ∀ ds, MonoG B (asgs fx io cf l ds)
  | .nil, _, [] => fun a b a' R q => by
    unfold asgs at q ⊢
    cases q
    exact ⟨b, rfl, Fr.refl R⟩
  | .nil, _, d :: ds => MonoG.bad.of fun env => by unfold asgs; rfl
  | .cons t l, _, [] => MonoG.bad.of fun env => by unfold asgs; rfl
  | .cons t l, h, d :: ds => by
    obtain ⟨h1, h2⟩ := and2 h
    exact (MonoG.bindG (frT t h1 (.val d)) (frTs l h2 ds)).of fun env => by first | (rw [asgs]; done) | (rw [asgs]; rfl)
end
mutual
theorem frS : ∀ s : Sm, avS B s = true → Mono B (exec fx io cf wf s)
  | .asg t e, h => by
    obtain ⟨h1, h2⟩ := and2 h
    exact ((frE e h2).bind (G := fun z env => (asg fx io cf t z env).bind fun env1 => .ok (.nx, env1)) fun z => (frT t h1 z).bind Mono.pure).of fun env => by first | (rw [exec]; done) | (rw [exec]; rfl)
  | .par i j p q, h => by
    obtain ⟨h1, h2⟩ := and2 h
    refine ((frE p h1).bind fun za => (frE q h2).bind (G := fun yb env => match za, yb with
    | za, .fr e => (match deref env za.arg with
      | some d => (store fx (frz1 env za.arg) i (.val d)).bind fun env1 => (store fx env1 j (.fr e)).bind fun env2 => .ok (.nx, env2)
      | none => .bad)
    | .fr d, yb => (match deref env yb.arg with
      | some e => (store fx (frz1 env yb.arg) j (.val e)).bind fun env1 => (store fx env1 i (.fr d)).bind fun env2 => .ok (.nx, env2)
      | none => .bad)
    | za, yb => (match deref env za.arg, deref env yb.arg with
      | some d, some e => (store fx (frz env [za.arg, yb.arg]) i (.val d)).bind fun env1 => (store fx env1 j (.val e)).bind fun env2 => .ok (.nx, env2)
      | _, _ => .bad)) fun yb => ?_).of fun env => by first | (rw [exec]; done) | (rw [exec]; rfl)
    have two : ∀ (i j : Nat) (r s : R), Mono B fun env => (store fx env i r).bind fun env1 => (store fx env1 j s).bind fun env2 => (.ok (Fl.nx, env2) : RE (Fl × Env)) := fun i j r s => mono_store.bind (mono_store.bind Mono.pure)
    have one : ∀ (x : A) (i j : Nat) (s : R), Mono B fun env => (match deref env x with
      | some d => (store fx (frz1 env x) i (.val d)).bind fun env1 => (store fx env1 j s).bind fun env2 => .ok (.nx, env2)
      | none => .bad : RE (Fl × Env)) := fun x i j s a b a' y R q => by
      simp only at q ⊢
      cases hd : deref a x with
      | none => rw [hd] at q; cases q
      | some d =>
        rw [hd] at q
        rw [R.deref hd]
        have f := R.frz1 hd
        obtain ⟨b', g, f2⟩ := two i j (.val d) s _ _ _ _ (f.rel R) q
        exact ⟨b', g, f.trans f2⟩
    have both : ∀ (x z : A), Mono B fun env => (match deref env x, deref env z with
      | some d, some e => (store fx (frz env [x, z]) i (.val d)).bind fun env1 => (store fx env1 j (.val e)).bind fun env2 => .ok (.nx, env2)
      | _, _ => .bad : RE (Fl × Env)) := fun x z a b a' y R q => by
      simp only at q ⊢
      cases hd : deref a x with
      | none => rw [hd] at q; cases q
      | some d =>
        cases he : deref a z with
        | none => rw [hd, he] at q; cases q
        | some e =>
          rw [hd, he] at q
          rw [R.deref hd, R.deref he]
          have f := R.frz (xs := [x, z]) fun w hw => by
            rcases List.mem_cons.mp hw with rfl | hw
            · exact ⟨d, hd⟩
            · rw [List.mem_singleton] at hw; subst hw; exact ⟨e, he⟩
          obtain ⟨b', g, f2⟩ := two i j (.val d) (.val e) _ _ _ _ (f.rel R) q
          exact ⟨b', g, f.trans f2⟩
    cases yb with
    | fr e => exact (one za.arg i j (.fr e)).of fun env => by cases za <;> rfl
    | val e =>
      cases za with
      | fr d => exact (one (.val e) j i (.fr d)).of fun env => rfl
      | val d => exact (both (.val d) (.val e)).of fun env => rfl
      | own l => exact (both (.own l) (.val e)).of fun env => rfl
    | own m =>
      cases za with
      | fr d => exact (one (.own m) j i (.fr d)).of fun env => rfl
      | val d => exact (both (.val d) (.own m)).of fun env => rfl
      | own l => exact (both (.own l) (.own m)).of fun env => rfl
  | .aug i o e, h => fun a b a' x R q => by
    unfold exec at q ⊢
    cases hs : a[i]? with
    | none => rw [hs] at q; cases q
    | some s =>
      rw [hs] at q
      cases s with
      | un => cases q
      | ow d => cases q
      | lk d => cases q
      | sh x0 =>
        rw [R.eq hs (by simp)]
        refine ((frE e h).bind (G := fun z env => match deref env z.arg with
      | some y => (match inplace o x0 y with
        | some r => (store fx env i r).bind fun env1 => .ok (.nx, env1)
        | none => .bad)
      | none => .bad) fun z => ?_) a b a' x R q
        intro a b a' x R q
        simp only at q ⊢
        cases hd : deref a z.arg with
        | none => rw [hd] at q; cases q
        | some y =>
          rw [hd] at q
          rw [R.deref hd]
          simp only at q ⊢
          cases hi : inplace o x0 y with
          | none => rw [hi] at q; cases q
          | some r =>
            rw [hi] at q
            exact (mono_store.bind Mono.pure) a b a' x R q
  | .expr e, h => ((frE e h).bind (G := fun z env => .ok (.nx, env)) fun z => Mono.pure).of fun env => by first | (rw [exec]; done) | (rw [exec]; rfl)
  | .ret e, h => ((frE e h).bind (G := fun z env => .ok (.ret z, env)) fun z => Mono.pure).of fun env => by first | (rw [exec]; done) | (rw [exec]; rfl)
  | .retN, _ => Mono.pure.of fun env => by first | (rw [exec]; done) | (rw [exec]; rfl)
  | .ite c p q, h => by
    obtain ⟨h0, h1⟩ := and2 h
    obtain ⟨h1, h2⟩ := and2 h1
    refine ((frE c h0).bind (G := fun z env => (testR (z, env)).bind fun t => if t.1 then execs fx io cf wf p t.2 else execs fx io cf wf q t.2) fun z => mono_test.bind (G := fun t env => if t then execs fx io cf wf p env else execs fx io cf wf q env) fun t => ?_).of fun env => by first | (rw [exec]; done) | (rw [exec]; rfl)
    cases t with
    | true => exact (frSs p h1).of fun env => rfl
    | false => exact (frSs q h2).of fun env => rfl
  | .loop t it b0, h => fun a b a' x R q => by
    obtain ⟨h1, h2⟩ := and2 h
    obtain ⟨h2, h3⟩ := and2 h2
    unfold exec at q ⊢
    obtain ⟨⟨⟨items, lks⟩, a1⟩, e1, e2⟩ := bind_ok q
    obtain ⟨b1, g1, f1⟩ := (frI it h2).1 a b a1 _ R e1
    have R1 := f1.rel R
    have hl : ∀ i ∈ lks, ∃ d, a1[i]? = some (.ow d) := (frI it h2).2 a a1 _ e1
    have fl := Fr.lock R1 hl
    have m : ∀ x, Mono B fun env1 => (asg fx io cf t (.val x) env1).bind fun env2 => execs fx io cf wf b0 env2 := fun x => (frT t h1 (.val x)).bind (frSs b0 h3)
    simp only at e2
    split at e2
    · rename_i y hg
      cases e2
      obtain ⟨b2, g2, f2⟩ := loopGo_mono m (l := items) _ _ _ _ (fl.rel R1) hg
      refine ⟨unlock b2 lks, ?_, f1.trans (Fr.unlock hl f2)⟩
      rw [g1]
      show (match loopGo (fun x env1 => (asg fx io cf t (.val x) env1).bind fun env2 => execs fx io cf wf b0 env2) items (lock b1 lks) with
        | .ok y => Res.ok (y.1, unlock y.2 lks)
        | .exc y => Res.exc (y.1, unlock y.2 lks)
        | .bad => Res.bad) = _
      rw [show loopGo (fun x env1 => (asg fx io cf t (.val x) env1).bind fun env2 => execs fx io cf wf b0 env2) items (lock b1 lks) = _ from g2]
    · cases e2
    · cases e2
  | .whil c b0, h => by
    obtain ⟨h1, h2⟩ := and2 h
    have hc : Mono B fun env1 => (ev fx io cf c env1).bind testR := ((frE c h1).bind (G := fun z env => testR (z, env)) fun z => mono_test).of fun env => rfl
    exact (whileGo_mono hc (frSs b0 h2) (n := wf)).of fun env => by first | (rw [exec]; done) | (rw [exec]; rfl)
  | .pass, _ => Mono.pure.of fun env => by first | (rw [exec]; done) | (rw [exec]; rfl)
  | .brk, _ => Mono.pure.of fun env => by first | (rw [exec]; done) | (rw [exec]; rfl)
  | .cont, _ => Mono.pure.of fun env => by first | (rw [exec]; done) | (rw [exec]; rfl)
theorem frSs : ∀ s : Sms, avSs B s = true → Mono B (execs fx io cf wf s)
  | .nil, _ => Mono.pure.of fun env => by first | (rw [execs]; done) | (rw [execs]; rfl)
  | .cons s l, h => by
    obtain ⟨h1, h2⟩ := and2 h
    refine ((frS s h1).bind (G := fun z env => match z with
    | .nx => execs fx io cf wf l env
    | z => .ok (z, env)) fun z => ?_).of fun env => ?_
    · cases z with
      | nx => exact (frSs l h2).of fun env => rfl
      | bk => exact Mono.pure.of fun env => rfl
      | ct => exact Mono.pure.of fun env => rfl
      | ret r => exact Mono.pure.of fun env => rfl
    · rw [execs]
      congr 1
      funext z
      obtain ⟨f, e⟩ := z
      cases f <;> rfl
end
end
end MP
end
section
set_option Elab.async false
set_option linter.all false
set_option maxRecDepth 100000
set_option maxHeartbeats 1000000
/-! MFW: a slot that does not occur is kept. -/
namespace MP
open PySem L2

mutual
def nocE (i : Nat) : Ex → Bool
  | .var j => decide (j ≠ i)
  | .bin _ a b => nocE i a && nocE i b
  | .neg a => nocE i a
  | .cmp _ a b => nocE i a && nocE i b
  | .chain _ _ a b c => nocE i a && (nocE i b && nocE i c)
  | .not a => nocE i a
  | .and a b => nocE i a && nocE i b
  | .or a b => nocE i a && nocE i b
  | .ite c a b => nocE i c && (nocE i a && nocE i b)
  | .tup l => nocEs i l
  | .lst l => nocEs i l
  | .ix a j => nocE i a && nocE i j
  | .sl a lo hi => nocE i a && (nocO i lo && nocO i hi)
  | .call _ l => nocEs i l
  | .blt _ l => nocEs i l
  | .pm _ o l => nocE i o && nocEs i l
  | .mt _ j l => decide (j ≠ i) && nocEs i l
  | .comp e t it cs own => decide (i ∉ own) && (nocE i e && (nocT i t && (nocI i it && nocO i cs)))
  | _ => true
def nocEs (i : Nat) : Exs → Bool
  | .nil => true
  | .cons e l => nocE i e && nocEs i l
def nocO (i : Nat) : Oe → Bool
  | .no => true
  | .yes e => nocE i e
def nocI (i : Nat) : MP.It → Bool
  | .seq e => nocE i e
  | .rng1 a => nocE i a
  | .rng2 a b => nocE i a && nocE i b
  | .zip a b => nocE i a && nocE i b
  | .enum a => nocE i a
def nocT (i : Nat) : Tg → Bool
  | .nm j => decide (j ≠ i)
  | .tup l => nocTs i l
  | .ix j k => decide (j ≠ i) && nocE i k
def nocTs (i : Nat) : Tgs → Bool
  | .nil => true
  | .cons t l => nocT i t && nocTs i l
end
mutual
def nocS (i : Nat) : Sm → Bool
  | .asg t e => nocT i t && nocE i e
  | .par j k a b => decide (j ≠ i) && (decide (k ≠ i) && (nocE i a && nocE i b))
  | .aug j _ e => decide (j ≠ i) && nocE i e
  | .expr e => nocE i e
  | .ret e => nocE i e
  | .ite c a b => nocE i c && (nocSs i a && nocSs i b)
  | .loop t it b => nocT i t && (nocI i it && nocSs i b)
  | .whil c b => nocE i c && nocSs i b
  | _ => true
def nocSs (i : Nat) : Sms → Bool
  | .nil => true
  | .cons s l => nocS i s && nocSs i l
end
def A.no (i : Nat) (a : A) : Prop := a ≠ .own i
def As.no (i : Nat) (as : List A) : Prop := ∀ a ∈ as, A.no i a
def R.no (i : Nat) (r : R) : Prop := A.no i r.arg
/-- slot i is kept, the value has to do with it -/
def Kp {α : Type} (i : Nat) (Q : α → Prop) (F : Env → RE (α × Env)) : Prop := ∀ a a' x, F a = .ok (x, a') → Q x ∧ a'[i]? = a[i]?
def KpG (i : Nat) (F : Env → RE Env) : Prop := ∀ a a', F a = .ok a' → a'[i]? = a[i]?
section
variable {i : Nat} {α β : Type} {Q : α → Prop} {Q2 : β → Prop}
theorem Kp.bind {F : Env → RE (α × Env)} {G : α → Env → RE (β × Env)} (hF : Kp i Q F) (hG : ∀ x, Q x → Kp i Q2 (G x)) : Kp i Q2 fun env => (F env).bind fun z => G z.1 z.2 := fun a a' y h => by
  obtain ⟨⟨x, a1⟩, e1, e2⟩ := bind_ok h
  obtain ⟨q1, k1⟩ := hF a a1 x e1
  obtain ⟨q2, k2⟩ := hG x q1 a1 a' y e2
  exact ⟨q2, k2.trans k1⟩
theorem Kp.bindG {F : Env → RE (α × Env)} {G : α → Env → RE Env} (hF : Kp i Q F) (hG : ∀ x, Q x → KpG i (G x)) : KpG i fun env => (F env).bind fun z => G z.1 z.2 := fun a a' h => by
  obtain ⟨⟨x, a1⟩, e1, e2⟩ := bind_ok h
  obtain ⟨q1, k1⟩ := hF a a1 x e1
  exact (hG x q1 a1 a' e2).trans k1
theorem KpG.bind {F : Env → RE Env} {G : Env → RE (β × Env)} (hF : KpG i F) (hG : Kp i Q2 G) : Kp i Q2 fun env => (F env).bind G := fun a a' y h => by
  obtain ⟨a1, e1, e2⟩ := bind_ok h
  obtain ⟨q2, k2⟩ := hG a1 a' y e2
  exact ⟨q2, k2.trans (hF a a1 e1)⟩
theorem KpG.bindG {F G : Env → RE Env} (hF : KpG i F) (hG : KpG i G) : KpG i fun env => (F env).bind G := fun a a' h => by
  obtain ⟨a1, e1, e2⟩ := bind_ok h
  exact (hG a1 a' e2).trans (hF a a1 e1)
theorem Kp.pure {x : α} (h : Q x) : Kp i Q fun env => .ok (x, env) := fun a a' y e => by cases e; exact ⟨h, rfl⟩
theorem Kp.bad : Kp i Q fun env => .bad := fun a a' y e => by cases e
theorem Kp.of {F G : Env → RE (α × Env)} (h : Kp i Q F) (e : ∀ env, G env = F env) : Kp i Q G := fun a a' x q => h a a' x (by rw [← e]; exact q)
theorem KpG.of {F G : Env → RE Env} (h : KpG i F) (e : ∀ env, G env = F env) : KpG i G := fun a a' q => h a a' (by rw [← e]; exact q)
theorem Kp.imp {Q' : α → Prop} {F : Env → RE (α × Env)} (h : Kp i Q F) (e : ∀ x, Q x → Q' x) : Kp i Q' F := fun a a' x q => ⟨e x (h a a' x q).1, (h a a' x q).2⟩
theorem frz1_no {env : Env} {x : A} (h : A.no i x) : (frz1 env x)[i]? = env[i]? := by
  cases x with
  | val d => rfl
  | own j => exact mod_ne fun e => h (by rw [e])
theorem frz_no : ∀ {xs : List A} {env : Env}, As.no i xs → (frz env xs)[i]? = env[i]?
  | [], _, _ => rfl
  | x :: xs, env, h => by
    rw [frz, frz_no (xs := xs) fun a ha => h a (List.mem_cons_of_mem _ ha), frz1_no (h x List.mem_cons_self)]
/-- results of operators are no slots -/
def Fresh (f : List D → Option R) : Prop := ∀ ds r, f ds = some r → ∀ j, r ≠ .own j
theorem kp_strict {f : List D → Option R} {as : List A} (hf : Fresh f) : Kp i (R.no i) (strict f as) := fun a a' x h => by
  unfold strict at h
  cases hd : derefs a as with
  | none => rw [hd] at h; cases h
  | some ds =>
    rw [hd] at h
    simp only at h
    cases q : f ds with
    | none => rw [q] at h; cases h
    | some r =>
      rw [q] at h
      cases h
      refine ⟨fun e => ?_, rfl⟩
      cases x with
      | val d => cases e
      | fr d => cases e
      | own j => exact hf ds _ q j rfl
theorem kp_test {r : R} : Kp i (fun _ => True) fun env => testR (r, env) := fun a a' x h => by
  unfold testR at h
  simp only at h
  split at h
  · cases h; exact ⟨trivial, rfl⟩
  · cases h
theorem kp_opt1 {r : R} (hr : R.no i r) : Kp i (fun _ => True) fun env => opt1 (r, env) := fun a a' x h => by
  unfold opt1 at h
  simp only at h
  split at h
  · cases h; exact ⟨trivial, frz1_no hr⟩
  · cases h
theorem kp_store {fx : List Nat} {j : Nat} {r : R} (hj : j ≠ i) (hr : R.no i r) : KpG i fun env => store fx env j r := fun a a' h => by
  cases r with
  | val d =>
    simp only [store] at h
    split at h
    · cases h; exact List.getElem?_set_ne hj
    · cases h
  | fr d =>
    simp only [store] at h
    split at h
    · cases h; exact List.getElem?_set_ne hj
    · cases h
  | own k =>
    have hk : k ≠ i := fun e => hr (by rw [e]; rfl)
    simp only [store] at h
    split at h
    · split at h
      · cases h
        rw [List.getElem?_set_ne hj, List.getElem?_set_ne hk]
      · cases h
    · split at h
      · cases h; exact List.getElem?_set_ne hj
      · cases h
    · cases h
theorem ioSlots_no {env : Env} : ∀ {bs : List Bool} {as : List A} {sl : List Nat}, ioSlots bs as env = some sl → As.no i as → i ∉ sl := by
  intro bs
  induction bs with
  | nil => intro as sl h _; cases as <;> (simp only [ioSlots, Option.some.injEq] at h; subst h; simp)
  | cons x bs ih =>
    intro as sl h hn
    cases as with
    | nil => cases x <;> (simp only [ioSlots, Option.some.injEq] at h; subst h; simp)
    | cons y as =>
      have hn' : As.no i as := fun a ha => hn a (List.mem_cons_of_mem _ ha)
      cases x with
      | false => exact ih (show ioSlots bs as env = some sl from h) hn'
      | true =>
        cases y with
        | val d => cases (show (none : Option (List Nat)) = some sl from h)
        | own k =>
          have h : (if (env[k]?).any isOw then (ioSlots bs as env).map fun l => k :: l else none) = some sl := h
          split at h
          · obtain ⟨l, e, rfl⟩ := Option.map_eq_some_iff.mp h
            intro m
            rcases List.mem_cons.mp m with m | m
            · exact hn (.own k) List.mem_cons_self (by rw [m])
            · exact ih e hn' m
          · cases h
theorem setOuts_no : ∀ {sl : List Nat} {ds : List D} {env : Env}, i ∉ sl → (setOuts env sl ds)[i]? = env[i]?
  | [], _, _, _ => by simp [setOuts]
  | k :: r, [], _, _ => by simp [setOuts]
  | k :: r, d :: ds, env, h => by
    have e : setOuts env (k :: r) (d :: ds) = setOuts (env.set k (.ow d)) r ds := rfl
    rw [e, setOuts_no fun m => h (List.mem_cons_of_mem _ m), List.getElem?_set_ne fun e => h (by rw [e]; exact List.mem_cons_self)]
theorem lock_no {l : List Nat} {env : Env} (h : i ∉ l) : (lock env l)[i]? = env[i]? := by rw [lock_get, if_neg h]
theorem unlock_no {l : List Nat} {env : Env} (h : i ∉ l) : (unlock env l)[i]? = env[i]? := by rw [unlock_get, if_neg h]
theorem lockable_no {env : Env} : ∀ {as : List A}, As.no i as → i ∉ lockable env as
  | [], _ => by simp [lockable]
  | .val d :: as, h => lockable_no (as := as) fun a ha => h a (List.mem_cons_of_mem _ ha)
  | .own k :: as, h => by
    unfold lockable
    have ih := lockable_no (env := env) (as := as) fun a ha => h a (List.mem_cons_of_mem _ ha)
    split
    · intro m
      rcases List.mem_cons.mp m with m | m
      · exact h (.own k) List.mem_cons_self (by rw [m])
      · exact ih m
    · exact ih
theorem kp_call {io : Str → List Bool} {cf : Str → List D → RC} {x : Str} {as : List A} (hn : As.no i as) : Kp i (R.no i) fun env => callGo io cf x as env := fun a a' r h => by
  unfold callGo at h
  cases hd : derefs a as with
  | none => simp only [hd] at h; cases h
  | some ds =>
    cases hs : ioSlots (io x) as a with
    | none => simp only [hd, hs] at h; cases h
    | some sl =>
      simp only [hd, hs] at h
      split at h
      · cases hcf : cf x ds with
        | bad => rw [hcf] at h; cases h
        | exc z => rw [hcf] at h; cases h
        | ok z =>
          rw [hcf] at h
          cases h
          refine ⟨?_, ?_⟩
          · intro e
            cases hz : z.2.1 <;> rw [hz] at e <;> cases e
          · rw [setOuts_no (ioSlots_no hs hn), frz_no fun y hy => hn y (nonIo_sub hy)]
      · cases h
theorem compGo_kp {own : List Nat} (ho : i ∉ own) {f : D → Env → RE (Option D × Env)} (hf : ∀ x, Kp i (fun _ => True) (f x)) : ∀ {l : List D} {acc : List D}, Kp i (fun _ => True) fun env => compGo f l env acc
  | [], acc => (Kp.pure trivial).of fun env => by unfold compGo; rfl
  | x :: xs, acc => fun a a' r h => by
    simp only at h
    unfold compGo at h
    obtain ⟨⟨o, a1⟩, e1, e2⟩ := bind_ok h
    have k1 := (hf x a a1 o e1).2
    cases o with
    | none => exact ⟨trivial, ((compGo_kp ho hf (l := xs) (acc := acc)) a1 a' r e2).2.trans k1⟩
    | some d =>
      have e2 : (if acc.length < sizeLine then compGo f xs a1 (acc ++ [d]) else .bad) = .ok (r, a') := e2
      split at e2
      · exact ⟨trivial, ((compGo_kp ho hf (l := xs) (acc := acc ++ [d])) a1 a' r e2).2.trans k1⟩
      · cases e2
theorem loopGo_kp {f : D → Env → RE (Fl × Env)} (hf : ∀ x, Kp i (fun _ => True) (f x)) : ∀ {l : List D}, Kp i (fun _ => True) fun env => loopGo f l env
  | [] => (Kp.pure trivial).of fun env => by unfold loopGo; rfl
  | x :: xs => fun a a' fl h => by
    simp only at h
    unfold loopGo at h
    obtain ⟨⟨o, a1⟩, e1, e2⟩ := bind_ok h
    have k1 := (hf x a a1 o e1).2
    cases o with
    | nx => exact ⟨trivial, ((loopGo_kp hf (l := xs)) a1 a' fl e2).2.trans k1⟩
    | ct => exact ⟨trivial, ((loopGo_kp hf (l := xs)) a1 a' fl e2).2.trans k1⟩
    | bk => cases e2; exact ⟨trivial, k1⟩
    | ret r => cases e2; exact ⟨trivial, k1⟩
theorem whileGo_kp {c : Env → RE (Bool × Env)} {f : Env → RE (Fl × Env)} (hc : Kp i (fun _ => True) c) (hf : Kp i (fun _ => True) f) : ∀ {n : Nat}, Kp i (fun _ => True) fun env => whileGo c f n env
  | 0 => Kp.bad.of fun env => by unfold whileGo; rfl
  | n + 1 => fun a a' fl h => by
    simp only at h
    unfold whileGo at h
    obtain ⟨⟨t, a1⟩, e1, e2⟩ := bind_ok h
    have k1 := (hc a a1 t e1).2
    cases t with
    | false =>
      have e2 : (Res.ok (Fl.nx, a1) : RE (Fl × Env)) = .ok (fl, a') := e2
      cases e2
      exact ⟨trivial, k1⟩
    | true =>
      obtain ⟨⟨o, a2⟩, e3, e4⟩ := bind_ok (show (f a1).bind _ = _ from e2)
      have k2 := (hf a1 a2 o e3).2.trans k1
      cases o with
      | nx => exact ⟨trivial, ((whileGo_kp hc hf (n := n)) a2 a' fl e4).2.trans k2⟩
      | ct => exact ⟨trivial, ((whileGo_kp hc hf (n := n)) a2 a' fl e4).2.trans k2⟩
      | bk => cases e4; exact ⟨trivial, k2⟩
      | ret r => cases e4; exact ⟨trivial, k2⟩
end
end MP
end
section
set_option Elab.async false
set_option linter.all false
set_option maxRecDepth 100000
set_option maxHeartbeats 1000000
/-! MFX: a slot that does not occur is kept: all forms. -/
namespace MP
open PySem L2

theorem binD_fresh {o : Bin} : Fresh fun ds => match ds with | [d, e] => binD o d e | _ => none := fun ds r h j => by
  dsimp only at h
  split at h
  · unfold binD at h
    split at h <;> (try split at h) <;> first | (cases h; exact fun e => by cases e) | cases h
  · cases h
theorem negD_fresh : Fresh fun ds => match ds with | [.int i] => some (.val (.int (-i))) | _ => none := fun ds r h j => by
  dsimp only at h
  split at h
  · cases h; exact fun e => by cases e
  · cases h
theorem cmpD_fresh {o : Cmp} : Fresh fun ds => match ds with | [d, e] => (cmpD o d e).map fun b => .val (.bl b) | _ => none := fun ds r h j => by
  dsimp only at h
  split at h
  · obtain ⟨b, _, rfl⟩ := Option.map_eq_some_iff.mp h
    exact fun e => by cases e
  · cases h
theorem ixD_fresh : Fresh fun ds => match ds with | [d, e] => ixD d e | _ => none := fun ds r h j => by
  dsimp only at h
  split at h
  · unfold ixD at h
    split at h <;> first | (obtain ⟨b, _, rfl⟩ := Option.map_eq_some_iff.mp h; exact fun e => by cases e) | cases h
  · cases h
theorem slD_fresh {y w : Option Int} : Fresh fun ds => match ds with | [d] => slD d y w | _ => none := fun ds r h j => by
  dsimp only at h
  split at h
  · unfold slD at h
    split at h <;> first | (cases h; exact fun e => by cases e) | cases h
  · cases h
theorem bltD_fresh {b : Blt} : Fresh (bltD b) := fun ds r h j => by
  unfold bltD at h
  split at h <;> (try split at h) <;> first
    | (cases h; exact fun e => by cases e)
    | cases h
    | (obtain ⟨b, _, rfl⟩ := Option.map_eq_some_iff.mp h; exact fun e => by cases e)
    | (obtain ⟨b, _, h⟩ := Option.bind_eq_some_iff.mp h; first | (obtain ⟨b, _, rfl⟩ := Option.map_eq_some_iff.mp h; exact fun e => by cases e) | (split at h <;> first | (cases h; exact fun e => by cases e) | cases h))
theorem pmD_fresh {m : Pm} : Fresh fun ds => match ds with | d :: r => pmD m d r | _ => none := fun ds r h j => by
  dsimp only at h
  split at h
  · unfold pmD at h
    split at h
    · obtain ⟨b, _, h⟩ := Option.bind_eq_some_iff.mp h
      obtain ⟨c, _, h⟩ := Option.bind_eq_some_iff.mp h
      split at h
      · cases h; exact fun e => by cases e
      · cases h
    · cases h
  · cases h
section
variable {i : Nat} {fx : List Nat} {io : Str → List Bool} {cf : Str → List D → RC} {wf : Nat}
def INo (i : Nat) (z : List D × List Nat) : Prop := i ∉ z.2
theorem no_cons {a : A} {as : List A} (h : A.no i a) (g : As.no i as) : As.no i (a :: as) := fun x hx => by
  rcases List.mem_cons.mp hx with rfl | hx
  · exact h
  · exact g x hx
theorem no_nil : As.no i [] := fun x hx => by cases hx
theorem val_no {d : D} : R.no i (.val d) := fun e => by cases e
theorem fr_no {d : D} : R.no i (.fr d) := fun e => by cases e
theorem kp_rng2 {r q : R} : Kp i (INo i) fun env => (match r, q with
    | .val (.int i), .val (.int j) => if -(2 ^ 62) ≤ i ∧ i < 2 ^ 62 ∧ -(2 ^ 62) ≤ j ∧ j < 2 ^ 62 then .ok (((List.range (j - i).toNat).map fun (k : Nat) => .int (i + (k : Int)), []), env) else .bad
    | _, _ => .bad : RE ((List D × List Nat) × Env)) := fun a a' x h => by
  try simp only at h
  split at h
  · split at h
    · cases h; exact ⟨(by simp [INo]), rfl⟩
    · cases h
  · cases h
mutual
theorem kpE : ∀ e : Ex, nocE i e = true → Kp i (R.no i) (ev fx io cf e)
  | .var j, h => fun a a' x q => by
    have hj : j ≠ i := of_decide_eq_true h
    unfold ev at q
    split at q <;> first
      | (cases q; exact ⟨val_no, rfl⟩)
      | (cases q; exact ⟨fun e => hj (by cases e; rfl), rfl⟩)
      | cases q
  | .int j, _ => (Kp.pure val_no).of fun env => by unfold ev; rfl
  | .bl j, _ => (Kp.pure val_no).of fun env => by unfold ev; rfl
  | .non, _ => (Kp.pure val_no).of fun env => by unfold ev; rfl
  | .str x, _ => (Kp.pure val_no).of fun env => by unfold ev; rfl
  | .gl x, _ => (Kp.pure val_no).of fun env => by unfold ev; rfl
  | .ty x, _ => (Kp.pure val_no).of fun env => by unfold ev; rfl
  | .bin o p q, h => by
    obtain ⟨h1, h2⟩ := and2 h
    exact ((kpE p h1).bind fun x _ => (kpE q h2).bind (G := fun y env => strict (fun ds => match ds with | [d, e] => binD o d e | _ => none) [x.arg, y.arg] env) fun y _ => kp_strict binD_fresh).of fun env => by first | (rw [ev]; done) | (rw [ev]; rfl)
  | .neg p, h => ((kpE p h).bind (G := fun x env => strict (fun ds => match ds with | [.int i] => some (.val (.int (-i))) | _ => none) [x.arg] env) fun x _ => kp_strict negD_fresh).of fun env => by first | (rw [ev]; done) | (rw [ev]; rfl)
  | .cmp o p q, h => by
    obtain ⟨h1, h2⟩ := and2 h
    exact ((kpE p h1).bind fun x _ => (kpE q h2).bind (G := fun y env => strict (fun ds => match ds with | [d, e] => (cmpD o d e).map fun b => .val (.bl b) | _ => none) [x.arg, y.arg] env) fun y _ => kp_strict cmpD_fresh).of fun env => by first | (rw [ev]; done) | (rw [ev]; rfl)
  | .chain o o2 p q r, h => by
    obtain ⟨h1, h2⟩ := and2 h
    obtain ⟨h2, h3⟩ := and2 h2
    refine ((kpE p h1).bind fun x _ => (kpE q h2).bind fun y _ => Kp.bind (F := fun env => strict (fun ds => match ds with | [d, e] => (cmpD o d e).map fun b => .val (.bl b) | _ => none) [x.arg, y.arg] env) (kp_strict cmpD_fresh) (G := fun w env => (testR (w, env)).bind fun t => if t.1 then (ev fx io cf r t.2).bind fun x => strict (fun ds => match ds with | [d, e] => (cmpD o2 d e).map fun b => .val (.bl b) | _ => none) [y.arg, x.1.arg] x.2 else .ok (.val (.bl false), t.2)) fun w _ => kp_test.bind (G := fun t env => if t then (ev fx io cf r env).bind fun x => strict (fun ds => match ds with | [d, e] => (cmpD o2 d e).map fun b => .val (.bl b) | _ => none) [y.arg, x.1.arg] x.2 else .ok (.val (.bl false), env)) fun t _ => ?_).of fun env => by first | (rw [ev]; done) | (rw [ev]; rfl)
    cases t with
    | true => exact ((kpE r h3).bind (G := fun x env => strict (fun ds => match ds with | [d, e] => (cmpD o2 d e).map fun b => .val (.bl b) | _ => none) [y.arg, x.arg] env) fun x _ => kp_strict cmpD_fresh).of fun env => rfl
    | false => exact (Kp.pure val_no).of fun env => rfl
  | .not p, h => ((kpE p h).bind (G := fun z env => (testR (z, env)).bind fun t => (Res.ok (R.val (.bl (!t.1)), t.2) : RE (R × Env))) fun z _ => kp_test.bind (G := fun t env => (Res.ok (R.val (.bl (!t)), env) : RE (R × Env))) fun t _ => Kp.pure val_no).of fun env => by first | (rw [ev]; done) | (rw [ev]; rfl)
  | .and p q, h => by
    obtain ⟨h1, h2⟩ := and2 h
    refine ((kpE p h1).bind (G := fun z env => (testR (z, env)).bind fun t => if t.1 then ev fx io cf q t.2 else .ok (.val (.bl false), t.2)) fun z _ => kp_test.bind (G := fun t env => if t then ev fx io cf q env else .ok (.val (.bl false), env)) fun t _ => ?_).of fun env => by first | (rw [ev]; done) | (rw [ev]; rfl)
    cases t with
    | true => exact (kpE q h2).of fun env => rfl
    | false => exact (Kp.pure val_no).of fun env => rfl
  | .or p q, h => by
    obtain ⟨h1, h2⟩ := and2 h
    refine ((kpE p h1).bind (G := fun z env => (testR (z, env)).bind fun t => if t.1 then .ok (.val (.bl true), t.2) else ev fx io cf q t.2) fun z _ => kp_test.bind (G := fun t env => if t then .ok (.val (.bl true), env) else ev fx io cf q env) fun t _ => ?_).of fun env => by first | (rw [ev]; done) | (rw [ev]; rfl)
    cases t with
    | true => exact (Kp.pure val_no).of fun env => rfl
    | false => exact (kpE q h2).of fun env => rfl
  | .ite c p q, h => by
    obtain ⟨h0, h1⟩ := and2 h
    obtain ⟨h1, h2⟩ := and2 h1
    refine ((kpE c h0).bind (G := fun z env => (testR (z, env)).bind fun t => if t.1 then ev fx io cf p t.2 else ev fx io cf q t.2) fun z _ => kp_test.bind (G := fun t env => if t then ev fx io cf p env else ev fx io cf q env) fun t _ => ?_).of fun env => by first | (rw [ev]; done) | (rw [ev]; rfl)
    cases t with
    | true => exact (kpE p h1).of fun env => rfl
    | false => exact (kpE q h2).of fun env => rfl
  | .tup l, h => ((kpEs l h).bind (G := fun z env => match derefs env z with | some ds => if small ds.length then .ok (.val (.tup ds), frz env z) else .bad | none => .bad) fun z hz => fun a a' x q => by
      simp only at q
      split at q
      · split at q
        · cases q; exact ⟨val_no, frz_no hz⟩
        · cases q
      · cases q).of fun env => by first | (rw [ev]; done) | (rw [ev]; rfl)
  | .lst l, h => ((kpEs l h).bind (G := fun z env => match derefs env z with | some ds => if small ds.length then .ok (.fr (.lst ds), frz env z) else .bad | none => .bad) fun z hz => fun a a' x q => by
      simp only at q
      split at q
      · split at q
        · cases q; exact ⟨fr_no, frz_no hz⟩
        · cases q
      · cases q).of fun env => by first | (rw [ev]; done) | (rw [ev]; rfl)
  | .ix p q, h => by
    obtain ⟨h1, h2⟩ := and2 h
    exact ((kpE p h1).bind fun x _ => (kpE q h2).bind (G := fun y env => strict (fun ds => match ds with | [d, e] => ixD d e | _ => none) [x.arg, y.arg] env) fun y _ => kp_strict ixD_fresh).of fun env => by first | (rw [ev]; done) | (rw [ev]; rfl)
  | .sl p lo hi, h => by
    obtain ⟨h1, h2⟩ := and2 h
    obtain ⟨h2, h3⟩ := and2 h2
    exact ((kpE p h1).bind fun x _ => (kpO lo h2).1.bind fun y _ => (kpO hi h3).1.bind (G := fun w env => strict (fun ds => match ds with | [d] => slD d y w | _ => none) [x.arg] env) fun w _ => kp_strict slD_fresh).of fun env => by first | (rw [ev]; done) | (rw [ev]; rfl)
  | .call x l, h => ((kpEs l h).bind (G := fun z env => callGo io cf x z env) fun z hz => kp_call hz).of fun env => by first | (rw [ev]; done) | (rw [ev]; rfl)
  | .blt x l, h => ((kpEs l h).bind (G := fun z env => strict (bltD x) z env) fun z _ => kp_strict bltD_fresh).of fun env => by first | (rw [ev]; done) | (rw [ev]; rfl)
  | .pm m o l, h => by
    obtain ⟨h1, h2⟩ := and2 h
    refine ((kpE o h1).bind (G := fun y env => match deref env y.arg with
    | some (.tf _) => (evs fx io cf l env).bind fun z => strict (fun ds => match ds with | d :: r => pmD m d r | _ => none) (y.arg :: z.1) z.2
    | _ => .bad) fun y _ => ?_).of fun env => by first | (rw [ev]; done) | (rw [ev]; rfl)
    intro a a' x q
    simp only at q
    split at q
    · exact ((kpEs l h2).bind (G := fun z env => strict (fun ds => match ds with | d :: r => pmD m d r | _ => none) (y.arg :: z) env) fun z _ => kp_strict pmD_fresh) a a' x q
    · cases q
  | .mt m j l, h => fun a a' x q => by
    obtain ⟨h1, h2⟩ := and2 h
    have hj : j ≠ i := of_decide_eq_true h1
    unfold ev at q
    split at q
    · refine ((kpEs l h2).bind (Q2 := R.no i) (G := fun z env => match derefs env z, (frz env z)[j]? with
      | some ds, some (.ow (.lst own)) => (match mtD m own ds with
        | some (d, own') => .ok (.val d, (frz env z).set j (.ow (.lst own')))
        | none => .bad)
      | _, _ => .bad) fun z hz => ?_) a a' x q
      intro a a' x q
      simp only at q
      split at q
      · split at q
        · cases q
          exact ⟨val_no, by rw [List.getElem?_set_ne hj, frz_no hz]⟩
        · cases q
      · cases q
    · cases q
  | .comp e t it cs own, h => fun a a' x q => by
    obtain ⟨h1, h2⟩ := and2 h
    obtain ⟨h2, h3⟩ := and2 h2
    obtain ⟨h3, h4⟩ := and2 h3
    obtain ⟨h4, h5⟩ := and2 h4
    have ho : i ∉ own := of_decide_eq_true h1
    unfold ev at q
    obtain ⟨⟨⟨items, lks⟩, a1⟩, e1, e2⟩ := bind_ok q
    obtain ⟨n1, k1⟩ := kpI it h4 a a1 _ e1
    have n1 : i ∉ lks := n1
    simp only at e2
    split at e2
    · split at e2
      · rename_i y hg
        cases e2
        have hf : ∀ x, Kp i (fun _ => True) ((fun x env1 => (asg fx io cf t (.val x) (wipeE env1 own)).bind fun env2 => (evC fx io cf cs env2).bind fun q => if q.1 then (ev fx io cf e q.2).bind opt1 else .ok (Option.none, q.2)) x) := fun x a a' o q => by
          have m : Kp i (fun _ => True) fun env => (asg fx io cf t (.val x) env).bind fun env2 => (evC fx io cf cs env2).bind fun q => if q.1 then (ev fx io cf e q.2).bind opt1 else .ok (Option.none, q.2) := by
            refine (kpT t h3 (.val x) val_no).bind (Kp.of ((kpO cs h5).2.bind (G := fun q env => if q then (ev fx io cf e env).bind opt1 else .ok (Option.none, env)) fun q _ => ?_) fun env => rfl)
            cases q with
            | true => exact ((kpE e h2).bind (G := fun r env => opt1 (r, env)) fun r hr => kp_opt1 hr).of fun env => rfl
            | false => exact (Kp.pure trivial).of fun env => rfl
          obtain ⟨_, k⟩ := m (wipeE a own) a' o q
          exact ⟨trivial, by rw [k, wipeE_out ho]⟩
        obtain ⟨_, k2⟩ := compGo_kp ho hf (l := items) (acc := []) _ _ _ hg
        refine ⟨fr_no, ?_⟩
        rw [unlock_no n1, backE_out ho, k2, lock_no n1, k1]
      · cases e2
    · cases e2
  | .comp2 e t it cs t2 it2 cs2 own, _ => Kp.bad.of fun env => by unfold ev; rfl
theorem kpEs : ∀ l : Exs, nocEs i l = true → Kp i (As.no i) (evs fx io cf l)
  | .nil, _ => (Kp.pure no_nil).of fun env => by unfold evs; rfl
  | .cons e l, h => by
    obtain ⟨h1, h2⟩ := and2 h
    exact ((kpE e h1).bind fun z hz => (kpEs l h2).bind (G := fun y env => .ok (z.arg :: y, env)) fun y hy => Kp.pure (no_cons hz hy)).of fun env => by first | (rw [evs]; done) | (rw [evs]; rfl)
theorem kpO : ∀ o : Oe, nocO i o = true → Kp i (fun _ => True) (evO fx io cf o) ∧ Kp i (fun _ => True) (evC fx io cf o)
  | .no, _ => ⟨(Kp.pure trivial).of fun env => by unfold evO; rfl, (Kp.pure trivial).of fun env => by unfold evC; rfl⟩
  | .yes e, h => ⟨((kpE e h).bind (G := fun z env => match z with
    | .val (.int i) => .ok (some i, env)
    | _ => .bad) fun z _ => fun a a' x q => by
      simp only at q
      split at q
      · cases q; exact ⟨trivial, rfl⟩
      · cases q).of fun env => by first | (rw [evO]; done) | (rw [evO]; rfl), ((kpE e h).bind (G := fun z env => testR (z, env)) fun z _ => kp_test).of fun env => by first | (rw [evC]; done) | (rw [evC]; rfl)⟩
theorem kpI : ∀ it : MP.It, nocI i it = true → Kp i (INo i) (evI fx io cf it)
  | .seq e, h => ((kpE e h).bind (G := fun z env => match (deref env z.arg).bind seq? with
    | some l => .ok ((l, lockable env [z.arg]), env)
    | none => .bad) fun z hz => fun a a' x q => by
      simp only at q
      split at q
      · cases q; exact ⟨lockable_no (no_cons hz no_nil), rfl⟩
      · cases q).of fun env => by first | (rw [evI]; done) | (rw [evI]; rfl)
  | .rng1 p, h => ((kpE p h).bind (G := fun z env => (match z with
    | .val (.int j) => if -(2 ^ 62) ≤ j ∧ j < 2 ^ 62 then .ok (((List.range j.toNat).map fun (k : Nat) => .int (k : Int), []), env) else .bad
    | _ => .bad : RE ((List D × List Nat) × Env))) fun z _ => fun a a' x q => by
      try simp only at q
      split at q
      · split at q
        · cases q; exact ⟨(by simp [INo]), rfl⟩
        · cases q
      · cases q).of fun env => by first | (rw [evI]; done) | (rw [evI]; rfl)
  | .rng2 p q, h => by
    obtain ⟨h1, h2⟩ := and2 h
    exact ((kpE p h1).bind (Q2 := INo i) fun z _ => (kpE q h2).bind (Q2 := INo i) fun y _ => kp_rng2 (r := z) (q := y)).of fun env => by first | (rw [evI]; done) | (rw [evI]; rfl)
  | .zip p q, h => by
    obtain ⟨h1, h2⟩ := and2 h
    exact ((kpE p h1).bind (Q2 := INo i) fun z hz => (kpE q h2).bind (Q2 := INo i) (G := fun y env => match deref env z.arg, deref env y.arg with
    | some d, some e => (match seq? d, seq? e with
      | some l, some m => if (isL d && isL e) || (isTu d && isTu e) then .ok (((l.zip m).map fun p => .tup [p.1, p.2], lockable env [z.arg, y.arg]), env) else .bad
      | _, _ => .bad)
    | _, _ => .bad) fun y hy => fun a a' x q => by
      simp only at q
      split at q
      · split at q
        · split at q
          · cases q; exact ⟨lockable_no (no_cons hz (no_cons hy no_nil)), rfl⟩
          · cases q
        · cases q
      · cases q).of fun env => by first | (rw [evI]; done) | (rw [evI]; rfl)
  | .enum p, h => ((kpE p h).bind (G := fun z env => match deref env z.arg with
    | some d => (match seq? d with
      | some l => if isL d then .ok ((l.mapIdx fun k x => .tup [.int k, x], lockable env [z.arg]), env) else .bad
      | none => .bad)
    | none => .bad) fun z hz => fun a a' x q => by
      simp only at q
      split at q
      · split at q
        · split at q
          · cases q; exact ⟨lockable_no (no_cons hz no_nil), rfl⟩
          · cases q
        · cases q
      · cases q).of fun env => by first | (rw [evI]; done) | (rw [evI]; rfl)
theorem kpT : ∀ t : Tg, nocT i t = true → ∀ r, R.no i r → KpG i (asg fx io cf t r)
  | .nm j, h, r, hr => (kp_store (of_decide_eq_true h) hr).of fun env => by unfold asg; rfl
  | .tup l, h, r, hr => fun a a' q => by
    unfold asg at q
    split at q
    · split at q
      · exact kpTs l h _ a a' q
      · cases q
    · cases q
  | .ix j k, h, r, hr => fun a a' q => by
    obtain ⟨h1, h2⟩ := and2 h
    have hj : j ≠ i := of_decide_eq_true h1
    unfold asg at q
    split at q
    · refine (Kp.bindG (kpE k h2) (G := fun z env => match deref env r.arg, (frz1 env r.arg)[j]?, deref (frz1 env r.arg) z.arg with
      | some d, some (.ow own), some kd => (match setIxD own kd d with
        | some own' => .ok ((frz1 env r.arg).set j (.ow own'))
        | none => .bad)
      | _, _, _ => .bad) fun z hz => ?_) a a' q
      intro a a' q
      simp only at q
      split at q
      · split at q
        · cases q
          rw [List.getElem?_set_ne hj, frz1_no hr]
        · cases q
      · cases q
    · cases q
theorem kpTs : ∀ l : Tgs, nocTs i l = true → ∀ ds, KpG i (asgs fx io cf l ds)
  | .nil, _, [] => fun a a' q => by
    unfold asgs at q
    cases q; rfl
  | .nil, _, d :: ds => fun a a' q => by
    unfold asgs at q
    cases q
  | .cons t l, _, [] => fun a a' q => by
    unfold asgs at q
    cases q
  | .cons t l, h, d :: ds => by
    obtain ⟨h1, h2⟩ := and2 h
    exact (KpG.bindG (kpT t h1 (.val d) val_no) (kpTs l h2 ds)).of fun env => by first | (rw [asgs]; done) | (rw [asgs]; rfl)
end
mutual
theorem kpS : ∀ s : Sm, nocS i s = true → Kp i (fun _ => True) (exec fx io cf wf s)
  | .asg t e, h => by
    obtain ⟨h1, h2⟩ := and2 h
    exact ((kpE e h2).bind (G := fun z env => (asg fx io cf t z env).bind fun env1 => (Res.ok (Fl.nx, env1) : RE (Fl × Env))) fun z hz => (kpT t h1 z hz).bind (Kp.pure trivial)).of fun env => by first | (rw [exec]; done) | (rw [exec]; rfl)
  | .par j k p q, h => by
    obtain ⟨hj, h⟩ := and2 h
    obtain ⟨hk, h⟩ := and2 h
    obtain ⟨h1, h2⟩ := and2 h
    have hj : j ≠ i := of_decide_eq_true hj
    have hk : k ≠ i := of_decide_eq_true hk
    refine ((kpE p h1).bind fun za hza => (kpE q h2).bind (G := fun yb env => match za, yb with
    | za, .fr e => (match deref env za.arg with
      | some d => (store fx (frz1 env za.arg) j (.val d)).bind fun env1 => (store fx env1 k (.fr e)).bind fun env2 => (Res.ok (Fl.nx, env2) : RE (Fl × Env))
      | none => .bad)
    | .fr d, yb => (match deref env yb.arg with
      | some e => (store fx (frz1 env yb.arg) k (.val e)).bind fun env1 => (store fx env1 j (.fr d)).bind fun env2 => (Res.ok (Fl.nx, env2) : RE (Fl × Env))
      | none => .bad)
    | za, yb => (match deref env za.arg, deref env yb.arg with
      | some d, some e => (store fx (frz env [za.arg, yb.arg]) j (.val d)).bind fun env1 => (store fx env1 k (.val e)).bind fun env2 => (Res.ok (Fl.nx, env2) : RE (Fl × Env))
      | _, _ => .bad)) fun yb hyb => ?_).of fun env => by first | (rw [exec]; done) | (rw [exec]; rfl)
    have two : ∀ (j k : Nat) (r s : R), j ≠ i → k ≠ i → R.no i r → R.no i s → Kp i (fun _ => True) fun env => (store fx env j r).bind fun env1 => (store fx env1 k s).bind fun env2 => (.ok (Fl.nx, env2) : RE (Fl × Env)) := fun j k r s hj hk hr hs => (kp_store hj hr).bind ((kp_store hk hs).bind (Kp.pure trivial))
    have one : ∀ (x : A) (j k : Nat) (s : R), j ≠ i → k ≠ i → A.no i x → R.no i s → Kp i (fun _ => True) fun env => (match deref env x with
      | some d => (store fx (frz1 env x) j (.val d)).bind fun env1 => (store fx env1 k s).bind fun env2 => (Res.ok (Fl.nx, env2) : RE (Fl × Env))
      | none => .bad : RE (Fl × Env)) := fun x j k s hj hk hx hs a a' y q => by
      simp only at q
      split at q
      · obtain ⟨_, z⟩ := two j k _ s hj hk val_no hs _ _ _ q
        exact ⟨trivial, z.trans (frz1_no hx)⟩
      · cases q
    have both : ∀ (x z : A), A.no i x → A.no i z → Kp i (fun _ => True) fun env => (match deref env x, deref env z with
      | some d, some e => (store fx (frz env [x, z]) j (.val d)).bind fun env1 => (store fx env1 k (.val e)).bind fun env2 => (Res.ok (Fl.nx, env2) : RE (Fl × Env))
      | _, _ => .bad : RE (Fl × Env)) := fun x z hx hz a a' y q => by
      simp only at q
      split at q
      · obtain ⟨_, w⟩ := two j k _ _ hj hk val_no val_no _ _ _ q
        exact ⟨trivial, w.trans (frz_no (no_cons hx (no_cons hz no_nil)))⟩
      · cases q
    cases yb with
    | fr e => exact (one za.arg j k (.fr e) hj hk hza fr_no).of fun env => by cases za <;> rfl
    | val e =>
      cases za with
      | fr d => exact (one (.val e) k j (.fr d) hk hj hyb fr_no).of fun env => rfl
      | val d => exact (both (.val d) (.val e) hza hyb).of fun env => rfl
      | own l => exact (both (.own l) (.val e) hza hyb).of fun env => rfl
    | own m =>
      cases za with
      | fr d => exact (one (.own m) k j (.fr d) hk hj hyb fr_no).of fun env => rfl
      | val d => exact (both (.val d) (.own m) hza hyb).of fun env => rfl
      | own l => exact (both (.own l) (.own m) hza hyb).of fun env => rfl
  | .aug j o e, h => fun a a' x q => by
    obtain ⟨h1, h2⟩ := and2 h
    have hj : j ≠ i := of_decide_eq_true h1
    unfold exec at q
    split at q
    · rename_i x0 _
      refine ((kpE e h2).bind (Q2 := fun _ => True) (G := fun z env => match deref env z.arg with
      | some y => (match inplace o x0 y with
        | some r => (store fx env j r).bind fun env1 => (Res.ok (Fl.nx, env1) : RE (Fl × Env))
        | none => .bad)
      | none => .bad) fun z _ => ?_) a a' x q
      intro a a' x q
      simp only at q
      split at q
      · split at q
        · rename_i r hr
          have : R.no i r := by
            unfold inplace at hr
            split at hr <;> first | (cases hr; exact val_no) | cases hr
          exact ((kp_store hj this).bind (Q2 := fun _ => True) (Kp.pure trivial)) a a' x q
        · cases q
      · cases q
    · cases q
  | .expr e, h => ((kpE e h).bind (G := fun z env => (Res.ok (Fl.nx, env) : RE (Fl × Env))) fun z _ => Kp.pure trivial).of fun env => by first | (rw [exec]; done) | (rw [exec]; rfl)
  | .ret e, h => ((kpE e h).bind (G := fun z env => (Res.ok (Fl.ret z, env) : RE (Fl × Env))) fun z _ => Kp.pure trivial).of fun env => by first | (rw [exec]; done) | (rw [exec]; rfl)
  | .retN, _ => (Kp.pure trivial).of fun env => by first | (rw [exec]; done) | (rw [exec]; rfl)
  | .ite c p q, h => by
    obtain ⟨h0, h1⟩ := and2 h
    obtain ⟨h1, h2⟩ := and2 h1
    refine ((kpE c h0).bind (G := fun z env => (testR (z, env)).bind fun t => if t.1 then execs fx io cf wf p t.2 else execs fx io cf wf q t.2) fun z _ => kp_test.bind (G := fun t env => if t then execs fx io cf wf p env else execs fx io cf wf q env) fun t _ => ?_).of fun env => by first | (rw [exec]; done) | (rw [exec]; rfl)
    cases t with
    | true => exact (kpSs p h1).of fun env => rfl
    | false => exact (kpSs q h2).of fun env => rfl
  | .loop t it b0, h => fun a a' x q => by
    obtain ⟨h1, h2⟩ := and2 h
    obtain ⟨h2, h3⟩ := and2 h2
    unfold exec at q
    obtain ⟨⟨⟨items, lks⟩, a1⟩, e1, e2⟩ := bind_ok q
    obtain ⟨n1, k1⟩ := kpI it h2 a a1 _ e1
    have n1 : i ∉ lks := n1
    have m : ∀ x, Kp i (fun _ => True) fun env1 => (asg fx io cf t (.val x) env1).bind fun env2 => execs fx io cf wf b0 env2 := fun x => (kpT t h1 (.val x) val_no).bind (kpSs b0 h3)
    simp only at e2
    split at e2
    · rename_i y hg
      cases e2
      obtain ⟨_, k2⟩ := loopGo_kp m (l := items) _ _ _ hg
      exact ⟨trivial, by rw [unlock_no n1, k2, lock_no n1, k1]⟩
    · cases e2
    · cases e2
  | .whil c b0, h => by
    obtain ⟨h1, h2⟩ := and2 h
    have hc : Kp i (fun _ => True) fun env1 => (ev fx io cf c env1).bind testR := ((kpE c h1).bind (G := fun z env => testR (z, env)) fun z _ => kp_test).of fun env => rfl
    exact (whileGo_kp hc (kpSs b0 h2) (n := wf)).of fun env => by first | (rw [exec]; done) | (rw [exec]; rfl)
  | .pass, _ => (Kp.pure trivial).of fun env => by first | (rw [exec]; done) | (rw [exec]; rfl)
  | .brk, _ => (Kp.pure trivial).of fun env => by first | (rw [exec]; done) | (rw [exec]; rfl)
  | .cont, _ => (Kp.pure trivial).of fun env => by first | (rw [exec]; done) | (rw [exec]; rfl)
theorem kpSs : ∀ s : Sms, nocSs i s = true → Kp i (fun _ => True) (execs fx io cf wf s)
  | .nil, _ => (Kp.pure trivial).of fun env => by unfold execs; rfl
  | .cons s l, h => by
    obtain ⟨h1, h2⟩ := and2 h
    refine ((kpS s h1).bind (G := fun z env => match z with
    | .nx => execs fx io cf wf l env
    | z => .ok (z, env)) fun z _ => ?_).of fun env => ?_
    · cases z with
      | nx => exact (kpSs l h2).of fun env => rfl
      | bk => exact (Kp.pure trivial).of fun env => rfl
      | ct => exact (Kp.pure trivial).of fun env => rfl
      | ret r => exact (Kp.pure trivial).of fun env => rfl
    · rw [execs]
      congr 1
      funext z
      obtain ⟨f, e⟩ := z
      cases f <;> rfl
end
end
end MP
end
section
set_option Elab.async false
set_option linter.all false
set_option maxRecDepth 100000
set_option maxHeartbeats 1000000
/-! MFY: a def's body by segments. -/
namespace MP
open PySem L2

def mkE (n : Nat) (l : List (Nat × Slot)) : Env := l.foldl (fun e p => e.set p.1 p.2) (List.replicate n .un)
def Sms.take : Nat → Sms → Sms
  | 0, _ => .nil
  | _ + 1, .nil => .nil
  | k + 1, .cons s l => .cons s (l.take k)
def Sms.drop : Nat → Sms → Sms
  | 0, l => l
  | _ + 1, .nil => .nil
  | k + 1, .cons s l => l.drop k
def isUn : Slot → Bool
  | .un => true
  | _ => false
/-- all slots but those of B are plain -/
def plainOut (B : List Nat) (e : Env) : Bool := (List.range e.length).all fun i => B.contains i || (e[i]?).any plain
structure EOk (B : List Nat) (n : Nat) (b : Env) : Prop where
  len : b.length = n
  pl : ∀ i, i < n → i ∉ B → (b[i]?).any plain = true
def Facts (b : Env) (l : List (Nat × Slot)) : Prop := ∀ p ∈ l, b[p.1]? = some p.2
section
variable {B : List Nat} {n : Nat} {fx : List Nat} {io : Str → List Bool} {cf : Str → List D → RC} {wf : Nat}
theorem mkE_len : ∀ {l : List (Nat × Slot)} {e : Env}, (l.foldl (fun e p => e.set p.1 p.2) e).length = e.length
  | [], _ => rfl
  | p :: l, e => by rw [List.foldl_cons, mkE_len, List.length_set]
theorem mkE_get : ∀ {l : List (Nat × Slot)} {e : Env} {i : Nat} {s : Slot}, (l.foldl (fun e p => e.set p.1 p.2) e)[i]? = some s → (i, s) ∈ l ∨ e[i]? = some s
  | [], _, _, _, h => .inr h
  | p :: l, e, i, s, h => by
    rcases mkE_get (l := l) h with h | h
    · exact .inl (List.mem_cons_of_mem _ h)
    · rcases set_get h with ⟨z, z2⟩ | ⟨_, z⟩
      · left
        rw [← z, z2]
        exact List.mem_cons_self
      · exact .inr z
theorem EOk.rel {b : Env} (hb : EOk B n b) {l : List (Nat × Slot)} (hl : Facts b l) : Rel B (mkE n l) b := by
  have len : (mkE n l).length = n := by unfold mkE; rw [mkE_len, List.length_replicate]
  refine ⟨len.trans hb.len.symm, fun i => ?_⟩
  cases q : (mkE n l)[i]? with
  | none =>
    left
    rw [List.getElem?_eq_none_iff, len] at q
    rw [List.getElem?_eq_none (by rw [hb.len]; exact q)]
  | some s =>
    rcases mkE_get q with z | z
    · exact .inl (hl _ z).symm
    · rw [List.getElem?_replicate] at z
      split at z
      · rename_i hi
        cases z
        right
        refine ⟨rfl, ?_⟩
        by_cases m : i ∈ B
        · exact .inl m
        · exact .inr (hb.pl i hi m)
      · cases z
theorem EOk.fr {a b a' b' : Env} (hb : EOk B n b) (h : Fr a b a' b') (la : a.length = n) (hp : plainOut B a' = true) : EOk B n b' := by
  have l1 : a'.length = n := h.1.2.trans la
  refine ⟨by rw [← h.1.1]; exact l1, fun i hi m => ?_⟩
  rcases h.2 i with z | ⟨_, _, z⟩
  · rw [← z]
    unfold plainOut at hp
    rw [List.all_eq_true] at hp
    have := hp i (List.mem_range.mpr (by omega))
    rw [Bool.or_eq_true] at this
    rcases this with w | w
    · exact absurd (by simpa using w) m
    · exact w
  · rw [z]; exact hb.pl i hi m
theorem drop_take : ∀ {m : Nat} {ss : Sms} {env env1 : Env}, execs fx io cf wf (ss.take m) env = .ok (.nx, env1) → execs fx io cf wf ss env = execs fx io cf wf (ss.drop m) env1
  | 0, ss, env, env1, h => by
    have h : execs fx io cf wf .nil env = .ok (.nx, env1) := by cases ss <;> exact h
    rw [exs_nil] at h
    cases h
    cases ss <;> rfl
  | m + 1, .nil, env, env1, h => by
    have h : execs fx io cf wf .nil env = .ok (.nx, env1) := h
    rw [exs_nil] at h
    cases h
    rfl
  | m + 1, .cons s l, env, env1, h => by
    have h : execs fx io cf wf (.cons s (l.take m)) env = .ok (.nx, env1) := h
    rw [execs] at h
    obtain ⟨⟨f, e⟩, e1, e2⟩ := bind_ok h
    cases f with
    | nx =>
      show execs fx io cf wf (.cons s l) env = execs fx io cf wf (l.drop m) env1
      rw [execs, e1]
      exact drop_take (m := m) (ss := l) e2
    | bk => cases e2
    | ct => cases e2
    | ret r => cases e2
theorem drop_add : ∀ {j m : Nat} {ss : Sms}, (ss.drop j).drop m = ss.drop (j + m)
  | 0, m, ss => by
    rw [Nat.zero_add]
    cases ss <;> rfl
  | j + 1, m, .nil => by
    rw [show j + 1 + m = (j + m) + 1 by omega]
    show Sms.drop m .nil = .nil
    cases m <;> rfl
  | j + 1, m, .cons s l => by
    rw [show j + 1 + m = (j + m) + 1 by omega]
    exact drop_add (j := j) (m := m) (ss := l)
/-- a segment that runs on few slots runs on all -/
theorem seg {ss : Sms} {b a' : Env} {j m : Nat} {l : List (Nat × Slot)} (hb : EOk B n b) (hl : Facts b l) (hav : avSs B ((ss.drop j).take m) = true) (h : execs fx io cf wf ((ss.drop j).take m) (mkE n l) = .ok (.nx, a')) (hp : plainOut B a' = true) :
    ∃ b', execs fx io cf wf (ss.drop j) b = execs fx io cf wf (ss.drop (j + m)) b' ∧ EOk B n b' ∧ Fr (mkE n l) b a' b' := by
  obtain ⟨b', g, f⟩ := frSs ((ss.drop j).take m) hav (mkE n l) b a' .nx (hb.rel hl) h
  have len : (mkE n l).length = n := by unfold mkE; rw [mkE_len, List.length_replicate]
  exact ⟨b', by rw [drop_take g, drop_add], hb.fr f len hp, f⟩
theorem Fr.at {a b a' b' : Env} (h : Fr a b a' b') {i : Nat} {s : Slot} (e : a'[i]? = some s) (n : isUn s = false) : b'[i]? = some s := by
  rcases h.2 i with z | ⟨z, _, _⟩
  · rw [← z]; exact e
  · rw [e] at z; cases z; cases n
/-- the same, with what it keeps -/
theorem segK {ss : Sms} {b a' : Env} {j m : Nat} {l : List (Nat × Slot)} (hb : EOk B n b) (hl : Facts b l) (hav : avSs B ((ss.drop j).take m) = true) (h : execs fx io cf wf ((ss.drop j).take m) (mkE n l) = .ok (.nx, a')) (hp : plainOut B a' = true) :
    ∃ b', execs fx io cf wf (ss.drop j) b = execs fx io cf wf (ss.drop (j + m)) b' ∧ EOk B n b' ∧ (∀ (i : Nat) (s : Slot), a'[i]? = some s → isUn s = false → b'[i]? = some s) ∧ ∀ i : Nat, nocSs i ((ss.drop j).take m) = true → b'[i]? = b[i]? := by
  obtain ⟨b', g, f⟩ := frSs ((ss.drop j).take m) hav (mkE n l) b a' .nx (hb.rel hl) h
  have len : (mkE n l).length = n := by unfold mkE; rw [mkE_len, List.length_replicate]
  exact ⟨b', by rw [drop_take g, drop_add], hb.fr f len hp, fun i s e hn => f.at e hn, fun i hi => (kpSs ((ss.drop j).take m) hi b b' .nx g).2⟩
/-- a segment by evaluation -/
def segRuns (B : List Nat) (n : Nat) (fx : List Nat) (io : Str → List Bool) (cf : Str → List D → RC) (wf : Nat) (ss : Sms) (j m : Nat) (l : List (Nat × Slot)) : Bool := match execs fx io cf wf ((ss.drop j).take m) (mkE n l) with
  | .ok (.nx, a') => plainOut B a'
  | _ => false
theorem segD {ss : Sms} {b : Env} {j m : Nat} {l : List (Nat × Slot)} (hb : EOk B n b) (hl : Facts b l) (hav : avSs B ((ss.drop j).take m) = true) (h : segRuns B n fx io cf wf ss j m l = true) :
    ∃ b', execs fx io cf wf (ss.drop j) b = execs fx io cf wf (ss.drop (j + m)) b' ∧ EOk B n b' ∧ ∀ i : Nat, nocSs i ((ss.drop j).take m) = true → b'[i]? = b[i]? := by
  unfold segRuns at h
  split at h
  · rename_i a' e
    obtain ⟨b', g1, g2, _, g3⟩ := segK hb hl hav e h
    exact ⟨b', g1, g2, g3⟩
  · cases h
end
end MP
end
section
set_option Elab.async false
set_option linter.all false
set_option maxRecDepth 100000
set_option maxHeartbeats 2000000
/-! K00D: the common divisors of two numbers. -/
namespace K00
open MP PySem
abbrev exL (s : Sm) (env : MP.Env) := MP.exec (ioIx [false]) ioL (cfL 28) 1000000 s env
abbrev exsL (s : Sms) (env : MP.Env) := MP.execs (ioIx [false]) ioL (cfL 28) 1000000 s env
def gD (a b : Int) : MP.D → Option MP.D
  | .int d => if a.fmod d = 0 ∧ b.fmod d = 0 then some (.int d) else none
  | _ => none
def topD (a b : Int) : Int := maxI ((a.natAbs : Nat) : Int) [((b.natAbs : Nat) : Int), 1]
def itemsD (a b : Int) : List MP.D := (List.range (topD a b + 1 - 1).toNat).map fun (k : Nat) => .int (1 + (k : Int))
theorem abs_eq (i : Int) : (if i < 0 then -i else i) = ((i.natAbs : Nat) : Int) := by split <;> omega
theorem ints_map : ∀ ns : List Int, ints? (ns.map MP.D.int) = some ns
  | [] => rfl
  | n :: ns => by simp [ints?, ints_map ns]
theorem maxI_le : ∀ (r : List Int) (x m : Int), x ≤ m → (∀ y ∈ r, y ≤ m) → maxI x r ≤ m
  | [], x, m, h, _ => h
  | y :: r, x, m, h, g => by
    unfold maxI
    refine maxI_le r _ m ?_ fun z hz => g z (List.mem_cons_of_mem _ hz)
    split
    · exact g y List.mem_cons_self
    · exact h
theorem le_maxI : ∀ (r : List Int) (x : Int), x ≤ maxI x r ∧ ∀ y ∈ r, y ≤ maxI x r
  | [], x => ⟨Int.le_refl _, fun y h => by cases h⟩
  | y :: r, x => by
    unfold maxI
    obtain ⟨h1, h2⟩ := le_maxI r (if y > x then y else x)
    refine ⟨Int.le_trans (by split <;> omega) h1, fun z hz => ?_⟩
    rcases List.mem_cons.mp hz with rfl | hz
    · exact Int.le_trans (by split <;> omega) h1
    · exact h2 z hz
theorem max_lst {ns : List Int} {m : Int} (h : m ∈ ns) (g : ∀ x ∈ ns, x ≤ m) : bltD .max [.lst (ns.map MP.D.int)] = some (.val (.int m)) := by
  show (ints? (ns.map MP.D.int)).bind _ = _
  rw [ints_map]
  cases ns with
  | nil => cases h
  | cons x r =>
    have : maxI x r = m := by
      refine Int.le_antisymm (maxI_le r x m (g x List.mem_cons_self) fun y hy => g y (List.mem_cons_of_mem _ hy)) ?_
      obtain ⟨h1, h2⟩ := le_maxI r x
      rcases List.mem_cons.mp h with rfl | h
      · exact h1
      · exact h2 m h
    show some (MP.R.val (.int (maxI x r))) = _
    rw [this]
/-- the divisors as numbers -/
def divsD (a b : Int) : List Int := ((List.range (topD a b + 1 - 1).toNat).map fun (k : Nat) => 1 + (k : Int)).filter fun d => decide (a.fmod d = 0 ∧ b.fmod d = 0)
theorem divs_eq (a b : Int) : (itemsD a b).filterMap (gD a b) = (divsD a b).map MP.D.int := by
  unfold itemsD divsD
  generalize List.range _ = l
  induction l with
  | nil => rfl
  | cons k r ih =>
    simp only [List.map_cons, List.filterMap_cons, List.filter_cons]
    by_cases h : a.fmod (1 + (k : Int)) = 0 ∧ b.fmod (1 + (k : Int)) = 0
    · simp [gD, h, ih]
    · simp [gD, h, ih]
theorem both_ok (a b : Int) (ha : a.natAbs ≤ 1000) (hb : b.natAbs ≤ 1000) : exL (.asg (.nm 4) (.comp (.var 5) (.nm 5) (.rng2 (.int 1) (.bin .add (.blt .max (.cons (.blt .abs (.cons (.var 2) .nil)) (.cons (.blt .abs (.cons (.var 3) .nil)) (.cons (.int 1) .nil)))) (.int 1))) (.yes (.and (.cmp .eq (.bin .mod (.blt .int (.cons (.var 2) .nil)) (.var 5)) (.int 0)) (.cmp .eq (.bin .mod (.blt .int (.cons (.var 3) .nil)) (.var 5)) (.int 0)))) [5]))
    [.un, .un, .sh (.int a), .sh (.int b), .un, .un, .un, .un, .un, .un, .un, .un, .un, .un, .un, .un, .un, .un, .un, .un, .un, .un, .un, .un, .un, .un, .un, .un, .un, .un] = .ok (.nx, [.un, .un, .sh (.int a), .sh (.int b), .ow (.lst ((divsD a b).map .int)), .un, .un, .un, .un, .un, .un, .un, .un, .un, .un, .un, .un, .un, .un, .un, .un, .un, .un, .un, .un, .un, .un, .un, .un, .un]) := by
  have top1 : topD a b ≤ 1000 := maxI_le _ _ _ (by omega) fun y hy => by
    simp at hy
    rcases hy with rfl | rfl <;> omega
  have top0 : 1 ≤ topD a b := (le_maxI _ _).2 1 (by simp)
  have hI : MP.evI (ioIx [false]) ioL (cfL 28) (.rng2 (.int 1) (.bin .add (.blt .max (.cons (.blt .abs (.cons (.var 2) .nil)) (.cons (.blt .abs (.cons (.var 3) .nil)) (.cons (.int 1) .nil)))) (.int 1))) [.un, .un, .sh (.int a), .sh (.int b), .un, .un, .un, .un, .un, .un, .un, .un, .un, .un, .un, .un, .un, .un, .un, .un, .un, .un, .un, .un, .un, .un, .un, .un, .un, .un] = .ok ((itemsD a b, []), [.un, .un, .sh (.int a), .sh (.int b), .un, .un, .un, .un, .un, .un, .un, .un, .un, .un, .un, .un, .un, .un, .un, .un, .un, .un, .un, .un, .un, .un, .un, .un, .un, .un]) := by
    have e : maxI ((a.natAbs : Nat) : Int) [((b.natAbs : Nat) : Int), 1] = topD a b := rfl
    have c : (-(2 ^ 62) : Int) ≤ 1 ∧ (1 : Int) < 2 ^ 62 ∧ -(2 ^ 62) ≤ topD a b + 1 ∧ topD a b + 1 < 2 ^ 62 := by refine ⟨?_, ?_, ?_, ?_⟩ <;> omega
    simp only [MP.evI, MP.ev, MP.evs, Res.bind, strict, derefs, deref, R.arg, bltD, abs_eq, binD, List.getElem?_cons_succ, List.getElem?_cons_zero, Option.bind_some, Option.map_some, e]
    rw [if_pos c]
    rfl
  obtain ⟨env', e1, s5, rfl⟩ := comp_map (f := fun x env1 => (MP.asg (ioIx [false]) ioL (cfL 28) (.nm 5) (.val x) (wipeE env1 [5])).bind fun env2 => (MP.evC (ioIx [false]) ioL (cfL 28) (.yes (.and (.cmp .eq (.bin .mod (.blt .int (.cons (.var 2) .nil)) (.var 5)) (.int 0)) (.cmp .eq (.bin .mod (.blt .int (.cons (.var 3) .nil)) (.var 5)) (.int 0)))) env2).bind fun q => if q.1 then (MP.ev (ioIx [false]) ioL (cfL 28) (.var 5) q.2).bind opt1 else .ok (none, q.2))
    (gD a b) (fun env => ∃ s5, env = [.un, .un, .sh (.int a), .sh (.int b), .un, s5, .un, .un, .un, .un, .un, .un, .un, .un, .un, .un, .un, .un, .un, .un, .un, .un, .un, .un, .un, .un, .un, .un, .un, .un]) (l := itemsD a b) (acc := []) (env := [.un, .un, .sh (.int a), .sh (.int b), .un, .un, .un, .un, .un, .un, .un, .un, .un, .un, .un, .un, .un, .un, .un, .un, .un, .un, .un, .un, .un, .un, .un, .un, .un, .un]) (by
      unfold itemsD
      simp only [List.length_nil, List.length_map, List.length_range, Nat.zero_add]
      exact Nat.le_trans (show (topD a b + 1 - 1).toNat ≤ 1000 by omega) (by decide)) ⟨.un, rfl⟩ (fun x env hx ⟨s5, e⟩ => by
    subst e
    obtain ⟨k, _, rfl⟩ := List.mem_map.mp (show x ∈ (List.range (topD a b + 1 - 1).toNat).map fun (k : Nat) => MP.D.int (1 + (k : Int)) from hx)
    have hne : ¬ ((1 : Int) + (k : Int) = 0) := by omega
    refine ⟨[.un, .un, .sh (.int a), .sh (.int b), .un, .sh (.int (1 + (k : Int))), .un, .un, .un, .un, .un, .un, .un, .un, .un, .un, .un, .un, .un, .un, .un, .un, .un, .un, .un, .un, .un, .un, .un, .un], ?_, _, rfl⟩
    by_cases h1 : a.fmod (1 + (k : Int)) = 0
    · by_cases h2 : b.fmod (1 + (k : Int)) = 0
      · simp [wipeE, evC, gD, opt1, startE, MP.execs, MP.exec, MP.ev, MP.evs, Res.bind, strict, derefs, deref, slotD, R.arg, cmpD, ixD, L2.atI, L2.ixN, testR, bltD, binD, MP.store, ioIx, MP.finish, outsOf, MP.asg, frz1, setIxD, pyEq_int, hne, h1, h2]
      · simp [wipeE, evC, gD, opt1, startE, MP.execs, MP.exec, MP.ev, MP.evs, Res.bind, strict, derefs, deref, slotD, R.arg, cmpD, ixD, L2.atI, L2.ixN, testR, bltD, binD, MP.store, ioIx, MP.finish, outsOf, MP.asg, frz1, setIxD, pyEq_int, hne, h1, h2]
    · simp [wipeE, evC, gD, opt1, startE, MP.execs, MP.exec, MP.ev, MP.evs, Res.bind, strict, derefs, deref, slotD, R.arg, cmpD, ixD, L2.atI, L2.ixN, testR, bltD, binD, MP.store, ioIx, MP.finish, outsOf, MP.asg, frz1, setIxD, pyEq_int, hne, h1])
  show MP.exec _ _ _ _ _ _ = _
  rw [MP.exec, ev_comp (lks := []) (env1 := [.un, .un, .sh (.int a), .sh (.int b), .un, .un, .un, .un, .un, .un, .un, .un, .un, .un, .un, .un, .un, .un, .un, .un, .un, .un, .un, .un, .un, .un, .un, .un, .un, .un]) hI rfl e1, List.nil_append, divs_eq]
  rfl
end K00
end
section
set_option Elab.async false
set_option linter.all false
set_option maxRecDepth 100000
set_option maxHeartbeats 2000000
/-! K00E: the check of the common divisor. -/
namespace K00
open MP PySem
theorem io_same : ioL "_law_same" = [false, false] := by decide +kernel
theorem io_common : ioL "common" = [false, false] := by decide +kernel
theorem fmod_zero {a d : Int} (hd : 0 < d) : a.fmod d = 0 ↔ d ∣ a := by
  rw [Int.fmod_eq_emod_of_nonneg _ (Int.le_of_lt hd)]
  exact (Int.dvd_iff_emod_eq_zero).symm
theorem mem_divs {a b d : Int} : d ∈ divsD a b ↔ (1 ≤ d ∧ d ≤ topD a b) ∧ d ∣ a ∧ d ∣ b := by
  unfold divsD
  rw [List.mem_filter, List.mem_map]
  constructor
  · rintro ⟨⟨k, hk, rfl⟩, h⟩
    rw [List.mem_range] at hk
    have h := of_decide_eq_true h
    exact ⟨⟨by omega, by omega⟩, (fmod_zero (by omega)).mp h.1, (fmod_zero (by omega)).mp h.2⟩
  · rintro ⟨⟨h1, h2⟩, h3, h4⟩
    refine ⟨⟨(d - 1).toNat, List.mem_range.mpr (by omega), by omega⟩, decide_eq_true ⟨(fmod_zero (by omega)).mpr h3, (fmod_zero (by omega)).mpr h4⟩⟩
theorem max_divs {a b : Int} (h : ¬ (a = 0 ∧ b = 0)) : bltD .max [.lst ((divsD a b).map MP.D.int)] = some (.val (.int (Nat.gcd a.natAbs b.natAbs : Nat))) := by
  have hg : 0 < Nat.gcd a.natAbs b.natAbs := by
    rcases Nat.eq_zero_or_pos (Nat.gcd a.natAbs b.natAbs) with z | z
    · obtain ⟨z1, z2⟩ := Nat.gcd_eq_zero_iff.mp z
      exact absurd ⟨Int.natAbs_eq_zero.mp z1, Int.natAbs_eq_zero.mp z2⟩ h
    · exact z
  have d1 : ((Nat.gcd a.natAbs b.natAbs : Nat) : Int) ∣ a := Int.ofNat_dvd_left.mpr (Nat.gcd_dvd_left _ _)
  have d2 : ((Nat.gcd a.natAbs b.natAbs : Nat) : Int) ∣ b := Int.ofNat_dvd_left.mpr (Nat.gcd_dvd_right _ _)
  refine max_lst (mem_divs.mpr ⟨⟨by omega, ?_⟩, d1, d2⟩) fun x hx => ?_
  · have t1 : ((a.natAbs : Nat) : Int) ≤ topD a b := (le_maxI _ _).1
    have t2 : ((b.natAbs : Nat) : Int) ≤ topD a b := (le_maxI _ _).2 _ (by simp)
    by_cases ha : a = 0
    · have hb : 0 < b.natAbs := by omega
      have := Nat.le_of_dvd hb (Nat.gcd_dvd_right a.natAbs b.natAbs)
      omega
    · have := Nat.le_of_dvd (show 0 < a.natAbs by omega) (Nat.gcd_dvd_left a.natAbs b.natAbs)
      omega
  · obtain ⟨⟨h1, _⟩, h3, h4⟩ := mem_divs.mp hx
    have e : ((x.toNat : Nat) : Int) = x := by omega
    have g1 : x.toNat ∣ a.natAbs := Int.ofNat_dvd_left.mp (by rw [e]; exact h3)
    have g2 : x.toNat ∣ b.natAbs := Int.ofNat_dvd_left.mp (by rw [e]; exact h4)
    have := Nat.le_of_dvd hg (Nat.dvd_gcd g1 g2)
    omega
theorem abs_d (i : Int) : bltD .abs [.int i] = some (.val (.int ((i.natAbs : Nat) : Int))) := by rw [← abs_eq]; rfl
def sC : Sm := .ite (.or (.not (.call "_law_same" (.cons (.call "common" (.cons (.var 2) (.cons (.var 3) .nil))) (.cons (.ite (.and (.cmp .eq (.var 2) (.int 0)) (.cmp .eq (.var 3) (.int 0))) (.int 0) (.blt .max (.cons (.var 4) .nil))) .nil)))) (.not (.call "_law_same" (.cons (.call "common" (.cons (.int 0) (.cons (.var 3) .nil))) (.cons (.blt .abs (.cons (.var 3) .nil)) .nil))))) (.cons (.ret (.bl false)) .nil) .nil
theorem check_ok (a b : Int) (ha : a.natAbs ≤ 1000) (hb : b.natAbs ≤ 1000) (s5 : Slot) : exL sC [.un, .un, .sh (.int a), .sh (.int b), .ow (.lst ((divsD a b).map .int)), s5, .un, .un, .un, .un, .un, .un, .un, .un, .un, .un, .un, .un, .un, .un, .un, .un, .un, .un, .un, .un, .un, .un, .un, .un] = .ok (.nx, [.un, .un, .sh (.int a), .sh (.int b), .ow (.lst ((divsD a b).map .int)), s5, .un, .un, .un, .un, .un, .un, .un, .un, .un, .un, .un, .un, .un, .un, .un, .un, .un, .un, .un, .un, .un, .un, .un, .un]) := by
  have h1 := common_ok 27 a b (by omega)
  have h2 := common_ok 27 0 b (by omega)
  have h3 := same_int 26
  have g0 : Nat.gcd (0 : Int).natAbs b.natAbs = b.natAbs := by simp
  rw [g0] at h2
  have e1 : cfL 28 = cfL (27 + 1) := rfl
  by_cases hz : a = 0 ∧ b = 0
  · obtain ⟨rfl, rfl⟩ := hz
    simp [sC, exL, MP.exec, MP.ev, MP.evs, Res.bind, strict, derefs, deref, slotD, R.arg, testR, cmpD, pyEq_int, callGo, io_same, io_common, ioSlots, nonIo, frz, frz1, setOuts, h1, h2, h3, exs_nil, bltD, abs_eq]
  · have hm := max_divs hz
    by_cases h0 : a = 0
    · have hb0 : b ≠ 0 := fun z => hz ⟨h0, z⟩
      subst h0
      rw [g0] at hm
      simp [sC, exL, MP.exec, MP.ev, MP.evs, Res.bind, strict, derefs, deref, slotD, R.arg, testR, cmpD, pyEq_int, callGo, io_same, io_common, ioSlots, nonIo, frz, frz1, setOuts, h1, h2, h3, exs_nil, hm, hb0, abs_d]
    · simp [sC, exL, MP.exec, MP.ev, MP.evs, Res.bind, strict, derefs, deref, slotD, R.arg, testR, cmpD, pyEq_int, callGo, io_same, io_common, ioSlots, nonIo, frz, frz1, setOuts, h1, h2, h3, exs_nil, hm, h0, abs_d]
end K00
end
section
set_option Elab.async false
set_option linter.all false
set_option maxRecDepth 100000
set_option maxHeartbeats 2000000
/-! K00F: what is drawn. -/
namespace K00
open MP PySem
def rowIts : List Int := [-36, -24, -12, 0, 12, 24, 36]
theorem range_len (c : Int) (h : c ≤ 1000) : ([] : List MP.D).length + ((List.range c.toNat).map fun (k : Nat) => MP.D.int (k : Int)).length ≤ sizeLine := by
  simp only [List.length_nil, List.length_map, List.length_range, Nat.zero_add]
  exact Nat.le_trans (show c.toNat ≤ 1000 by omega) (by decide)
/-- by the turn: each gives an item -/
theorem comp_ix {f : MP.D → MP.Env → RE (Option MP.D × MP.Env)} (I : Nat → List MP.D → MP.Env → Prop) : ∀ {l : List MP.D} {k : Nat} {acc : List MP.D} {env : MP.Env}, acc.length + l.length ≤ sizeLine → I k acc env → (∀ (i : Nat) (x : MP.D) (acc : List MP.D) (env : MP.Env), l[i]? = some x → I (k + i) acc env → ∃ o env', f x env = .ok (o, env') ∧ I (k + i + 1) (acc ++ o.toList) env') → ∃ res env', compGo f l env acc = .ok (res, env') ∧ I (k + l.length) res env'
  | [], k, acc, env, _, h, _ => ⟨acc, env, rfl, h⟩
  | x :: xs, k, acc, env, hl, h, hs => by
    obtain ⟨o, env1, e1, h1⟩ := hs 0 x acc env rfl h
    rw [List.length_cons] at hl
    have tl : ∀ (i : Nat) (y : MP.D) (acc : List MP.D) (env : MP.Env), xs[i]? = some y → I (k + 1 + i) acc env → ∃ o env', f y env = .ok (o, env') ∧ I (k + 1 + i + 1) (acc ++ o.toList) env' := fun i y a e hy hi => by
      obtain ⟨o, e', z1, z2⟩ := hs (i + 1) y a e (by simpa using hy) (by rw [show k + (i + 1) = k + 1 + i by omega]; exact hi)
      exact ⟨o, e', z1, by rw [show k + 1 + i + 1 = k + (i + 1) + 1 by omega]; exact z2⟩
    rw [List.length_cons, show k + (xs.length + 1) = k + 1 + xs.length by omega]
    unfold compGo
    rw [e1]
    cases o with
    | none =>
      rw [show acc ++ (none : Option MP.D).toList = acc by simp] at h1
      exact comp_ix I (by omega) h1 tl
    | some d =>
      obtain ⟨res, env2, e2, h2⟩ := comp_ix I (l := xs) (k := k + 1) (acc := acc ++ [d]) (env := env1) (by simp; omega) h1 tl
      refine ⟨res, env2, ?_, h2⟩
      show (if acc.length < sizeLine then compGo f xs env1 (acc ++ [d]) else .bad) = _
      rw [if_pos (by omega)]
      exact e2
theorem row_draw (s0 s1 : Int) : ∃ (t0 t1 : Int) (vs : List Int), exL (.asg (.nm 6) (.blt .tuple (.cons (.comp (.bin .mul (.int 12) (.call "_law_number" (.cons (.var 1) .nil))) (.nm 7) (.rng1 (.call "_law_take" (.cons (.var 1) (.cons (.int 4) .nil)))) .no [7]) .nil)))
    [.un, .ow (.lst [.int s0, .int s1]), .un, .un, .un, .un, .un, .un, .un, .un, .un, .un, .un, .un, .un, .un, .un, .un, .un, .un, .un, .un, .un, .un, .un, .un, .un, .un, .un, .un] = .ok (.nx, [.un, .ow (.lst [.int t0, .int t1]), .un, .un, .un, .un, .sh (.tup (vs.map .int)), .un, .un, .un, .un, .un, .un, .un, .un, .un, .un, .un, .un, .un, .un, .un, .un, .un, .un, .un, .un, .un, .un, .un]) ∧ vs.length ≤ 3 ∧ ∀ v ∈ vs, v ∈ rowIts := by
  obtain ⟨c, u0, u1, c1, c2, hc⟩ := take_ok 27 s0 s1 4 (by omega) (by omega)
  have hI : MP.evI (ioIx [false]) ioL (cfL 28) (.rng1 (.call "_law_take" (.cons (.var 1) (.cons (.int 4) .nil)))) [.un, .ow (.lst [.int s0, .int s1]), .un, .un, .un, .un, .un, .un, .un, .un, .un, .un, .un, .un, .un, .un, .un, .un, .un, .un, .un, .un, .un, .un, .un, .un, .un, .un, .un, .un] = .ok (((List.range c.toNat).map fun (k : Nat) => .int (k : Int), []), [.un, .ow (.lst [.int u0, .int u1]), .un, .un, .un, .un, .un, .un, .un, .un, .un, .un, .un, .un, .un, .un, .un, .un, .un, .un, .un, .un, .un, .un, .un, .un, .un, .un, .un, .un]) := by
    simp [MP.evI, MP.ev, MP.evs, Res.bind, derefs, deref, slotD, R.arg, callGo, io_take, ioSlots, nonIo, frz, frz1, setOuts, isOw, hc]
    omega
  obtain ⟨res, env', e1, t0, t1, s7, vs, rfl, rfl, hl, hv⟩ := comp_ix (k := 0) (f := fun x env1 => (MP.asg (ioIx [false]) ioL (cfL 28) (.nm 7) (.val x) (wipeE env1 [7])).bind fun env2 => (MP.evC (ioIx [false]) ioL (cfL 28) .no env2).bind fun q => if q.1 then (MP.ev (ioIx [false]) ioL (cfL 28) (.bin .mul (.int 12) (.call "_law_number" (.cons (.var 1) .nil))) q.2).bind opt1 else .ok (none, q.2))
    (fun n acc env => ∃ (t0 t1 : Int) (s7 : Slot) (vs : List Int), env = [.un, .ow (.lst [.int t0, .int t1]), .un, .un, .un, .un, .un, s7, .un, .un, .un, .un, .un, .un, .un, .un, .un, .un, .un, .un, .un, .un, .un, .un, .un, .un, .un, .un, .un, .un] ∧ acc = vs.map .int ∧ vs.length = n ∧ ∀ v ∈ vs, v ∈ rowIts) (l := (List.range c.toNat).map fun (k : Nat) => .int (k : Int)) (acc := []) (env := [.un, .ow (.lst [.int u0, .int u1]), .un, .un, .un, .un, .un, .un, .un, .un, .un, .un, .un, .un, .un, .un, .un, .un, .un, .un, .un, .un, .un, .un, .un, .un, .un, .un, .un, .un]) (range_len c (by omega)) ⟨u0, u1, .un, [], rfl, rfl, rfl, fun v h => by cases h⟩ (fun i x acc env hx ⟨t0, t1, s7, vs, e, e2, el, hv⟩ => by
    subst e; subst e2
    obtain ⟨v, w0, w1, v1, v2, hn⟩ := number_ok 26 t0 t1
    have hm : mulOk 12 v = true := mulOk_l (by decide)
    refine ⟨some (.int (12 * v)), [.un, .ow (.lst [.int w0, .int w1]), .un, .un, .un, .un, .un, .sh x, .un, .un, .un, .un, .un, .un, .un, .un, .un, .un, .un, .un, .un, .un, .un, .un, .un, .un, .un, .un, .un, .un], ?_, w0, w1, .sh x, vs ++ [12 * v], rfl, by simp, by simp [el], fun z hz => ?_⟩
    · simp [wipeE, evC, opt1, MP.asg, MP.store, MP.ev, MP.evs, Res.bind, strict, derefs, deref, slotD, R.arg, callGo, io_number, ioSlots, nonIo, frz, frz1, setOuts, isOw, hn, binD, hm, ioIx]
    · rcases List.mem_append.mp hz with hz | hz
      · exact hv z hz
      · rw [List.mem_singleton] at hz
        subst hz
        have : v = -3 ∨ v = -2 ∨ v = -1 ∨ v = 0 ∨ v = 1 ∨ v = 2 ∨ v = 3 := by omega
        rcases this with rfl | rfl | rfl | rfl | rfl | rfl | rfl <;> decide)
  rw [Nat.zero_add, List.length_map, List.length_range] at hl
  refine ⟨t0, t1, vs, ?_, by omega, hv⟩
  show MP.exec _ _ _ _ _ _ = _
  rw [MP.exec]
  have hv2 : MP.ev (ioIx [false]) ioL (cfL 28) (.blt .tuple (.cons (.comp (.bin .mul (.int 12) (.call "_law_number" (.cons (.var 1) .nil))) (.nm 7) (.rng1 (.call "_law_take" (.cons (.var 1) (.cons (.int 4) .nil)))) .no [7]) .nil)) [.un, .ow (.lst [.int s0, .int s1]), .un, .un, .un, .un, .un, .un, .un, .un, .un, .un, .un, .un, .un, .un, .un, .un, .un, .un, .un, .un, .un, .un, .un, .un, .un, .un, .un, .un] = .ok (.val (.tup (vs.map .int)), [.un, .ow (.lst [.int t0, .int t1]), .un, .un, .un, .un, .un, .un, .un, .un, .un, .un, .un, .un, .un, .un, .un, .un, .un, .un, .un, .un, .un, .un, .un, .un, .un, .un, .un, .un]) := by
    rw [MP.ev, MP.evs, ev_comp (lks := []) (env1 := [.un, .ow (.lst [.int u0, .int u1]), .un, .un, .un, .un, .un, .un, .un, .un, .un, .un, .un, .un, .un, .un, .un, .un, .un, .un, .un, .un, .un, .un, .un, .un, .un, .un, .un, .un]) hI rfl e1]
    rfl
  rw [hv2]
  rfl
theorem line_draw (s0 s1 : Int) : ∃ (t0 t1 : Int) (vs : List Int), exL (.asg (.nm 18) (.blt .tupleF (.cons (.comp (.call "_law_take" (.cons (.var 1) (.cons (.int 7) .nil))) (.nm 13) (.rng1 (.call "_law_take" (.cons (.var 1) (.cons (.int 6) .nil)))) .no [13]) .nil)))
    [.un, .ow (.lst [.int s0, .int s1]), .un, .un, .un, .un, .un, .un, .un, .un, .un, .un, .un, .un, .un, .un, .un, .un, .un, .un, .un, .un, .un, .un, .un, .un, .un, .un, .un, .un] = .ok (.nx, [.un, .ow (.lst [.int t0, .int t1]), .un, .un, .un, .un, .un, .un, .un, .un, .un, .un, .un, .un, .un, .un, .un, .un, .sh (.tf (vs.map .int)), .un, .un, .un, .un, .un, .un, .un, .un, .un, .un, .un]) ∧ vs.length ≤ 5 ∧ ∀ v ∈ vs, 0 ≤ v ∧ v < 7 := by
  obtain ⟨c, u0, u1, c1, c2, hc⟩ := take_ok 27 s0 s1 6 (by omega) (by omega)
  have hI : MP.evI (ioIx [false]) ioL (cfL 28) (.rng1 (.call "_law_take" (.cons (.var 1) (.cons (.int 6) .nil)))) [.un, .ow (.lst [.int s0, .int s1]), .un, .un, .un, .un, .un, .un, .un, .un, .un, .un, .un, .un, .un, .un, .un, .un, .un, .un, .un, .un, .un, .un, .un, .un, .un, .un, .un, .un] = .ok (((List.range c.toNat).map fun (k : Nat) => .int (k : Int), []), [.un, .ow (.lst [.int u0, .int u1]), .un, .un, .un, .un, .un, .un, .un, .un, .un, .un, .un, .un, .un, .un, .un, .un, .un, .un, .un, .un, .un, .un, .un, .un, .un, .un, .un, .un]) := by
    simp [MP.evI, MP.ev, MP.evs, Res.bind, derefs, deref, slotD, R.arg, callGo, io_take, ioSlots, nonIo, frz, frz1, setOuts, isOw, hc]
    omega
  obtain ⟨res, env', e1, t0, t1, s7, vs, rfl, rfl, hl, hv⟩ := comp_ix (k := 0) (f := fun x env1 => (MP.asg (ioIx [false]) ioL (cfL 28) (.nm 13) (.val x) (wipeE env1 [13])).bind fun env2 => (MP.evC (ioIx [false]) ioL (cfL 28) .no env2).bind fun q => if q.1 then (MP.ev (ioIx [false]) ioL (cfL 28) (.call "_law_take" (.cons (.var 1) (.cons (.int 7) .nil))) q.2).bind opt1 else .ok (none, q.2))
    (fun n acc env => ∃ (t0 t1 : Int) (s7 : Slot) (vs : List Int), env = [.un, .ow (.lst [.int t0, .int t1]), .un, .un, .un, .un, .un, .un, .un, .un, .un, .un, .un, s7, .un, .un, .un, .un, .un, .un, .un, .un, .un, .un, .un, .un, .un, .un, .un, .un] ∧ acc = vs.map .int ∧ vs.length = n ∧ ∀ v ∈ vs, 0 ≤ v ∧ v < 7) (l := (List.range c.toNat).map fun (k : Nat) => .int (k : Int)) (acc := []) (env := [.un, .ow (.lst [.int u0, .int u1]), .un, .un, .un, .un, .un, .un, .un, .un, .un, .un, .un, .un, .un, .un, .un, .un, .un, .un, .un, .un, .un, .un, .un, .un, .un, .un, .un, .un]) (range_len c (by omega)) ⟨u0, u1, .un, [], rfl, rfl, rfl, fun v h => by cases h⟩ (fun i x acc env hx ⟨t0, t1, s7, vs, e, e2, el, hv⟩ => by
    subst e; subst e2
    obtain ⟨v, w0, w1, v1, v2, hn⟩ := take_ok 27 t0 t1 7 (by omega) (by omega)
    refine ⟨some (.int v), [.un, .ow (.lst [.int w0, .int w1]), .un, .un, .un, .un, .un, .un, .un, .un, .un, .un, .un, .sh x, .un, .un, .un, .un, .un, .un, .un, .un, .un, .un, .un, .un, .un, .un, .un, .un], ?_, w0, w1, .sh x, vs ++ [v], rfl, by simp, by simp [el], fun z hz => ?_⟩
    · simp [wipeE, evC, opt1, MP.asg, MP.store, MP.ev, MP.evs, Res.bind, strict, derefs, deref, slotD, R.arg, callGo, io_take, ioSlots, nonIo, frz, frz1, setOuts, isOw, hn, ioIx]
    · rcases List.mem_append.mp hz with hz | hz
      · exact hv z hz
      · rw [List.mem_singleton] at hz
        subst hz
        exact ⟨v1, v2⟩)
  rw [Nat.zero_add, List.length_map, List.length_range] at hl
  refine ⟨t0, t1, vs, ?_, by omega, hv⟩
  show MP.exec _ _ _ _ _ _ = _
  rw [MP.exec]
  have hv2 : MP.ev (ioIx [false]) ioL (cfL 28) (.blt .tupleF (.cons (.comp (.call "_law_take" (.cons (.var 1) (.cons (.int 7) .nil))) (.nm 13) (.rng1 (.call "_law_take" (.cons (.var 1) (.cons (.int 6) .nil)))) .no [13]) .nil)) [.un, .ow (.lst [.int s0, .int s1]), .un, .un, .un, .un, .un, .un, .un, .un, .un, .un, .un, .un, .un, .un, .un, .un, .un, .un, .un, .un, .un, .un, .un, .un, .un, .un, .un, .un] = .ok (.val (.tf (vs.map .int)), [.un, .ow (.lst [.int t0, .int t1]), .un, .un, .un, .un, .un, .un, .un, .un, .un, .un, .un, .un, .un, .un, .un, .un, .un, .un, .un, .un, .un, .un, .un, .un, .un, .un, .un, .un]) := by
    rw [MP.ev, MP.evs, ev_comp (lks := []) (env1 := [.un, .ow (.lst [.int u0, .int u1]), .un, .un, .un, .un, .un, .un, .un, .un, .un, .un, .un, .un, .un, .un, .un, .un, .un, .un, .un, .un, .un, .un, .un, .un, .un, .un, .un, .un]) hI rfl e1]
    rfl
  rw [hv2]
  rfl
/-- statement 7: n, k -/
theorem nk_draw (s0 s1 : Int) : ∃ (t0 t1 n k : Int), exL (.asg (.tup (.cons (.nm 10) (.cons (.nm 7) .nil))) (.tup (.cons (.call "_law_take" (.cons (.var 1) (.cons (.int 7) .nil))) (.cons (.call "_law_take" (.cons (.var 1) (.cons (.int 8) .nil))) .nil))))
    [.un, .ow (.lst [.int s0, .int s1]), .un, .un, .un, .un, .un, .un, .un, .un, .un, .un, .un, .un, .un, .un, .un, .un, .un, .un, .un, .un, .un, .un, .un, .un, .un, .un, .un, .un] = .ok (.nx, [.un, .ow (.lst [.int t0, .int t1]), .un, .un, .un, .un, .un, .sh (.int k), .un, .un, .sh (.int n), .un, .un, .un, .un, .un, .un, .un, .un, .un, .un, .un, .un, .un, .un, .un, .un, .un, .un, .un]) ∧ (0 ≤ n ∧ n < 7) ∧ 0 ≤ k ∧ k < 8 := by
  obtain ⟨n, u0, u1, n1, n2, hn⟩ := take_ok 27 s0 s1 7 (by omega) (by omega)
  obtain ⟨k, t0, t1, k1, k2, hk⟩ := take_ok 27 u0 u1 8 (by omega) (by omega)
  refine ⟨t0, t1, n, k, ?_, ⟨n1, n2⟩, k1, k2⟩
  have hs : small 2 = true := by decide
  simp [exL, MP.exec, MP.asg, asgs, Tgs.len, MP.store, MP.ev, MP.evs, Res.bind, strict, derefs, deref, slotD, R.arg, callGo, io_take, ioSlots, nonIo, frz, frz1, setOuts, isOw, hn, hk, hs, ioIx]
theorem ab_draw (s0 s1 : Int) : ∃ (t0 t1 a b : Int), exL (.asg (.tup (.cons (.nm 2) (.cons (.nm 3) .nil))) (.tup (.cons (.bin .sub (.call "_law_take" (.cons (.var 1) (.cons (.int 2001) .nil))) (.int 1000)) (.cons (.bin .sub (.call "_law_take" (.cons (.var 1) (.cons (.int 2001) .nil))) (.int 1000)) .nil))))
    [.un, .ow (.lst [.int s0, .int s1]), .un, .un, .un, .un, .un, .un, .un, .un, .un, .un, .un, .un, .un, .un, .un, .un, .un, .un, .un, .un, .un, .un, .un, .un, .un, .un, .un, .un] = .ok (.nx, [.un, .ow (.lst [.int t0, .int t1]), .sh (.int a), .sh (.int b), .un, .un, .un, .un, .un, .un, .un, .un, .un, .un, .un, .un, .un, .un, .un, .un, .un, .un, .un, .un, .un, .un, .un, .un, .un, .un]) ∧ a.natAbs ≤ 1000 ∧ b.natAbs ≤ 1000 := by
  obtain ⟨n, u0, u1, n1, n2, hn⟩ := take_ok 27 s0 s1 2001 (by omega) (by omega)
  obtain ⟨k, t0, t1, k1, k2, hk⟩ := take_ok 27 u0 u1 2001 (by omega) (by omega)
  refine ⟨t0, t1, n - 1000, k - 1000, ?_, by omega, by omega⟩
  have hs : small 2 = true := by decide
  simp [exL, MP.exec, MP.asg, asgs, Tgs.len, MP.store, MP.ev, MP.evs, Res.bind, strict, derefs, deref, slotD, R.arg, callGo, io_take, ioSlots, nonIo, frz, frz1, setOuts, isOw, hn, hk, hs, ioIx, binD]
theorem m_draw (s0 s1 : Int) : ∃ (t0 t1 m : Int), exL (.asg (.nm 17) (.call "_law_take" (.cons (.var 1) (.cons (.int 5) .nil))))
    [.un, .ow (.lst [.int s0, .int s1]), .un, .un, .un, .un, .un, .un, .un, .un, .un, .un, .un, .un, .un, .un, .un, .un, .un, .un, .un, .un, .un, .un, .un, .un, .un, .un, .un, .un] = .ok (.nx, [.un, .ow (.lst [.int t0, .int t1]), .un, .un, .un, .un, .un, .un, .un, .un, .un, .un, .un, .un, .un, .un, .un, .sh (.int m), .un, .un, .un, .un, .un, .un, .un, .un, .un, .un, .un, .un]) ∧ 0 ≤ m ∧ m < 5 := by
  obtain ⟨n, u0, u1, n1, n2, hn⟩ := take_ok 27 s0 s1 5 (by omega) (by omega)
  refine ⟨u0, u1, n, ?_, n1, n2⟩
  simp [exL, MP.exec, MP.asg, MP.store, MP.ev, MP.evs, Res.bind, strict, derefs, deref, slotD, R.arg, callGo, io_take, ioSlots, nonIo, frz, frz1, setOuts, isOw, hn, ioIx]
theorem state_draw (ns : List Int) : ∃ (t0 t1 : Int), exL (.asg (.nm 1) (.call "_law_state" (.cons (.var 0) .nil)))
    [.sh (.fz (ns.map .int)), .un, .un, .un, .un, .un, .un, .un, .un, .un, .un, .un, .un, .un, .un, .un, .un, .un, .un, .un, .un, .un, .un, .un, .un, .un, .un, .un, .un, .un] = .ok (.nx, [.sh (.fz (ns.map .int)), .ow (.lst [.int t0, .int t1]), .un, .un, .un, .un, .un, .un, .un, .un, .un, .un, .un, .un, .un, .un, .un, .un, .un, .un, .un, .un, .un, .un, .un, .un, .un, .un, .un, .un]) := by
  obtain ⟨u0, u1, hn⟩ := state_ok 27 ns
  have io_state : ioL "_law_state" = [false] := by decide +kernel
  refine ⟨u0, u1, ?_⟩
  simp [exL, MP.exec, MP.asg, MP.store, MP.ev, MP.evs, Res.bind, strict, derefs, deref, slotD, R.arg, callGo, io_state, ioSlots, nonIo, frz, frz1, setOuts, isOw, hn, ioIx]
def itemsOf (ts : List Int) : List Int := sortI (ts.mapIdx fun i t => 3 * (i : Int) + t)
theorem items_draw (s0 s1 : Int) : ∃ (t0 t1 : Int) (vs : List Int), exL (.asg (.nm 12) (.blt .tuple (.cons (.blt .sorted (.cons (.comp (.bin .add (.bin .mul (.int 3) (.var 13)) (.call "_law_take" (.cons (.var 1) (.cons (.int 3) .nil)))) (.nm 13) (.rng1 (.call "_law_take" (.cons (.var 1) (.cons (.int 5) .nil)))) .no [13]) .nil)) .nil)))
    [.un, .ow (.lst [.int s0, .int s1]), .un, .un, .un, .un, .un, .un, .un, .un, .un, .un, .un, .un, .un, .un, .un, .un, .un, .un, .un, .un, .un, .un, .un, .un, .un, .un, .un, .un] = .ok (.nx, [.un, .ow (.lst [.int t0, .int t1]), .un, .un, .un, .un, .un, .un, .un, .un, .un, .un, .sh (.tup ((itemsOf vs).map .int)), .un, .un, .un, .un, .un, .un, .un, .un, .un, .un, .un, .un, .un, .un, .un, .un, .un]) ∧ vs.length ≤ 4 ∧ ∀ v ∈ vs, 0 ≤ v ∧ v < 3 := by
  obtain ⟨c, u0, u1, c1, c2, hc⟩ := take_ok 27 s0 s1 5 (by omega) (by omega)
  have hI : MP.evI (ioIx [false]) ioL (cfL 28) (.rng1 (.call "_law_take" (.cons (.var 1) (.cons (.int 5) .nil)))) [.un, .ow (.lst [.int s0, .int s1]), .un, .un, .un, .un, .un, .un, .un, .un, .un, .un, .un, .un, .un, .un, .un, .un, .un, .un, .un, .un, .un, .un, .un, .un, .un, .un, .un, .un] = .ok (((List.range c.toNat).map fun (k : Nat) => .int (k : Int), []), [.un, .ow (.lst [.int u0, .int u1]), .un, .un, .un, .un, .un, .un, .un, .un, .un, .un, .un, .un, .un, .un, .un, .un, .un, .un, .un, .un, .un, .un, .un, .un, .un, .un, .un, .un]) := by
    simp [MP.evI, MP.ev, MP.evs, Res.bind, derefs, deref, slotD, R.arg, callGo, io_take, ioSlots, nonIo, frz, frz1, setOuts, isOw, hc]
    omega
  obtain ⟨res, env', e1, t0, t1, s7, vs, rfl, rfl, hl, hv⟩ := comp_ix (k := 0) (f := fun x env1 => (MP.asg (ioIx [false]) ioL (cfL 28) (.nm 13) (.val x) (wipeE env1 [13])).bind fun env2 => (MP.evC (ioIx [false]) ioL (cfL 28) .no env2).bind fun q => if q.1 then (MP.ev (ioIx [false]) ioL (cfL 28) (.bin .add (.bin .mul (.int 3) (.var 13)) (.call "_law_take" (.cons (.var 1) (.cons (.int 3) .nil)))) q.2).bind opt1 else .ok (none, q.2))
    (fun n acc env => ∃ (t0 t1 : Int) (s7 : Slot) (vs : List Int), env = [.un, .ow (.lst [.int t0, .int t1]), .un, .un, .un, .un, .un, .un, .un, .un, .un, .un, .un, s7, .un, .un, .un, .un, .un, .un, .un, .un, .un, .un, .un, .un, .un, .un, .un, .un] ∧ acc = (vs.mapIdx fun i t => 3 * (i : Int) + t).map .int ∧ vs.length = n ∧ ∀ v ∈ vs, 0 ≤ v ∧ v < 3) (l := (List.range c.toNat).map fun (k : Nat) => .int (k : Int)) (acc := []) (env := [.un, .ow (.lst [.int u0, .int u1]), .un, .un, .un, .un, .un, .un, .un, .un, .un, .un, .un, .un, .un, .un, .un, .un, .un, .un, .un, .un, .un, .un, .un, .un, .un, .un, .un, .un]) (range_len c (by omega)) ⟨u0, u1, .un, [], rfl, rfl, rfl, fun v h => by cases h⟩ (fun i x acc env hx ⟨t0, t1, s7, vs, e, e2, el, hv⟩ => by
    subst e; subst e2
    have hxi : x = .int (i : Int) := by
      rw [List.getElem?_map] at hx
      obtain ⟨y, hy, rfl⟩ := Option.map_eq_some_iff.mp hx
      have hi : i < (List.range c.toNat).length := (List.getElem?_eq_some_iff.mp hy).1
      rw [List.length_range] at hi
      rw [List.getElem?_range hi] at hy
      cases hy; rfl
    subst hxi
    rw [Nat.zero_add] at el
    obtain ⟨v, w0, w1, v1, v2, hn⟩ := take_ok 27 t0 t1 3 (by omega) (by omega)
    have hm : mulOk 3 (i : Int) = true := mulOk_l (by decide)
    refine ⟨some (.int (3 * (i : Int) + v)), [.un, .ow (.lst [.int w0, .int w1]), .un, .un, .un, .un, .un, .un, .un, .un, .un, .un, .un, .sh (.int (i : Int)), .un, .un, .un, .un, .un, .un, .un, .un, .un, .un, .un, .un, .un, .un, .un, .un], ?_, w0, w1, .sh (.int (i : Int)), vs ++ [v], rfl, ?_, by simp [el], fun z hz => ?_⟩
    · simp [wipeE, evC, opt1, MP.asg, MP.store, MP.ev, MP.evs, Res.bind, strict, derefs, deref, slotD, R.arg, callGo, io_take, ioSlots, nonIo, frz, frz1, setOuts, isOw, hn, ioIx, binD, hm]
    · simp [List.mapIdx_append, el]
    · rcases List.mem_append.mp hz with hz | hz
      · exact hv z hz
      · rw [List.mem_singleton] at hz
        subst hz
        exact ⟨v1, v2⟩)
  rw [Nat.zero_add, List.length_map, List.length_range] at hl
  refine ⟨t0, t1, vs, ?_, by omega, hv⟩
  show MP.exec _ _ _ _ _ _ = _
  rw [MP.exec]
  have hv2 : MP.ev (ioIx [false]) ioL (cfL 28) (.blt .tuple (.cons (.blt .sorted (.cons (.comp (.bin .add (.bin .mul (.int 3) (.var 13)) (.call "_law_take" (.cons (.var 1) (.cons (.int 3) .nil)))) (.nm 13) (.rng1 (.call "_law_take" (.cons (.var 1) (.cons (.int 5) .nil)))) .no [13]) .nil)) .nil)) [.un, .ow (.lst [.int s0, .int s1]), .un, .un, .un, .un, .un, .un, .un, .un, .un, .un, .un, .un, .un, .un, .un, .un, .un, .un, .un, .un, .un, .un, .un, .un, .un, .un, .un, .un] = .ok (.val (.tup ((itemsOf vs).map .int)), [.un, .ow (.lst [.int t0, .int t1]), .un, .un, .un, .un, .un, .un, .un, .un, .un, .un, .un, .un, .un, .un, .un, .un, .un, .un, .un, .un, .un, .un, .un, .un, .un, .un, .un, .un]) := by
    rw [MP.ev, MP.evs, MP.ev, MP.evs, ev_comp (lks := []) (env1 := [.un, .ow (.lst [.int u0, .int u1]), .un, .un, .un, .un, .un, .un, .un, .un, .un, .un, .un, .un, .un, .un, .un, .un, .un, .un, .un, .un, .un, .un, .un, .un, .un, .un, .un, .un]) hI rfl e1]
    simp [Res.bind, strict, derefs, deref, R.arg, bltD, seq?, ints_map, itemsOf, MP.evs, unlock, backE]
  rw [hv2]
  rfl
end K00
end
section
set_option Elab.async false
set_option linter.all false
set_option maxRecDepth 100000
set_option maxHeartbeats 2000000
/-! K00G: the numbers put in order, as a plain function. -/
namespace K00
open MP PySem
def stepB (z : List Int × Int) (j : Nat) : List Int × Int := if z.1.getD j 0 > z.1.getD (j + 1) 0 then ((z.1.set j (z.1.getD (j + 1) 0)).set (j + 1) (z.1.getD j 0), -z.2) else z
def passB (z : List Int × Int) (n : Nat) : List Int × Int := (List.range n).foldl stepB z
def bubB (l : List Int) : List Int × Int := (List.range l.length).foldl (fun z i => passB z (l.length - 1 - i)) (l, 1)
theorem stepB_len (z : List Int × Int) (j : Nat) : (stepB z j).1.length = z.1.length := by
  unfold stepB; split <;> simp
theorem getI {l : List Int} {j : Nat} (h : j < l.length) : (l.map MP.D.int)[j]? = some (.int (l.getD j 0)) := by
  rw [List.getElem?_map, List.getElem?_eq_getElem h, List.getD_eq_getElem?_getD, List.getElem?_eq_getElem h]; rfl
def bodyB : Sms := .cons (.ite (.cmp .gt (.ix (.var 1) (.var 4)) (.ix (.var 1) (.bin .add (.var 4) (.int 1)))) (.cons (.asg (.tup (.cons (.ix 1 (.var 4)) (.cons (.ix 1 (.bin .add (.var 4) (.int 1))) .nil))) (.tup (.cons (.ix (.var 1) (.bin .add (.var 4) (.int 1))) (.cons (.ix (.var 1) (.var 4)) .nil)))) (.cons (.asg (.nm 2) (.neg (.var 2))) .nil)) .nil) .nil
theorem ixN_nat {n j : Nat} (h : j < n) : L2.ixN n (j : Int) = some j := by
  unfold L2.ixN
  rw [if_pos (by omega), if_pos (by omega)]
  simp
theorem atI_nat {l : List Int} {j : Nat} (h : j < l.length) : L2.atI (l.map MP.D.int) (j : Int) = some (.int (l.getD j 0)) := by
  unfold L2.atI
  rw [ixN_nat (by simpa using h)]
  exact getI h
theorem stepB_ok (fx : List Nat) (h1 : 1 ∉ fx) (h2 : 2 ∉ fx) (k : Nat) (ln : MP.D) (l : List Int) (sg i : Int) (j : Nat) (hj : j + 1 < l.length) :
    MP.execs fx ioL (cfL k) 1000000 bodyB [.sh ln, .ow (.lst (l.map .int)), .sh (.int sg), .sh (.int i), .sh (.int (j : Int)), .un, .un] = .ok (.nx, [.sh ln, .ow (.lst ((stepB (l, sg) j).1.map .int)), .sh (.int (stepB (l, sg) j).2), .sh (.int i), .sh (.int (j : Int)), .un, .un]) := by
  have a1 := atI_nat (l := l) (j := j) (by omega)
  have a2 := atI_nat (l := l) (j := j + 1) hj
  have a3 : ((j + 1 : Nat) : Int) = (j : Int) + 1 := by omega
  rw [a3] at a2
  have i1 : L2.ixN l.length (j : Int) = some j := ixN_nat (by omega)
  have i2 : L2.ixN l.length ((j : Int) + 1) = some (j + 1) := by rw [← a3]; exact ixN_nat hj
  have hs : small 2 = true := by decide
  unfold stepB
  simp only
  generalize l.getD j 0 = x at *
  generalize l.getD (j + 1) 0 = y at *
  by_cases h : x > y
  · have h' : y < x := h
    simp [bodyB, h', MP.execs, MP.exec, MP.ev, MP.evs, Res.bind, strict, derefs, deref, slotD, R.arg, testR, cmpD, ixD, binD, MP.asg, asgs, Tgs.len, MP.store, setIxD, frz, frz1, a1, a2, i1, i2, hs, h1, h2]
  · have h' : ¬ y < x := h
    simp [bodyB, h', MP.execs, MP.exec, MP.ev, MP.evs, Res.bind, strict, derefs, deref, slotD, R.arg, testR, cmpD, ixD, binD, frz, frz1, a1, a2]
theorem passB_len (z : List Int × Int) : ∀ n, (passB z n).1.length = z.1.length := by
  intro n
  unfold passB
  induction n with
  | zero => rfl
  | succ n ih => rw [List.range_succ, List.foldl_append]; simp [stepB_len, ih]
theorem passB_succ (z : List Int × Int) (n : Nat) : passB z (n + 1) = stepB (passB z n) n := by
  unfold passB
  rw [List.range_succ, List.foldl_append]; rfl
def innB : Sm := .loop (.nm 4) (.rng1 (.bin .sub (.bin .sub (.blt .len (.cons (.var 1) .nil)) (.int 1)) (.var 3))) bodyB
theorem inner_ok (fx : List Nat) (h1 : 1 ∉ fx) (h2 : 2 ∉ fx) (h4 : 4 ∉ fx) (k : Nat) (ln : MP.D) (l : List Int) (sg : Int) (i : Nat) (s4 : Slot) (hi : i < l.length) (hl : l.length ≤ 1000) :
    ∃ s4', MP.exec fx ioL (cfL k) 1000000 innB [.sh ln, .ow (.lst (l.map .int)), .sh (.int sg), .sh (.int (i : Int)), s4, .un, .un] = .ok (.nx, [.sh ln, .ow (.lst ((passB (l, sg) (l.length - 1 - i)).1.map .int)), .sh (.int (passB (l, sg) (l.length - 1 - i)).2), .sh (.int (i : Int)), s4', .un, .un]) := by
  have hI : MP.evI fx ioL (cfL k) (.rng1 (.bin .sub (.bin .sub (.blt .len (.cons (.var 1) .nil)) (.int 1)) (.var 3))) [.sh ln, .ow (.lst (l.map .int)), .sh (.int sg), .sh (.int (i : Int)), s4, .un, .un] = .ok (((List.range (l.length - 1 - i)).map fun (k : Nat) => .int (k : Int), []), [.sh ln, .ow (.lst (l.map .int)), .sh (.int sg), .sh (.int (i : Int)), s4, .un, .un]) := by
    have e : ((l.length : Int) - 1 - (i : Int)).toNat = l.length - 1 - i := by omega
    simp [MP.evI, MP.ev, MP.evs, Res.bind, strict, derefs, deref, slotD, R.arg, bltD, seq?, binD, e]
    omega
  obtain ⟨env', e1, s4', l2, sg2, rfl, hz⟩ := loop_all (f := fun x env1 => (MP.asg fx ioL (cfL k) (.nm 4) (.val x) env1).bind fun env2 => MP.execs fx ioL (cfL k) 1000000 bodyB env2)
    (fun n env => ∃ s4 l2 sg2, env = [.sh ln, .ow (.lst (l2.map .int)), .sh (.int sg2), .sh (.int (i : Int)), s4, .un, .un] ∧ (l2, sg2) = passB (l, sg) n) (l := (List.range (l.length - 1 - i)).map fun (k : Nat) => MP.D.int (k : Int)) (k := 0) (env := [.sh ln, .ow (.lst (l.map .int)), .sh (.int sg), .sh (.int (i : Int)), s4, .un, .un]) ⟨s4, l, sg, rfl, rfl⟩ (fun j x env hx ⟨s4, l2, sg2, e, ez⟩ => by
      subst e
      have hxj : x = .int (j : Int) ∧ j < l.length - 1 - i := by
        rw [List.getElem?_map] at hx
        obtain ⟨y, hy, rfl⟩ := Option.map_eq_some_iff.mp hx
        have hi : j < (List.range (l.length - 1 - i)).length := (List.getElem?_eq_some_iff.mp hy).1
        rw [List.length_range] at hi
        rw [List.getElem?_range hi] at hy
        cases hy; exact ⟨rfl, hi⟩
      obtain ⟨rfl, hj⟩ := hxj
      rw [Nat.zero_add] at ez ⊢
      have len : l2.length = l.length := by
        have := passB_len (l, sg) j
        rw [← ez] at this; exact this
      have st := stepB_ok fx h1 h2 k ln l2 sg2 (i : Int) j (by omega)
      refine ⟨_, ?_, .sh (.int (j : Int)), (stepB (l2, sg2) j).1, (stepB (l2, sg2) j).2, rfl, ?_⟩
      · rw [MP.asg]
        have : MP.store fx [.sh ln, .ow (.lst (l2.map .int)), .sh (.int sg2), .sh (.int (i : Int)), s4, .un, .un] 4 (.val (.int (j : Int))) = .ok [.sh ln, .ow (.lst (l2.map .int)), .sh (.int sg2), .sh (.int (i : Int)), .sh (.int (j : Int)), .un, .un] := by simp [MP.store, h4]
        rw [this]
        exact st
      · rw [passB_succ, ← ez])
  rw [Nat.zero_add, List.length_map, List.length_range] at hz
  refine ⟨s4', ?_⟩
  rw [← hz]
  exact exec_loop (lks := []) hI e1
end K00
end
section
set_option Elab.async false
set_option linter.all false
set_option maxRecDepth 100000
set_option maxHeartbeats 1000000
/-! MQA: evaluation by rules, one for each form; comprehensions by functions. -/
namespace MP
open PySem L2

section
variable {fx : List Nat} {io : Str → List Bool} {cf : Str → List D → RC} {wf : Nat}
theorem nrfl {α : Sort _} {a b : α} (h : a = b) : a = b := h
theorem bind_congr {ε α β : Type} {a a' : Res ε α} {f : α → Res ε β} (h : a = a') : Res.bind a f = Res.bind a' f := by rw [h]
theorem bind_k {ε α β : Type} {a : α} {f : α → Res ε β} : Res.bind (.ok a) f = f a := nrfl rfl
theorem bind_bad {ε α β : Type} {f : α → Res ε β} : Res.bind .bad f = .bad := nrfl rfl
theorem arg_val {d : D} : R.arg (.val d) = .val d := nrfl rfl
theorem arg_fr {d : D} : R.arg (.fr d) = .val d := nrfl rfl
theorem arg_own {i : Nat} : R.arg (.own i) = .own i := nrfl rfl
theorem deref_val {env : Env} {d : D} : deref env (.val d) = some d := nrfl rfl
theorem deref_own {env : Env} {i : Nat} : deref env (.own i) = env[i]?.bind slotD := nrfl rfl
theorem slot_sh {d : D} : slotD (.sh d) = some d := nrfl rfl
theorem slot_ow {d : D} : slotD (.ow d) = some d := nrfl rfl
theorem slot_lk {d : D} : slotD (.lk d) = some d := nrfl rfl
theorem io_0 : ioIx [] = [] := nrfl rfl
theorem io_f : ioIx [false] = [] := nrfl rfl
theorem io_ff : ioIx [false, false] = [] := nrfl rfl
theorem io_fff : ioIx [false, false, false] = [] := nrfl rfl
theorem io_ffff : ioIx [false, false, false, false] = [] := nrfl rfl
theorem io_t : ioIx [true] = [0] := nrfl rfl
theorem io_tf : ioIx [true, false] = [0] := nrfl rfl
theorem io_tff : ioIx [true, false, false] = [0] := nrfl rfl
theorem frz_nil {env : Env} : frz env [] = env := nrfl rfl
theorem frz_val {env : Env} {d : D} {as : List A} : frz env (.val d :: as) = frz env as := nrfl rfl
theorem frz_own {env : Env} {i : Nat} {as : List A} : frz env (.own i :: as) = frz (env.modify i toSh) as := nrfl rfl
theorem frz1_val {env : Env} {d : D} : frz1 env (.val d) = env := nrfl rfl
theorem frz1_own {env : Env} {i : Nat} : frz1 env (.own i) = env.modify i toSh := nrfl rfl
theorem bltD_abs {i : Int} : bltD .abs [.int i] = some (.val (.int ((i.natAbs : Nat) : Int))) := by
  show some (R.val (.int (if i < 0 then -i else i))) = _
  congr 3
  split <;> omega
theorem len_tup {l : List D} : bltD .len [.tup l] = some (.val (.int l.length)) := nrfl rfl
theorem len_lst {l : List D} : bltD .len [.lst l] = some (.val (.int l.length)) := nrfl rfl
theorem len_fz {l : List D} : bltD .len [.fz l] = some (.val (.int l.length)) := nrfl rfl
theorem len_tf {l : List D} : bltD .len [.tf l] = some (.val (.int l.length)) := nrfl rfl
theorem list_tup {l : List D} : bltD .list [.tup l] = some (.fr (.lst l)) := nrfl rfl
theorem list_lst {l : List D} : bltD .list [.lst l] = some (.fr (.lst l)) := nrfl rfl
theorem list_tf {l : List D} : bltD .list [.tf l] = some (.fr (.lst l)) := nrfl rfl
theorem tuple_tup {l : List D} : bltD .tuple [.tup l] = some (.val (.tup l)) := nrfl rfl
theorem tuple_lst {l : List D} : bltD .tuple [.lst l] = some (.val (.tup l)) := nrfl rfl
theorem tuple_tf {l : List D} : bltD .tuple [.tf l] = some (.val (.tf l)) := nrfl rfl
theorem tupleF_lst {l : List D} : bltD .tupleF [.lst l] = some (.val (.tf l)) := nrfl rfl
theorem int_int {i : Int} : bltD .int [.int i] = some (.val (.int i)) := nrfl rfl
theorem int_bl {b : Bool} : bltD .int [.bl b] = some (.val (.int (if b then 1 else 0))) := nrfl rfl
theorem max_ij {i j : Int} : bltD .max [.int i, .int j] = some (.val (.int (if j > i then j else i))) := nrfl rfl
theorem min_ij {i j : Int} : bltD .min [.int i, .int j] = some (.val (.int (if j < i then j else i))) := nrfl rfl
theorem isi_int {i : Int} {T : String} : bltD .isi [.int i, .ty T] = (isTy "int" T).map fun b => .val (.bl b) := nrfl rfl
theorem isi_bl {i : Bool} {T : String} : bltD .isi [.bl i, .ty T] = (isTy "bool" T).map fun b => .val (.bl b) := nrfl rfl
theorem isi_tup {l : List D} {T : String} : bltD .isi [.tup l, .ty T] = (isTy "tuple" T).map fun b => .val (.bl b) := nrfl rfl
theorem isi_tf {l : List D} {T : String} : bltD .isi [.tf l, .ty T] = (isTy "tuple" T).map fun b => .val (.bl b) := nrfl rfl
theorem isi_lst {l : List D} {T : String} : bltD .isi [.lst l, .ty T] = (isTy "list" T).map fun b => .val (.bl b) := nrfl rfl
theorem isi_str {x : Str} {T : String} : bltD .isi [.str x, .ty T] = (isTy "str" T).map fun b => .val (.bl b) := nrfl rfl
theorem isi_non {T : String} : bltD .isi [.non, .ty T] = (isTy "NoneType" T).map fun b => .val (.bl b) := nrfl rfl
theorem ty_bool_bool : isTy "bool" "bool" = some true := by decide +kernel
theorem ty_bool_int : isTy "bool" "int" = some true := by decide +kernel
theorem ty_bool_str : isTy "bool" "str" = some false := by decide +kernel
theorem ty_bool_tuple : isTy "bool" "tuple" = some false := by decide +kernel
theorem ty_bool_list : isTy "bool" "list" = some false := by decide +kernel
theorem ty_bool_dict : isTy "bool" "dict" = some false := by decide +kernel
theorem ty_int_bool : isTy "int" "bool" = some false := by decide +kernel
theorem ty_int_int : isTy "int" "int" = some true := by decide +kernel
theorem ty_int_str : isTy "int" "str" = some false := by decide +kernel
theorem ty_int_tuple : isTy "int" "tuple" = some false := by decide +kernel
theorem ty_int_list : isTy "int" "list" = some false := by decide +kernel
theorem ty_int_dict : isTy "int" "dict" = some false := by decide +kernel
theorem ty_str_bool : isTy "str" "bool" = some false := by decide +kernel
theorem ty_str_int : isTy "str" "int" = some false := by decide +kernel
theorem ty_str_str : isTy "str" "str" = some true := by decide +kernel
theorem ty_str_tuple : isTy "str" "tuple" = some false := by decide +kernel
theorem ty_str_list : isTy "str" "list" = some false := by decide +kernel
theorem ty_str_dict : isTy "str" "dict" = some false := by decide +kernel
theorem ty_tuple_bool : isTy "tuple" "bool" = some false := by decide +kernel
theorem ty_tuple_int : isTy "tuple" "int" = some false := by decide +kernel
theorem ty_tuple_str : isTy "tuple" "str" = some false := by decide +kernel
theorem ty_tuple_tuple : isTy "tuple" "tuple" = some true := by decide +kernel
theorem ty_tuple_list : isTy "tuple" "list" = some false := by decide +kernel
theorem ty_tuple_dict : isTy "tuple" "dict" = some false := by decide +kernel
theorem ty_list_bool : isTy "list" "bool" = some false := by decide +kernel
theorem ty_list_int : isTy "list" "int" = some false := by decide +kernel
theorem ty_list_str : isTy "list" "str" = some false := by decide +kernel
theorem ty_list_tuple : isTy "list" "tuple" = some false := by decide +kernel
theorem ty_list_list : isTy "list" "list" = some true := by decide +kernel
theorem ty_list_dict : isTy "list" "dict" = some false := by decide +kernel
theorem ty_NoneType_bool : isTy "NoneType" "bool" = some false := by decide +kernel
theorem ty_NoneType_int : isTy "NoneType" "int" = some false := by decide +kernel
theorem ty_NoneType_str : isTy "NoneType" "str" = some false := by decide +kernel
theorem ty_NoneType_tuple : isTy "NoneType" "tuple" = some false := by decide +kernel
theorem ty_NoneType_list : isTy "NoneType" "list" = some false := by decide +kernel
theorem ty_NoneType_dict : isTy "NoneType" "dict" = some false := by decide +kernel
theorem ty_dict_bool : isTy "dict" "bool" = some false := by decide +kernel
theorem ty_dict_int : isTy "dict" "int" = some false := by decide +kernel
theorem ty_dict_str : isTy "dict" "str" = some false := by decide +kernel
theorem ty_dict_tuple : isTy "dict" "tuple" = some false := by decide +kernel
theorem ty_dict_list : isTy "dict" "list" = some false := by decide +kernel
theorem ty_dict_dict : isTy "dict" "dict" = some true := by decide +kernel
theorem isN_int {i : Int} : cmpD .isN (.int i) .non = some false := nrfl rfl
theorem isN_tup {i : List D} : cmpD .isN (.tup i) .non = some false := nrfl rfl
theorem isN_non : cmpD .isN .non .non = some true := nrfl rfl
theorem cmp_lt {i j : Int} : cmpD .lt (.int i) (.int j) = some (decide (i < j)) := nrfl rfl
theorem cmp_le {i j : Int} : cmpD .le (.int i) (.int j) = some (decide (i ≤ j)) := nrfl rfl
theorem cmp_gt {i j : Int} : cmpD .gt (.int i) (.int j) = some (decide (j < i)) := nrfl rfl
theorem cmp_ge {i j : Int} : cmpD .ge (.int i) (.int j) = some (decide (j ≤ i)) := nrfl rfl
theorem cmp_eq {i j : Int} : cmpD .eq (.int i) (.int j) = some (decide (i = j)) := pyEq_int
theorem cmp_ne {i j : Int} : cmpD .ne (.int i) (.int j) = some (!decide (i = j)) := by
  have : cmpD .ne (.int i) (.int j) = (pyEq (.int i) (.int j)).map (!·) := by rw [cmpD]
  rw [this, pyEq_int]; rfl
theorem bin_add {i j : Int} : binD .add (.int i) (.int j) = some (.val (.int (i + j))) := nrfl rfl
theorem bin_sub {i j : Int} : binD .sub (.int i) (.int j) = some (.val (.int (i - j))) := nrfl rfl
theorem bin_mul {i j : Int} : binD .mul (.int i) (.int j) = if mulOk i j then some (.val (.int (i * j))) else none := nrfl rfl
theorem bin_mod {i j : Int} : binD .mod (.int i) (.int j) = if j ≠ 0 then some (.val (.int (i.fmod j))) else none := nrfl rfl
theorem bin_fdiv {i j : Int} : binD .fdiv (.int i) (.int j) = if divOk j then some (.val (.int (i.fdiv j))) else none := nrfl rfl
theorem bin_cat {a b : List D} : binD .add (.tup a) (.tup b) = if small (a.length + b.length) then some (.val (.tup (a ++ b))) else none := nrfl rfl
theorem bin_catL {a b : List D} : binD .add (.lst a) (.lst b) = if small (a.length + b.length) then some (.fr (.lst (a ++ b))) else none := nrfl rfl
theorem ix_tup {l : List D} {i : Int} : ixD (.tup l) (.int i) = (L2.atI l i).map .val := nrfl rfl
theorem ix_lst {l : List D} {i : Int} : ixD (.lst l) (.int i) = (L2.atI l i).map .val := nrfl rfl
theorem ix_tf {l : List D} {i : Int} : ixD (.tf l) (.int i) = (L2.atI l i).map .val := nrfl rfl
theorem small_le {n : Nat} (h : n ≤ 1000) : small n = true := decide_eq_true (Nat.le_trans h (by decide))
theorem small_2 : small 2 = true := by decide
theorem small_1 : small 1 = true := by decide
theorem small_0 : small 0 = true := by decide
theorem small_3 : small 3 = true := by decide
theorem ixN_nat {n j : Nat} (h : j < n) : L2.ixN n (j : Int) = some j := by
  unfold L2.ixN
  rw [if_pos (by omega), if_pos (by omega)]
  simp
theorem atI_n {α : Type} {l : List α} {j : Nat} (h : j < l.length) : L2.atI l (j : Int) = some l[j] := by
  unfold L2.atI
  rw [ixN_nat h]
  simp [List.getElem?_eq_getElem h]
theorem atI_i {α : Type} {l : List α} {i : Int} (h0 : 0 ≤ i) (h : i.toNat < l.length) : L2.atI l i = some l[i.toNat] := by
  have := atI_n h
  rwa [show ((i.toNat : Nat) : Int) = i by omega] at this
theorem bls_map : ∀ {α : Type} (f : α → Bool) (l : List α), bls? (l.map fun a => D.bl (f a)) = some (l.map f)
  | _, _, [] => rfl
  | _, f, a :: l => by simp [bls?, bls_map f l]
theorem any_d {α : Type} (f : α → Bool) (l : List α) : bltD .any [.lst (l.map fun a => D.bl (f a))] = some (.val (.bl (l.any f))) := by
  show (bls? _).map _ = _
  rw [bls_map]
  simp
theorem all_d {α : Type} (f : α → Bool) (l : List α) : bltD .all [.lst (l.map fun a => D.bl (f a))] = some (.val (.bl (l.all f))) := by
  show (bls? _).map _ = _
  rw [bls_map]
  simp
theorem ints_map : ∀ {α : Type} (f : α → Int) (l : List α), ints? (l.map fun a => D.int (f a)) = some (l.map f)
  | _, _, [] => rfl
  | _, f, a :: l => by simp [ints?, ints_map f l]
theorem sum_d {α : Type} (f : α → Int) (l : List α) : bltD .sum [.lst (l.map fun a => D.int (f a))] = some (.val (.int (l.map f).sum)) := by
  show (ints? _).map _ = _
  rw [ints_map]
  simp
def rngI (n : Nat) : List D := (List.range n).map fun (k : Nat) => D.int (k : Int)
theorem rngI_len {n : Nat} : (rngI n).length = n := by simp [rngI]
theorem rngI_at {n j : Nat} {x : D} (h : (rngI n)[j]? = some x) : x = .int (j : Int) ∧ j < n := by
  unfold rngI at h
  rw [List.getElem?_map] at h
  obtain ⟨y, hy, rfl⟩ := Option.map_eq_some_iff.mp h
  have hi : j < (List.range n).length := (List.getElem?_eq_some_iff.mp hy).1
  rw [List.length_range] at hi
  rw [List.getElem?_range hi] at hy
  cases hy; exact ⟨rfl, hi⟩
theorem fm_eq {α β : Type} {l : List α} {g : α → Option β} {f : α → β} (h : ∀ x ∈ l, g x = some (f x)) : l.filterMap g = l.map f := by
  induction l with
  | nil => rfl
  | cons a l ih =>
    rw [List.filterMap_cons, h a List.mem_cons_self, List.map_cons, ih fun x hx => h x (List.mem_cons_of_mem _ hx)]
theorem fm_rng (n : Nat) (g : D → Option D) (f : Nat → D) (h : ∀ i, i < n → g (.int (i : Int)) = some (f i)) : (rngI n).filterMap g = (List.range n).map f := by
  unfold rngI
  rw [List.filterMap_map]
  exact fm_eq fun i hi => h i (List.mem_range.mp hi)
theorem cut_drop {α : Type} (f : α → D) (l : List α) (k : Nat) (hk : k ≤ l.length) : cutD (l.map f) (some (k : Int)) none = (l.drop k).map f := by
  unfold cutD
  rw [HT.sIx_nat, HT.sIx_none, List.length_map, Nat.min_eq_left hk, ← List.map_drop, List.take_of_length_le (by simp)]
theorem cut_tail {α : Type} (f : α → D) (l : List α) (h : 1 ≤ l.length) : cutD (l.map f) (some 1) none = l.tail.map f := by
  rw [← List.drop_one]
  exact cut_drop f l 1 h
theorem cut_take {α : Type} (f : α → D) (l : List α) (k : Nat) : cutD (l.map f) none (some (k : Int)) = (l.take k).map f := by
  unfold cutD
  rw [HT.sIx_nat, HT.sIx_none, List.length_map, List.drop_zero, ← List.map_take, Nat.sub_zero]
  congr 1
  rcases Nat.le_total k l.length with h | h
  · rw [Nat.min_eq_left h]
  · rw [Nat.min_eq_right h, List.take_of_length_le (Nat.le_refl _), List.take_of_length_le h]
theorem strict_k {f : List D → Option R} {as : List A} {env : Env} : strict f as env = (match derefs env as with
  | some ds => (match f ds with
    | some r => .ok (r, env)
    | none => .bad)
  | none => .bad) := nrfl rfl
theorem derefs_nil {env : Env} : derefs env [] = some [] := nrfl rfl
theorem derefs_cons {env : Env} {a : A} {as : List A} : derefs env (a :: as) = (deref env a).bind fun d => (derefs env as).map fun ds => d :: ds := nrfl rfl
theorem testR_k {z : R × Env} : testR z = (match deref z.2 z.1.arg with
  | some (.bl b) => .ok (b, z.2)
  | _ => .bad) := nrfl rfl
theorem opt1_k {z : R × Env} : opt1 z = (match deref z.2 z.1.arg with
  | some d => .ok (some d, frz1 z.2 z.1.arg)
  | none => .bad) := nrfl rfl
theorem store_v {fx : List Nat} {env : Env} {i : Nat} {d : D} : store fx env i (.val d) = if i < env.length ∧ i ∉ fx then .ok (env.set i (.sh d)) else .bad := nrfl rfl
theorem store_f {fx : List Nat} {env : Env} {i : Nat} {d : D} : store fx env i (.fr d) = if i < env.length ∧ i ∉ fx then .ok (env.set i (.ow d)) else .bad := nrfl rfl
theorem store_o {fx : List Nat} {env : Env} {i j : Nat} : store fx env i (.own j) = (match env[j]? with
    | some (.ow d) => if i < env.length ∧ i ∉ fx then .ok ((env.set j .un).set i (.ow d)) else .bad
    | some (.sh d) => if i < env.length ∧ i ∉ fx then .ok (env.set i (.sh d)) else .bad
    | _ => .bad) := nrfl rfl
theorem lockable_nil {env : Env} : lockable env [] = [] := nrfl rfl
theorem lockable_val {env : Env} {d : D} {as : List A} : lockable env (.val d :: as) = lockable env as := nrfl rfl
theorem lockable_own {env : Env} {i : Nat} {as : List A} : lockable env (.own i :: as) = if (env[i]?).any isOw then i :: lockable env as else lockable env as := nrfl rfl
theorem isOw_ow {d : D} : isOw (.ow d) = true := nrfl rfl
theorem isOw_sh {d : D} : isOw (.sh d) = false := nrfl rfl
theorem isOw_lk {d : D} : isOw (.lk d) = false := nrfl rfl
theorem isOw_un : isOw .un = false := nrfl rfl
theorem toSh_ow {d : D} : toSh (.ow d) = .sh d := nrfl rfl
theorem toSh_lk {d : D} : toSh (.lk d) = .sh d := nrfl rfl
theorem toSh_sh {d : D} : toSh (.sh d) = .sh d := nrfl rfl
theorem ioSlots_t {bs : List Bool} {i : Nat} {as : List A} {env : Env} : ioSlots (true :: bs) (.own i :: as) env = if (env[i]?).any isOw then (ioSlots bs as env).map fun l => i :: l else none := nrfl rfl
theorem ioSlots_f {bs : List Bool} {a : A} {as : List A} {env : Env} : ioSlots (false :: bs) (a :: as) env = ioSlots bs as env := nrfl rfl
theorem ioSlots_n {as : List A} {env : Env} : ioSlots [] as env = some [] := nrfl rfl
theorem nonIo_t {bs : List Bool} {a : A} {as : List A} : nonIo (true :: bs) (a :: as) = nonIo bs as := nrfl rfl
theorem nonIo_f {bs : List Bool} {a : A} {as : List A} : nonIo (false :: bs) (a :: as) = a :: nonIo bs as := nrfl rfl
theorem nonIo_n {as : List A} : nonIo [] as = as := nrfl rfl
theorem setOuts_c {env : Env} {i : Nat} {r : List Nat} {d : D} {ds : List D} : setOuts env (i :: r) (d :: ds) = setOuts (env.set i (.ow d)) r ds := nrfl rfl
theorem setOuts_n {env : Env} {ds : List D} : setOuts env [] ds = env := nrfl rfl
theorem callGo_k {io : Str → List Bool} {cf : Str → List D → RC} {x : Str} {as : List A} {env : Env} : callGo io cf x as env = (match derefs env as, ioSlots (io x) as env with
  | some ds, some sl =>
    if sl.Nodup ∧ sl.all (fun i => ((frz env (nonIo (io x) as))[i]?).any isOw) = true then (match cf x ds with
      | .ok z => .ok (if z.2.1 then .fr z.1 else .val z.1, setOuts (frz env (nonIo (io x) as)) sl z.2.2)
      | .exc z => .exc (z.1, setOuts (frz env (nonIo (io x) as)) sl z.2)
      | .bad => .bad) else .bad
  | _, _ => .bad) := nrfl rfl
theorem tlen_nil : Tgs.len .nil = 0 := nrfl rfl
theorem tlen_cons {t : Tg} {l : Tgs} : Tgs.len (.cons t l) = l.len + 1 := nrfl rfl
theorem omap_some {α β : Type} {f : α → β} {a : α} : Option.map f (some a) = some (f a) := nrfl rfl
theorem obind_some {α β : Type} {f : α → Option β} {a : α} : Option.bind (some a) f = f a := nrfl rfl
theorem oany_some {α : Type} {f : α → Bool} {a : α} : Option.any f (some a) = f a := nrfl rfl
theorem get_z {α : Type} {a : α} {l : List α} : (a :: l)[0]? = some a := nrfl rfl
theorem get_s {α : Type} {a : α} {l : List α} {n : Nat} : (a :: l)[n + 1]? = l[n]? := nrfl rfl
theorem outs_n {env : Env} {k : Nat} : outsOf env [] k = some [] := nrfl rfl
theorem outs_f {env : Env} {bs : List Bool} {k : Nat} : outsOf env (false :: bs) k = outsOf env bs (k + 1) := nrfl rfl
theorem outs_t {env : Env} {bs : List Bool} {k : Nat} : outsOf env (true :: bs) k = (match env[k]? with
    | some (.ow d) => (outsOf env bs (k + 1)).map fun l => d :: l
    | _ => none) := nrfl rfl
theorem fin_val {io : List Bool} {d : D} {env : Env} {outs : List D} (h : outsOf env io 0 = some outs) : finish io (.ok (.ret (.val d), env)) = .ok (d, false, outs) := by
  unfold finish; simp only [h]
theorem fin_fr {io : List Bool} {d : D} {env : Env} {outs : List D} (h : outsOf env io 0 = some outs) : finish io (.ok (.ret (.fr d), env)) = .ok (d, true, outs) := by
  unfold finish; simp only [h]
def rdS (s : Option Slot) (i : Nat) (env : Env) : RE (R × Env) := match s with
    | some (.sh d) => .ok (.val d, env)
    | some (.ow _) => .ok (.own i, env)
    | some (.lk _) => .ok (.own i, env)
    | _ => .bad
theorem rd_sh {i : Nat} {env : Env} {d : D} : rdS (some (.sh d)) i env = .ok (.val d, env) := nrfl rfl
theorem rd_ow {i : Nat} {env : Env} {d : D} : rdS (some (.ow d)) i env = .ok (.own i, env) := nrfl rfl
theorem rd_lk {i : Nat} {env : Env} {d : D} : rdS (some (.lk d)) i env = .ok (.own i, env) := nrfl rfl
theorem ev_var {i : Nat} {env : Env} : ev fx io cf (.var i) env = rdS env[i]? i env := by rw [ev] <;> rfl
theorem ev_int {i : Int} {env : Env} : ev fx io cf (.int i) env = .ok (.val (.int i), env) := by rw [ev] <;> rfl
theorem ev_bl {b : Bool} {env : Env} : ev fx io cf (.bl b) env = .ok (.val (.bl b), env) := by rw [ev] <;> rfl
theorem ev_non {env : Env} : ev fx io cf .non env = .ok (.val .non, env) := by rw [ev] <;> rfl
theorem ev_str {x : Str} {env : Env} : ev fx io cf (.str x) env = .ok (.val (.str x), env) := by rw [ev] <;> rfl
theorem ev_gl {x : Str} {env : Env} : ev fx io cf (.gl x) env = .ok (.val (.gl x), env) := by rw [ev] <;> rfl
theorem ev_ty {x : String} {env : Env} : ev fx io cf (.ty x) env = .ok (.val (.ty x), env) := by rw [ev] <;> rfl
theorem ev_bin {o : Bin} {a b : Ex} {env : Env} : ev fx io cf (.bin o a b) env = (ev fx io cf a env).bind fun z => (ev fx io cf b z.2).bind fun y => strict (fun ds => match ds with | [d, e] => binD o d e | _ => none) [z.1.arg, y.1.arg] y.2 := by rw [ev] <;> rfl
theorem ev_neg {a : Ex} {env : Env} : ev fx io cf (.neg a) env = (ev fx io cf a env).bind fun z => strict (fun ds => match ds with | [.int i] => some (.val (.int (-i))) | _ => none) [z.1.arg] z.2 := by rw [ev] <;> rfl
theorem ev_cmp {o : Cmp} {a b : Ex} {env : Env} : ev fx io cf (.cmp o a b) env = (ev fx io cf a env).bind fun z => (ev fx io cf b z.2).bind fun y => strict (fun ds => match ds with | [d, e] => (cmpD o d e).map fun b => .val (.bl b) | _ => none) [z.1.arg, y.1.arg] y.2 := by rw [ev] <;> rfl
theorem ev_chain {o p : Cmp} {a b c : Ex} {env : Env} : ev fx io cf (.chain o p a b c) env = (ev fx io cf a env).bind fun z => (ev fx io cf b z.2).bind fun y => (strict (fun ds => match ds with | [d, e] => (cmpD o d e).map fun b => .val (.bl b) | _ => none) [z.1.arg, y.1.arg] y.2).bind fun w =>
      (testR w).bind fun t => if t.1 then (ev fx io cf c t.2).bind fun x => strict (fun ds => match ds with | [d, e] => (cmpD p d e).map fun b => .val (.bl b) | _ => none) [y.1.arg, x.1.arg] x.2 else .ok (.val (.bl false), t.2) := by rw [ev] <;> rfl
theorem ev_not {a : Ex} {env : Env} : ev fx io cf (.not a) env = (ev fx io cf a env).bind fun z => (testR z).bind fun t => .ok (.val (.bl (!t.1)), t.2) := by rw [ev] <;> rfl
theorem ev_and {a b : Ex} {env : Env} : ev fx io cf (.and a b) env = (ev fx io cf a env).bind fun z => (testR z).bind fun t => if t.1 then ev fx io cf b t.2 else .ok (.val (.bl false), t.2) := by rw [ev] <;> rfl
theorem ev_or {a b : Ex} {env : Env} : ev fx io cf (.or a b) env = (ev fx io cf a env).bind fun z => (testR z).bind fun t => if t.1 then .ok (.val (.bl true), t.2) else ev fx io cf b t.2 := by rw [ev] <;> rfl
theorem ev_ite {c a b : Ex} {env : Env} : ev fx io cf (.ite c a b) env = (ev fx io cf c env).bind fun z => (testR z).bind fun t => if t.1 then ev fx io cf a t.2 else ev fx io cf b t.2 := by rw [ev] <;> rfl
theorem ev_tup {l : Exs} {env : Env} : ev fx io cf (.tup l) env = (evs fx io cf l env).bind fun z => match derefs z.2 z.1 with
    | some ds => if small ds.length then .ok (.val (.tup ds), frz z.2 z.1) else .bad
    | none => .bad := by rw [ev] <;> rfl
theorem ev_lst {l : Exs} {env : Env} : ev fx io cf (.lst l) env = (evs fx io cf l env).bind fun z => match derefs z.2 z.1 with
    | some ds => if small ds.length then .ok (.fr (.lst ds), frz z.2 z.1) else .bad
    | none => .bad := by rw [ev] <;> rfl
theorem ev_ix {a i : Ex} {env : Env} : ev fx io cf (.ix a i) env = (ev fx io cf a env).bind fun z => (ev fx io cf i z.2).bind fun y => strict (fun ds => match ds with | [d, e] => ixD d e | _ => none) [z.1.arg, y.1.arg] y.2 := by rw [ev] <;> rfl
theorem ev_sl {a : Ex} {lo hi : Oe} {env : Env} : ev fx io cf (.sl a lo hi) env = (ev fx io cf a env).bind fun z => (evO fx io cf lo z.2).bind fun y => (evO fx io cf hi y.2).bind fun x => strict (fun ds => match ds with | [d] => slD d y.1 x.1 | _ => none) [z.1.arg] x.2 := by rw [ev] <;> rfl
theorem ev_call {x : Str} {l : Exs} {env : Env} : ev fx io cf (.call x l) env = (evs fx io cf l env).bind fun z => callGo io cf x z.1 z.2 := by rw [ev] <;> rfl
theorem ev_blt {b : Blt} {l : Exs} {env : Env} : ev fx io cf (.blt b l) env = (evs fx io cf l env).bind fun z => strict (bltD b) z.1 z.2 := by rw [ev] <;> rfl
theorem ev_pm {m : Pm} {o : Ex} {l : Exs} {env : Env} : ev fx io cf (.pm m o l) env = (ev fx io cf o env).bind fun y => match deref y.2 y.1.arg with
    | some (.tf _) => (evs fx io cf l y.2).bind fun z => strict (fun ds => match ds with | d :: r => pmD m d r | _ => none) (y.1.arg :: z.1) z.2
    | _ => .bad := by rw [ev] <;> rfl
theorem evs_nil {env : Env} : evs fx io cf .nil env = .ok ([], env) := by rw [evs] <;> rfl
theorem evs_cons {e : Ex} {l : Exs} {env : Env} : evs fx io cf (.cons e l) env = (ev fx io cf e env).bind fun z => (evs fx io cf l z.2).bind fun y => .ok (z.1.arg :: y.1, y.2) := by rw [evs] <;> rfl
theorem evO_no {env : Env} : evO fx io cf .no env = .ok (none, env) := by rw [evO] <;> rfl
theorem evO_yes {e : Ex} {env : Env} : evO fx io cf (.yes e) env = (ev fx io cf e env).bind fun z => match z.1 with
    | .val (.int i) => .ok (some i, z.2)
    | _ => .bad := by rw [evO] <;> rfl
theorem evC_no {env : Env} : evC fx io cf .no env = .ok (true, env) := by rw [evC] <;> rfl
theorem evC_yes {e : Ex} {env : Env} : evC fx io cf (.yes e) env = (ev fx io cf e env).bind testR := by rw [evC] <;> rfl
theorem evI_seq {e : Ex} {env : Env} : evI fx io cf (.seq e) env = (ev fx io cf e env).bind fun z => match (deref z.2 z.1.arg).bind seq? with
    | some l => .ok ((l, lockable z.2 [z.1.arg]), z.2)
    | none => .bad := by rw [evI] <;> rfl
theorem evI_rng1 {a : Ex} {env : Env} : evI fx io cf (.rng1 a) env = (ev fx io cf a env).bind fun z => match z.1 with
    | .val (.int j) => if -(2 ^ 62) ≤ j ∧ j < 2 ^ 62 then .ok (((List.range j.toNat).map fun (k : Nat) => .int (k : Int), []), z.2) else .bad
    | _ => .bad := by rw [evI] <;> rfl
theorem evI_rngN {a : Ex} {env env1 : Env} {n : Nat} (h : ev fx io cf a env = .ok (.val (.int (n : Int)), env1)) (hn : n ≤ 1000000) : evI fx io cf (.rng1 a) env = .ok ((rngI n, []), env1) := by
  rw [evI_rng1, h, bind_k]
  have b : (-(2 ^ 62) : Int) ≤ (n : Int) ∧ (n : Int) < 2 ^ 62 := by omega
  show (if _ then _ else _) = _
  rw [if_pos b]
  rfl
theorem evI_rng2 {a b : Ex} {env : Env} : evI fx io cf (.rng2 a b) env = (ev fx io cf a env).bind fun z => (ev fx io cf b z.2).bind fun y => match z.1, y.1 with
    | .val (.int i), .val (.int j) => if -(2 ^ 62) ≤ i ∧ i < 2 ^ 62 ∧ -(2 ^ 62) ≤ j ∧ j < 2 ^ 62 then .ok (((List.range (j - i).toNat).map fun (k : Nat) => .int (i + (k : Int)), []), y.2) else .bad
    | _, _ => .bad := by rw [evI] <;> rfl
theorem evI_zip {a b : Ex} {env : Env} : evI fx io cf (.zip a b) env = (ev fx io cf a env).bind fun z => (ev fx io cf b z.2).bind fun y => match deref y.2 z.1.arg, deref y.2 y.1.arg with
    | some d, some e => (match seq? d, seq? e with
      | some l, some m => if (isL d && isL e) || (isTu d && isTu e) then .ok (((l.zip m).map fun p => .tup [p.1, p.2], lockable y.2 [z.1.arg, y.1.arg]), y.2) else .bad
      | _, _ => .bad)
    | _, _ => .bad := by rw [evI] <;> rfl
theorem asg_nm {i : Nat} {r : R} {env : Env} : asg fx io cf (.nm i) r env = store fx env i r := by rw [asg] <;> rfl
theorem asg_tup {l : Tgs} {r : R} {env : Env} : asg fx io cf (.tup l) r env = (match deref env r.arg with
    | some (.tup ds) => if ds.length = l.len then asgs fx io cf l ds env else .bad
    | _ => .bad) := by rw [asg] <;> rfl
theorem asgs_nil {env : Env} : asgs fx io cf .nil [] env = .ok env := by rw [asgs] <;> rfl
theorem asgs_cons {t : Tg} {l : Tgs} {d : D} {ds : List D} {env : Env} : asgs fx io cf (.cons t l) (d :: ds) env = (asg fx io cf t (.val d) env).bind fun env1 => asgs fx io cf l ds env1 := by rw [asgs] <;> rfl
theorem ex_asg {t : Tg} {e : Ex} {env : Env} : exec fx io cf wf (.asg t e) env = (ev fx io cf e env).bind fun z => (asg fx io cf t z.1 z.2).bind fun env1 => .ok (.nx, env1) := by rw [exec] <;> rfl
theorem ex_ret {e : Ex} {env : Env} : exec fx io cf wf (.ret e) env = (ev fx io cf e env).bind fun z => .ok (.ret z.1, z.2) := by rw [exec] <;> rfl
theorem ex_ite {c : Ex} {a b : Sms} {env : Env} : exec fx io cf wf (.ite c a b) env = (ev fx io cf c env).bind fun z => (testR z).bind fun t => if t.1 then execs fx io cf wf a t.2 else execs fx io cf wf b t.2 := by rw [exec] <;> rfl
theorem ex_expr {e : Ex} {env : Env} : exec fx io cf wf (.expr e) env = (ev fx io cf e env).bind fun z => .ok (.nx, z.2) := by rw [exec] <;> rfl
theorem exs_cons {s : Sm} {l : Sms} {env : Env} : execs fx io cf wf (.cons s l) env = (exec fx io cf wf s env).bind fun z => match z.1 with
    | .nx => execs fx io cf wf l z.2
    | _ => .ok z := by rw [execs] <;> rfl

theorem wipe_get : ∀ (own : List Nat) (env : Env) (i : Nat), (wipeE env own)[i]? = if i ∈ own then (env[i]?).map fun _ => .un else env[i]?
  | [], env, i => by simp [wipeE]
  | j :: r, env, i => by
    show ((wipeE env r).set j .un)[i]? = _
    rw [List.getElem?_set]
    have ih := wipe_get r env i
    by_cases h : j = i
    · subst h
      have e : (wipeE env r)[j]?.isSome = env[j]?.isSome := by rw [ih]; split <;> simp
      simp only [if_pos rfl, List.mem_cons, true_or, if_true]
      cases q : env[j]? with
      | none => rw [q] at e; simp at e; simp; exact e
      | some s =>
        rw [q] at e
        simpa using e
    · rw [if_neg h, ih]
      have : (i ∈ j :: r) ↔ i ∈ r := by simp [List.mem_cons, Ne.symm h]
      simp only [this]
theorem back_get : ∀ (own : List Nat) (env old : Env), env.length = old.length → ∀ (i : Nat), (backE env old own)[i]? = if i ∈ own then old[i]? else env[i]?
  | [], env, old, _, i => by simp [backE]
  | j :: r, env, old, hl, i => by
    have ih := back_get r env old hl
    have len : (backE env old r).length = env.length := by
      rcases Nat.lt_trichotomy (backE env old r).length env.length with h | h | h
      · have q := ih (backE env old r).length
        rw [List.getElem?_eq_none (Nat.le_refl _)] at q
        split at q
        · rw [List.getElem?_eq_getElem (by omega)] at q; cases q
        · rw [List.getElem?_eq_getElem (by omega)] at q; cases q
      · exact h
      · have q := ih env.length
        rw [List.getElem?_eq_getElem h] at q
        split at q
        · rw [List.getElem?_eq_none (by omega)] at q; cases q
        · rw [List.getElem?_eq_none (by omega)] at q; cases q
    unfold backE
    cases q : old[j]? with
    | none =>
      simp only
      rw [ih]
      by_cases h : i = j
      · subst h
        simp only [List.mem_cons, true_or, if_true, q]
        split
        · rfl
        · rw [List.getElem?_eq_none_iff] at q ⊢; omega
      · have : (i ∈ j :: r) ↔ i ∈ r := by simp [List.mem_cons, h]
        simp only [this]
    | some s =>
      simp only
      have hj : j < old.length := (List.getElem?_eq_some_iff.mp q).1
      rw [List.getElem?_set]
      by_cases h : j = i
      · subst h
        have h2 : j < (backE env old r).length := by omega
        simp [h2, q]
      · have : (i ∈ j :: r) ↔ i ∈ r := by simp [List.mem_cons, Ne.symm h]
        rw [if_neg h, ih]
        simp only [this]
theorem lockG : ∀ (l : List Nat) (env : Env) (i : Nat), (lock env l)[i]? = if i ∈ l then (env[i]?).map toLk else env[i]?
  | [], env, i => by simp [lock]
  | j :: r, env, i => by
    show (lock (env.modify j toLk) r)[i]? = _
    rw [lockG r, List.getElem?_modify]
    have id2 : ∀ s : Slot, toLk (toLk s) = toLk s := fun s => by cases s <;> rfl
    by_cases h : j = i
    · subst h
      simp only [if_pos rfl, List.mem_cons, true_or, if_true]
      split
      · cases env[j]? <;> simp [id2]
      · cases env[j]? <;> simp
    · have : (i ∈ j :: r) ↔ i ∈ r := by simp [List.mem_cons, Ne.symm h]
      simp only [if_neg h, this]
      cases env[i]? <;> simp
theorem unlockG : ∀ (l : List Nat) (env : Env) (i : Nat), (unlock env l)[i]? = if i ∈ l then (env[i]?).map toOw else env[i]?
  | [], env, i => by simp [unlock]
  | j :: r, env, i => by
    show (unlock (env.modify j toOw) r)[i]? = _
    rw [unlockG r, List.getElem?_modify]
    have id2 : ∀ s : Slot, toOw (toOw s) = toOw s := fun s => by cases s <;> rfl
    by_cases h : j = i
    · subst h
      simp only [if_pos rfl, List.mem_cons, true_or, if_true]
      split
      · cases env[j]? <;> simp [id2]
      · cases env[j]? <;> simp
    · have : (i ∈ j :: r) ↔ i ∈ r := by simp [List.mem_cons, Ne.symm h]
      simp only [if_neg h, this]
      cases env[i]? <;> simp
/-- the slots of a lock are open ones -/
def opens (env : Env) (l : List Nat) : Bool := l.all fun i => (env[i]?).any isOw
theorem comp_back {env env2 : Env} {own lks : List Nat} (hw : wipeE env2 own = wipeE (lock env lks) own) (hp : own.all (fun i => (env[i]?).any plain) = true) (ho : opens env lks = true) : unlock (backE env2 env own) lks = env := by
  have hl : ∀ (l : List Nat) (e : Env), (wipeE e l).length = e.length := by
    intro l e
    induction l with
    | nil => rfl
    | cons i r ih => show ((wipeE e r).set i .un).length = _; rw [List.length_set, ih]
  have hk : ∀ (l : List Nat) (e : Env), (lock e l).length = e.length := by
    intro l
    induction l with
    | nil => intro e; rfl
    | cons i r ih => intro e; show (lock (e.modify i toLk) r).length = _; rw [ih, List.length_modify]
  have len : env2.length = env.length := by
    have := congrArg List.length hw
    rw [hl, hl, hk] at this
    exact this
  apply List.ext_getElem?
  intro i
  rw [unlockG, back_get _ _ _ len]
  have hi := congrArg (fun e => e[i]?) hw
  simp only [wipe_get, lockG] at hi
  unfold opens at ho
  rw [List.all_eq_true] at ho hp
  by_cases a : i ∈ own
  · rw [if_pos a]
    by_cases b : i ∈ lks
    · have h1 := ho i b
      have h2 := hp i a
      cases q : env[i]? with
      | none => simp
      | some s => rw [q] at h1 h2; cases s <;> simp [isOw, plain] at h1 h2
    · rw [if_neg b]
  · rw [if_neg a] at hi ⊢
    rw [if_neg a] at hi
    by_cases b : i ∈ lks
    · rw [if_pos b] at hi ⊢
      have h1 := ho i b
      rw [hi]
      cases q : env[i]? with
      | none => simp
      | some s => rw [q] at h1; cases s <;> simp [isOw] at h1 <;> rfl
    · rw [if_neg b] at hi ⊢
      exact hi
/-- a comprehension by a function of the items: the frame is left as it was -/
theorem ev_compP {e : Ex} {t : Tg} {it : MP.It} {cs : Oe} {own lks : List Nat} {env : Env} {items : List D} (g : D → Option D)
    (h : evI fx io cf it env = .ok ((items, lks), env)) (hp : (patT own t && own.all (fun i => (env[i]?).any plain)) = true) (ho : opens env lks = true) (hl : items.length ≤ sizeLine)
    (hb : ∀ x ∈ items, ∃ env', ((asg fx io cf t (.val x) (wipeE (lock env lks) own)).bind fun env2 => (evC fx io cf cs env2).bind fun q => if q.1 then (ev fx io cf e q.2).bind opt1 else .ok (none, q.2)) = .ok (g x, env') ∧ wipeE env' own = wipeE (lock env lks) own) :
    ev fx io cf (.comp e t it cs own) env = .ok (.fr (.lst (items.filterMap g)), env) := by
  obtain ⟨env2, e1, e2⟩ := comp_map (f := fun x env1 => (asg fx io cf t (.val x) (wipeE env1 own)).bind fun env2 => (evC fx io cf cs env2).bind fun q => if q.1 then (ev fx io cf e q.2).bind opt1 else .ok (none, q.2)) g (fun env' => wipeE env' own = wipeE (lock env lks) own) (l := items) (acc := []) (env := lock env lks) (by simpa using hl) rfl fun x env' hx hc => by
    simp only [hc]
    exact hb x hx
  rw [ev_comp h hp (by simpa using e1), comp_back e2 (Bool.and_eq_true .. ▸ hp).2 ho]
theorem while_t {c : Env → RE (Bool × Env)} {f : Env → RE (Fl × Env)} {n : Nat} {env env1 env2 : Env} (hc : c env = .ok (true, env1)) (hf : f env1 = .ok (.nx, env2)) : whileGo c f (n + 1) env = whileGo c f n env2 := by
  rw [whileGo, hc, bind_k]
  show (if true = true then _ else _) = _
  rw [if_pos rfl, hf, bind_k]
theorem while_f {c : Env → RE (Bool × Env)} {f : Env → RE (Fl × Env)} {n : Nat} {env env1 : Env} (hc : c env = .ok (false, env1)) : whileGo c f (n + 1) env = .ok (.nx, env1) := by
  rw [whileGo, hc, bind_k]
  rfl
theorem evI_rng2N {a b : Ex} {env env1 env2 : Env} {i j : Int} (h : ev fx io cf a env = .ok (.val (.int i), env1)) (h2 : ev fx io cf b env1 = .ok (.val (.int j), env2)) (hi : -1000000 ≤ i ∧ i ≤ 1000000) (hj : -1000000 ≤ j ∧ j ≤ 1000000) : evI fx io cf (.rng2 a b) env = .ok (((List.range (j - i).toNat).map fun (k : Nat) => .int (i + (k : Int)), []), env2) := by
  rw [evI_rng2, h, bind_k, h2, bind_k]
  have b : -(2 ^ 62) ≤ i ∧ i < 2 ^ 62 ∧ -(2 ^ 62) ≤ j ∧ j < 2 ^ 62 := by omega
  show (if _ then _ else _) = _
  rw [if_pos b]
theorem ev_mt {m : Mt} {i : Nat} {l : Exs} {env env1 : Env} {as : List A} {ds own own2 : List D} {d : D} {own' : List D} (h0 : env[i]? = some (.ow (.lst own))) (h1 : evs fx io cf l env = .ok (as, env1)) (h2 : derefs env1 as = some ds) (h3 : (frz env1 as)[i]? = some (.ow (.lst own2))) (h4 : mtD m own2 ds = some (d, own')) :
    ev fx io cf (.mt m i l) env = .ok (.val d, (frz env1 as).set i (.ow (.lst own'))) := by
  rw [ev, h0]
  simp only
  rw [h1, bind_k]
  simp only [h2, h3, h4]
end
end MP
end
section
set_option Elab.async false
set_option linter.all false
set_option maxRecDepth 100000
set_option maxHeartbeats 2000000
/-! K00I: put_in_order; equal rows. -/
namespace K00
open MP PySem
theorem same_refl (k : Nat) (ds : List MP.D) (hl : ds.length ≤ 1000) (h : ∀ d ∈ ds, cfL k "_law_same" [d, d] = .ok (.bl true, false, [])) : cfL (k + 1) "_law_same" [.tup ds, .tup ds] = .ok (.bl true, false, []) := by
  rw [cfL_eq (f := ir_law_same) rfl rfl]
  have hc : MP.ev [] ioL (cfL k) (.comp (.call "_law_same" (.cons (.ix (.var 0) (.var 2)) (.cons (.ix (.var 1) (.var 2)) .nil))) (.nm 2) (.rng1 (.blt .len (.cons (.var 1) .nil))) .no [2]) [.sh (.tup ds), .sh (.tup ds), .un] = .ok (.fr (.lst ((rngI ds.length).filterMap fun _ => some (.bl true))), [.sh (.tup ds), .sh (.tup ds), .un]) := by
    refine ev_compP (items := rngI ds.length) (lks := []) _ (evI_rngN ?_ (by omega)) rfl rfl ?_ ?_
    · simp [startE, ev_var, rd_sh, rd_ow, rd_lk, ev_int, ev_bl, ev_non, ev_str, ev_gl, ev_ty, ev_bin, ev_neg, ev_cmp, ev_chain, ev_not, ev_and, ev_or, ev_ite, ev_tup, ev_lst, ev_ix, ev_sl, ev_call, ev_blt, ev_pm, evs_nil, evs_cons, evO_no, evO_yes, evC_no, evC_yes, evI_seq, evI_zip, asg_nm, asg_tup, asgs_nil, asgs_cons, tlen_nil, tlen_cons, ex_asg, ex_ret, ex_ite, ex_expr, exs_nil, exs_cons, bind_k, bind_bad, strict_k, derefs_nil, derefs_cons, deref_val, deref_own, slot_sh, slot_ow, slot_lk, arg_val, arg_fr, arg_own, testR_k, store_v, store_f, store_o, io_0, io_f, io_ff, io_fff, io_ffff, MP.finish, outsOf, frz_nil, frz_val, frz_own, frz1_val, frz1_own, toSh_ow, toSh_lk, toSh_sh, lockable_nil, lockable_val, lockable_own, isOw_ow, isOw_sh, isOw_lk, isOw_un, opt1_k, callGo_k, ioSlots_t, ioSlots_f, ioSlots_n, nonIo_t, nonIo_f, nonIo_n, setOuts_c, setOuts_n, len_tup, len_lst, len_fz, len_tf, list_tup, list_lst, list_tf, tuple_tup, tuple_lst, tuple_tf, tupleF_lst, int_int, int_bl, isi_int, isi_bl, isi_tup, isi_tf, isi_lst, isi_str, isi_non, ty_bool_bool, ty_bool_int, ty_bool_str, ty_bool_tuple, ty_bool_list, ty_bool_dict, ty_int_bool, ty_int_int, ty_int_str, ty_int_tuple, ty_int_list, ty_int_dict, ty_str_bool, ty_str_int, ty_str_str, ty_str_tuple, ty_str_list, ty_str_dict, ty_tuple_bool, ty_tuple_int, ty_tuple_str, ty_tuple_tuple, ty_tuple_list, ty_tuple_dict, ty_list_bool, ty_list_int, ty_list_str, ty_list_tuple, ty_list_list, ty_list_dict, ty_NoneType_bool, ty_NoneType_int, ty_NoneType_str, ty_NoneType_tuple, ty_NoneType_list, ty_NoneType_dict, ty_dict_bool, ty_dict_int, ty_dict_str, ty_dict_tuple, ty_dict_list, ty_dict_dict, isN_int, omap_some, obind_some, oany_some, get_z, get_s, isN_tup, isN_non, cmp_lt, cmp_le, cmp_gt, cmp_ge, cmp_eq, cmp_ne, bin_add, bin_sub, bin_mod, bin_mul, bin_fdiv, bin_cat, bin_catL, ix_tup, ix_lst, ix_tf, small_0, small_1, small_2, small_3]
    · rw [rngI_len]; exact Nat.le_trans hl (by decide)
    · intro x hx
      obtain ⟨i, hi, rfl⟩ := List.mem_map.mp hx
      rw [List.mem_range] at hi
      have hs := h ds[i] (List.getElem_mem hi)
      refine ⟨[.sh (.tup ds), .sh (.tup ds), .sh (.int i)], ?_, rfl⟩
      simp [startE, ev_var, rd_sh, rd_ow, rd_lk, ev_int, ev_bl, ev_non, ev_str, ev_gl, ev_ty, ev_bin, ev_neg, ev_cmp, ev_chain, ev_not, ev_and, ev_or, ev_ite, ev_tup, ev_lst, ev_ix, ev_sl, ev_call, ev_blt, ev_pm, evs_nil, evs_cons, evO_no, evO_yes, evC_no, evC_yes, evI_seq, evI_zip, asg_nm, asg_tup, asgs_nil, asgs_cons, tlen_nil, tlen_cons, ex_asg, ex_ret, ex_ite, ex_expr, exs_nil, exs_cons, bind_k, bind_bad, strict_k, derefs_nil, derefs_cons, deref_val, deref_own, slot_sh, slot_ow, slot_lk, arg_val, arg_fr, arg_own, testR_k, store_v, store_f, store_o, io_0, io_f, io_ff, io_fff, io_ffff, MP.finish, outsOf, frz_nil, frz_val, frz_own, frz1_val, frz1_own, toSh_ow, toSh_lk, toSh_sh, lockable_nil, lockable_val, lockable_own, isOw_ow, isOw_sh, isOw_lk, isOw_un, opt1_k, callGo_k, ioSlots_t, ioSlots_f, ioSlots_n, nonIo_t, nonIo_f, nonIo_n, setOuts_c, setOuts_n, len_tup, len_lst, len_fz, len_tf, list_tup, list_lst, list_tf, tuple_tup, tuple_lst, tuple_tf, tupleF_lst, int_int, int_bl, isi_int, isi_bl, isi_tup, isi_tf, isi_lst, isi_str, isi_non, ty_bool_bool, ty_bool_int, ty_bool_str, ty_bool_tuple, ty_bool_list, ty_bool_dict, ty_int_bool, ty_int_int, ty_int_str, ty_int_tuple, ty_int_list, ty_int_dict, ty_str_bool, ty_str_int, ty_str_str, ty_str_tuple, ty_str_list, ty_str_dict, ty_tuple_bool, ty_tuple_int, ty_tuple_str, ty_tuple_tuple, ty_tuple_list, ty_tuple_dict, ty_list_bool, ty_list_int, ty_list_str, ty_list_tuple, ty_list_list, ty_list_dict, ty_NoneType_bool, ty_NoneType_int, ty_NoneType_str, ty_NoneType_tuple, ty_NoneType_list, ty_NoneType_dict, ty_dict_bool, ty_dict_int, ty_dict_str, ty_dict_tuple, ty_dict_list, ty_dict_dict, isN_int, omap_some, obind_some, oany_some, get_z, get_s, isN_tup, isN_non, cmp_lt, cmp_le, cmp_gt, cmp_ge, cmp_eq, cmp_ne, bin_add, bin_sub, bin_mod, bin_mul, bin_fdiv, bin_cat, bin_catL, ix_tup, ix_lst, ix_tf, small_0, small_1, small_2, small_3, wipeE, lock, atI_n hi, hs, io_same]
  rw [fm_rng _ _ (fun _ => .bl true) (fun _ _ => rfl)] at hc
  have hall := all_d (fun _ => true) (List.range ds.length)
  simp [ir_law_same, startE, ev_var, rd_sh, rd_ow, rd_lk, ev_int, ev_bl, ev_non, ev_str, ev_gl, ev_ty, ev_bin, ev_neg, ev_cmp, ev_chain, ev_not, ev_and, ev_or, ev_ite, ev_tup, ev_lst, ev_ix, ev_sl, ev_call, ev_blt, ev_pm, evs_nil, evs_cons, evO_no, evO_yes, evC_no, evC_yes, evI_seq, evI_zip, asg_nm, asg_tup, asgs_nil, asgs_cons, tlen_nil, tlen_cons, ex_asg, ex_ret, ex_ite, ex_expr, exs_nil, exs_cons, bind_k, bind_bad, strict_k, derefs_nil, derefs_cons, deref_val, deref_own, slot_sh, slot_ow, slot_lk, arg_val, arg_fr, arg_own, testR_k, store_v, store_f, store_o, io_0, io_f, io_ff, io_fff, io_ffff, MP.finish, outsOf, frz_nil, frz_val, frz_own, frz1_val, frz1_own, toSh_ow, toSh_lk, toSh_sh, lockable_nil, lockable_val, lockable_own, isOw_ow, isOw_sh, isOw_lk, isOw_un, opt1_k, callGo_k, ioSlots_t, ioSlots_f, ioSlots_n, nonIo_t, nonIo_f, nonIo_n, setOuts_c, setOuts_n, len_tup, len_lst, len_fz, len_tf, list_tup, list_lst, list_tf, tuple_tup, tuple_lst, tuple_tf, tupleF_lst, int_int, int_bl, isi_int, isi_bl, isi_tup, isi_tf, isi_lst, isi_str, isi_non, ty_bool_bool, ty_bool_int, ty_bool_str, ty_bool_tuple, ty_bool_list, ty_bool_dict, ty_int_bool, ty_int_int, ty_int_str, ty_int_tuple, ty_int_list, ty_int_dict, ty_str_bool, ty_str_int, ty_str_str, ty_str_tuple, ty_str_list, ty_str_dict, ty_tuple_bool, ty_tuple_int, ty_tuple_str, ty_tuple_tuple, ty_tuple_list, ty_tuple_dict, ty_list_bool, ty_list_int, ty_list_str, ty_list_tuple, ty_list_list, ty_list_dict, ty_NoneType_bool, ty_NoneType_int, ty_NoneType_str, ty_NoneType_tuple, ty_NoneType_list, ty_NoneType_dict, ty_dict_bool, ty_dict_int, ty_dict_str, ty_dict_tuple, ty_dict_list, ty_dict_dict, isN_int, omap_some, obind_some, oany_some, get_z, get_s, isN_tup, isN_non, cmp_lt, cmp_le, cmp_gt, cmp_ge, cmp_eq, cmp_ne, bin_add, bin_sub, bin_mod, bin_mul, bin_fdiv, bin_cat, bin_catL, ix_tup, ix_lst, ix_tf, small_0, small_1, small_2, small_3, hc, hall]
theorem same_ints (k : Nat) (l : List Int) (hl : l.length ≤ 1000) : cfL (k + 3) "_law_same" [.tup (l.map .int), .tup (l.map .int)] = .ok (.bl true, false, []) :=
  same_refl (k + 2) _ (by simpa using hl) fun d hd => by
    obtain ⟨i, _, rfl⟩ := List.mem_map.mp hd
    rw [same_int]
    simp
/-- some neighbours are equal -/
def twinB (l : List Int) : Bool := (l.zip (l.tail)).any fun p => decide (p.1 = p.2)
def outB : Sm := .loop (.nm 3) (.rng1 (.blt .len (.cons (.var 1) .nil))) (.cons innB .nil)
def foldB (l : List Int) (n : Nat) : List Int × Int := (List.range n).foldl (fun z i => passB z (l.length - 1 - i)) (l, 1)
theorem foldB_len (l : List Int) : ∀ n, (foldB l n).1.length = l.length := by
  intro n
  induction n with
  | zero => rfl
  | succ n ih =>
    unfold foldB at *
    rw [List.range_succ, List.foldl_append]
    simp [passB_len, ih]
theorem outer_ok (fx : List Nat) (h1 : 1 ∉ fx) (h2 : 2 ∉ fx) (h3 : 3 ∉ fx) (h4 : 4 ∉ fx) (k : Nat) (ln : MP.D) (l : List Int) (hl : l.length ≤ 1000) :
    ∃ s3 s4, MP.exec fx ioL (cfL k) 1000000 outB [.sh ln, .ow (.lst (l.map .int)), .sh (.int 1), .un, .un, .un, .un] = .ok (.nx, [.sh ln, .ow (.lst ((bubB l).1.map .int)), .sh (.int (bubB l).2), s3, s4, .un, .un]) := by
  have hI : MP.evI fx ioL (cfL k) (.rng1 (.blt .len (.cons (.var 1) .nil))) [.sh ln, .ow (.lst (l.map .int)), .sh (.int 1), .un, .un, .un, .un] = .ok ((rngI l.length, []), [.sh ln, .ow (.lst (l.map .int)), .sh (.int 1), .un, .un, .un, .un]) :=
    evI_rngN (by simp [startE, ev_var, rd_sh, rd_ow, rd_lk, ev_int, ev_bl, ev_non, ev_str, ev_gl, ev_ty, ev_bin, ev_neg, ev_cmp, ev_chain, ev_not, ev_and, ev_or, ev_ite, ev_tup, ev_lst, ev_ix, ev_sl, ev_call, ev_blt, ev_pm, evs_nil, evs_cons, evO_no, evO_yes, evC_no, evC_yes, evI_seq, evI_zip, asg_nm, asg_tup, asgs_nil, asgs_cons, tlen_nil, tlen_cons, ex_asg, ex_ret, ex_ite, ex_expr, exs_nil, exs_cons, bind_k, bind_bad, strict_k, derefs_nil, derefs_cons, deref_val, deref_own, slot_sh, slot_ow, slot_lk, arg_val, arg_fr, arg_own, testR_k, store_v, store_f, store_o, io_0, io_f, io_ff, io_fff, io_ffff, MP.finish, outsOf, frz_nil, frz_val, frz_own, frz1_val, frz1_own, toSh_ow, toSh_lk, toSh_sh, lockable_nil, lockable_val, lockable_own, isOw_ow, isOw_sh, isOw_lk, isOw_un, opt1_k, callGo_k, ioSlots_t, ioSlots_f, ioSlots_n, nonIo_t, nonIo_f, nonIo_n, setOuts_c, setOuts_n, len_tup, len_lst, len_fz, len_tf, list_tup, list_lst, list_tf, tuple_tup, tuple_lst, tuple_tf, tupleF_lst, int_int, int_bl, isi_int, isi_bl, isi_tup, isi_tf, isi_lst, isi_str, isi_non, ty_bool_bool, ty_bool_int, ty_bool_str, ty_bool_tuple, ty_bool_list, ty_bool_dict, ty_int_bool, ty_int_int, ty_int_str, ty_int_tuple, ty_int_list, ty_int_dict, ty_str_bool, ty_str_int, ty_str_str, ty_str_tuple, ty_str_list, ty_str_dict, ty_tuple_bool, ty_tuple_int, ty_tuple_str, ty_tuple_tuple, ty_tuple_list, ty_tuple_dict, ty_list_bool, ty_list_int, ty_list_str, ty_list_tuple, ty_list_list, ty_list_dict, ty_NoneType_bool, ty_NoneType_int, ty_NoneType_str, ty_NoneType_tuple, ty_NoneType_list, ty_NoneType_dict, ty_dict_bool, ty_dict_int, ty_dict_str, ty_dict_tuple, ty_dict_list, ty_dict_dict, isN_int, omap_some, obind_some, oany_some, get_z, get_s, isN_tup, isN_non, cmp_lt, cmp_le, cmp_gt, cmp_ge, cmp_eq, cmp_ne, bin_add, bin_sub, bin_mod, bin_mul, bin_fdiv, bin_cat, bin_catL, ix_tup, ix_lst, ix_tf, small_0, small_1, small_2, small_3]) (by omega)
  obtain ⟨env', e1, s3, s4, l2, sg2, rfl, hz⟩ := loop_all (f := fun x env1 => (MP.asg fx ioL (cfL k) (.nm 3) (.val x) env1).bind fun env2 => MP.execs fx ioL (cfL k) 1000000 (.cons innB .nil) env2)
    (fun n env => ∃ s3 s4 l2 sg2, env = [.sh ln, .ow (.lst (l2.map .int)), .sh (.int sg2), s3, s4, .un, .un] ∧ (l2, sg2) = foldB l n) (l := rngI l.length) (k := 0) (env := [.sh ln, .ow (.lst (l.map .int)), .sh (.int 1), .un, .un, .un, .un]) ⟨.un, .un, l, 1, rfl, rfl⟩ (fun j x env hx ⟨s3, s4, l2, sg2, e, ez⟩ => by
      subst e
      obtain ⟨rfl, hj⟩ := rngI_at hx
      rw [Nat.zero_add] at ez ⊢
      have len : l2.length = l.length := by
        have := foldB_len l j
        rw [← ez] at this; exact this
      obtain ⟨s4', st⟩ := inner_ok fx h1 h2 h4 k ln l2 sg2 j s4 (by omega) (by omega)
      refine ⟨_, ?_, .sh (.int (j : Int)), s4', (passB (l2, sg2) (l2.length - 1 - j)).1, (passB (l2, sg2) (l2.length - 1 - j)).2, rfl, ?_⟩
      · rw [MP.asg]
        have : MP.store fx [.sh ln, .ow (.lst (l2.map .int)), .sh (.int sg2), s3, s4, .un, .un] 3 (.val (.int (j : Int))) = .ok [.sh ln, .ow (.lst (l2.map .int)), .sh (.int sg2), .sh (.int (j : Int)), s4, .un, .un] := by simp [MP.store, h3]
        rw [this]
        exact exs_step st exs_nil
      · unfold foldB at ez ⊢
        rw [List.range_succ, List.foldl_append, ← ez, len]
        rfl)
  rw [Nat.zero_add, rngI_len] at hz
  refine ⟨s3, s4, ?_⟩
  have hb : bubB l = (l2, sg2) := hz.symm
  rw [hb]
  exact exec_loop (lks := []) hI e1
theorem io_put : ioL "put_in_order" = [false] := by decide +kernel
theorem put_ok (k : Nat) (l : List Int) (hl : l.length ≤ 1000) (h0 : l ≠ []) : cfL (k + 1) "put_in_order" [.tf (l.map .int)] = .ok (.tup [.tup ((bubB l).1.map .int), .int (if twinB (bubB l).1 then 0 else (bubB l).2)], false, []) := by
  rw [cfL_eq (f := ir_put_in_order) rfl rfl]
  obtain ⟨s3, s4, ho⟩ := outer_ok [] (by decide) (by decide) (by decide) (by decide) k (.tf (l.map .int)) l hl
  have hs : MP.exec [] ioL (cfL k) 1000000 (.par 1 2 (.blt .list (.cons (.var 0) .nil)) (.int 1)) [.sh (.tf (l.map .int)), .un, .un, .un, .un, .un, .un] = .ok (.nx, [.sh (.tf (l.map .int)), .ow (.lst (l.map .int)), .sh (.int 1), .un, .un, .un, .un]) := by
    simp [MP.exec, startE, ev_var, rd_sh, rd_ow, rd_lk, ev_int, ev_bl, ev_non, ev_str, ev_gl, ev_ty, ev_bin, ev_neg, ev_cmp, ev_chain, ev_not, ev_and, ev_or, ev_ite, ev_tup, ev_lst, ev_ix, ev_sl, ev_call, ev_blt, ev_pm, evs_nil, evs_cons, evO_no, evO_yes, evC_no, evC_yes, evI_seq, evI_zip, asg_nm, asg_tup, asgs_nil, asgs_cons, tlen_nil, tlen_cons, ex_asg, ex_ret, ex_ite, ex_expr, exs_nil, exs_cons, bind_k, bind_bad, strict_k, derefs_nil, derefs_cons, deref_val, deref_own, slot_sh, slot_ow, slot_lk, arg_val, arg_fr, arg_own, testR_k, store_v, store_f, store_o, io_0, io_f, io_ff, io_fff, io_ffff, MP.finish, outsOf, frz_nil, frz_val, frz_own, frz1_val, frz1_own, toSh_ow, toSh_lk, toSh_sh, lockable_nil, lockable_val, lockable_own, isOw_ow, isOw_sh, isOw_lk, isOw_un, opt1_k, callGo_k, ioSlots_t, ioSlots_f, ioSlots_n, nonIo_t, nonIo_f, nonIo_n, setOuts_c, setOuts_n, len_tup, len_lst, len_fz, len_tf, list_tup, list_lst, list_tf, tuple_tup, tuple_lst, tuple_tf, tupleF_lst, int_int, int_bl, isi_int, isi_bl, isi_tup, isi_tf, isi_lst, isi_str, isi_non, ty_bool_bool, ty_bool_int, ty_bool_str, ty_bool_tuple, ty_bool_list, ty_bool_dict, ty_int_bool, ty_int_int, ty_int_str, ty_int_tuple, ty_int_list, ty_int_dict, ty_str_bool, ty_str_int, ty_str_str, ty_str_tuple, ty_str_list, ty_str_dict, ty_tuple_bool, ty_tuple_int, ty_tuple_str, ty_tuple_tuple, ty_tuple_list, ty_tuple_dict, ty_list_bool, ty_list_int, ty_list_str, ty_list_tuple, ty_list_list, ty_list_dict, ty_NoneType_bool, ty_NoneType_int, ty_NoneType_str, ty_NoneType_tuple, ty_NoneType_list, ty_NoneType_dict, ty_dict_bool, ty_dict_int, ty_dict_str, ty_dict_tuple, ty_dict_list, ty_dict_dict, isN_int, omap_some, obind_some, oany_some, get_z, get_s, isN_tup, isN_non, cmp_lt, cmp_le, cmp_gt, cmp_ge, cmp_eq, cmp_ne, bin_add, bin_sub, bin_mod, bin_mul, bin_fdiv, bin_cat, bin_catL, ix_tup, ix_lst, ix_tf, small_0, small_1, small_2, small_3]
  generalize hq : bubB l = q at ho ⊢
  obtain ⟨m, sg⟩ := q
  have lm : m.length = l.length := by
    have := foldB_len l l.length
    have e : foldB l l.length = bubB l := rfl
    rw [e, hq] at this
    exact this
  have l1 : 1 ≤ m.length := by
    rw [lm]
    cases l with
    | nil => exact absurd rfl h0
    | cons a l => simp
  have hc : MP.ev [] ioL (cfL k) (.comp (.cmp .eq (.var 5) (.var 6)) (.tup (.cons (.nm 5) (.cons (.nm 6) .nil))) (.zip (.var 1) (.sl (.var 1) (.yes (.int 1)) .no)) .no [5, 6]) [.sh (.tf (l.map .int)), .ow (.lst (m.map .int)), .sh (.int sg), s3, s4, .un, .un] = .ok (.fr (.lst (((m.zip (m.tail)).map fun p => MP.D.tup [.int p.1, .int p.2]).filterMap fun d => match d with | .tup [.int a, .int b] => some (.bl (decide (a = b))) | _ => none)), [.sh (.tf (l.map .int)), .ow (.lst (m.map .int)), .sh (.int sg), s3, s4, .un, .un]) := by
    refine ev_compP (lks := [1]) _ ?_ rfl rfl ?_ ?_
    · have hcut : cutD (m.map MP.D.int) (some 1) none = (m.tail).map MP.D.int := cut_tail _ _ l1
      simp [startE, ev_var, rd_sh, rd_ow, rd_lk, ev_int, ev_bl, ev_non, ev_str, ev_gl, ev_ty, ev_bin, ev_neg, ev_cmp, ev_chain, ev_not, ev_and, ev_or, ev_ite, ev_tup, ev_lst, ev_ix, ev_sl, ev_call, ev_blt, ev_pm, evs_nil, evs_cons, evO_no, evO_yes, evC_no, evC_yes, evI_seq, evI_zip, asg_nm, asg_tup, asgs_nil, asgs_cons, tlen_nil, tlen_cons, ex_asg, ex_ret, ex_ite, ex_expr, exs_nil, exs_cons, bind_k, bind_bad, strict_k, derefs_nil, derefs_cons, deref_val, deref_own, slot_sh, slot_ow, slot_lk, arg_val, arg_fr, arg_own, testR_k, store_v, store_f, store_o, io_0, io_f, io_ff, io_fff, io_ffff, MP.finish, outsOf, frz_nil, frz_val, frz_own, frz1_val, frz1_own, toSh_ow, toSh_lk, toSh_sh, lockable_nil, lockable_val, lockable_own, isOw_ow, isOw_sh, isOw_lk, isOw_un, opt1_k, callGo_k, ioSlots_t, ioSlots_f, ioSlots_n, nonIo_t, nonIo_f, nonIo_n, setOuts_c, setOuts_n, len_tup, len_lst, len_fz, len_tf, list_tup, list_lst, list_tf, tuple_tup, tuple_lst, tuple_tf, tupleF_lst, int_int, int_bl, isi_int, isi_bl, isi_tup, isi_tf, isi_lst, isi_str, isi_non, ty_bool_bool, ty_bool_int, ty_bool_str, ty_bool_tuple, ty_bool_list, ty_bool_dict, ty_int_bool, ty_int_int, ty_int_str, ty_int_tuple, ty_int_list, ty_int_dict, ty_str_bool, ty_str_int, ty_str_str, ty_str_tuple, ty_str_list, ty_str_dict, ty_tuple_bool, ty_tuple_int, ty_tuple_str, ty_tuple_tuple, ty_tuple_list, ty_tuple_dict, ty_list_bool, ty_list_int, ty_list_str, ty_list_tuple, ty_list_list, ty_list_dict, ty_NoneType_bool, ty_NoneType_int, ty_NoneType_str, ty_NoneType_tuple, ty_NoneType_list, ty_NoneType_dict, ty_dict_bool, ty_dict_int, ty_dict_str, ty_dict_tuple, ty_dict_list, ty_dict_dict, isN_int, omap_some, obind_some, oany_some, get_z, get_s, isN_tup, isN_non, cmp_lt, cmp_le, cmp_gt, cmp_ge, cmp_eq, cmp_ne, bin_add, bin_sub, bin_mod, bin_mul, bin_fdiv, bin_cat, bin_catL, ix_tup, ix_lst, ix_tf, small_0, small_1, small_2, small_3, slD, seq?, isL, isTu, hcut, List.zip_map, -List.map_tail]
    · simp only [List.length_map, List.length_zip]
      exact Nat.le_trans (Nat.le_trans (Nat.min_le_left _ _) (by omega : m.length ≤ 1000)) (by decide)
    · intro x hx
      obtain ⟨⟨a, b⟩, _, rfl⟩ := List.mem_map.mp hx
      refine ⟨[.sh (.tf (l.map .int)), .lk (.lst (m.map .int)), .sh (.int sg), s3, s4, .sh (.int a), .sh (.int b)], ?_, rfl⟩
      simp [startE, ev_var, rd_sh, rd_ow, rd_lk, ev_int, ev_bl, ev_non, ev_str, ev_gl, ev_ty, ev_bin, ev_neg, ev_cmp, ev_chain, ev_not, ev_and, ev_or, ev_ite, ev_tup, ev_lst, ev_ix, ev_sl, ev_call, ev_blt, ev_pm, evs_nil, evs_cons, evO_no, evO_yes, evC_no, evC_yes, evI_seq, evI_zip, asg_nm, asg_tup, asgs_nil, asgs_cons, tlen_nil, tlen_cons, ex_asg, ex_ret, ex_ite, ex_expr, exs_nil, exs_cons, bind_k, bind_bad, strict_k, derefs_nil, derefs_cons, deref_val, deref_own, slot_sh, slot_ow, slot_lk, arg_val, arg_fr, arg_own, testR_k, store_v, store_f, store_o, io_0, io_f, io_ff, io_fff, io_ffff, MP.finish, outsOf, frz_nil, frz_val, frz_own, frz1_val, frz1_own, toSh_ow, toSh_lk, toSh_sh, lockable_nil, lockable_val, lockable_own, isOw_ow, isOw_sh, isOw_lk, isOw_un, opt1_k, callGo_k, ioSlots_t, ioSlots_f, ioSlots_n, nonIo_t, nonIo_f, nonIo_n, setOuts_c, setOuts_n, len_tup, len_lst, len_fz, len_tf, list_tup, list_lst, list_tf, tuple_tup, tuple_lst, tuple_tf, tupleF_lst, int_int, int_bl, isi_int, isi_bl, isi_tup, isi_tf, isi_lst, isi_str, isi_non, ty_bool_bool, ty_bool_int, ty_bool_str, ty_bool_tuple, ty_bool_list, ty_bool_dict, ty_int_bool, ty_int_int, ty_int_str, ty_int_tuple, ty_int_list, ty_int_dict, ty_str_bool, ty_str_int, ty_str_str, ty_str_tuple, ty_str_list, ty_str_dict, ty_tuple_bool, ty_tuple_int, ty_tuple_str, ty_tuple_tuple, ty_tuple_list, ty_tuple_dict, ty_list_bool, ty_list_int, ty_list_str, ty_list_tuple, ty_list_list, ty_list_dict, ty_NoneType_bool, ty_NoneType_int, ty_NoneType_str, ty_NoneType_tuple, ty_NoneType_list, ty_NoneType_dict, ty_dict_bool, ty_dict_int, ty_dict_str, ty_dict_tuple, ty_dict_list, ty_dict_dict, isN_int, omap_some, obind_some, oany_some, get_z, get_s, isN_tup, isN_non, cmp_lt, cmp_le, cmp_gt, cmp_ge, cmp_eq, cmp_ne, bin_add, bin_sub, bin_mod, bin_mul, bin_fdiv, bin_cat, bin_catL, ix_tup, ix_lst, ix_tf, small_0, small_1, small_2, small_3, wipeE, lock, toLk]
  have hz : ((m.zip (m.tail)).map fun p => MP.D.tup [.int p.1, .int p.2]).filterMap (fun d => match d with | .tup [.int a, .int b] => some (MP.D.bl (decide (a = b))) | _ => none) = (m.zip (m.tail)).map fun p => MP.D.bl (decide (p.1 = p.2)) := by
    rw [List.filterMap_map]
    exact fm_eq fun x _ => rfl
  rw [hz] at hc
  have ha := any_d (fun p : Int × Int => decide (p.1 = p.2)) (m.zip (m.tail))
  have e : ((m.zip (m.tail)).any fun p : Int × Int => decide (p.1 = p.2)) = twinB m := rfl
  rw [e] at ha
  have hx : MP.execs [] ioL (cfL k) 1000000 ir_put_in_order.body [.sh (.tf (l.map .int)), .un, .un, .un, .un, .un, .un] = .ok (.ret (.val (.tup [.tup (m.map .int), .int (if twinB m then 0 else sg)])), [.sh (.tf (l.map .int)), .ow (.lst (m.map .int)), .sh (.int sg), s3, s4, .un, .un]) := by
    refine exs_step hs (exs_step ho (exs_ret ?_))
    cases h : twinB m <;> simp [startE, ev_var, rd_sh, rd_ow, rd_lk, ev_int, ev_bl, ev_non, ev_str, ev_gl, ev_ty, ev_bin, ev_neg, ev_cmp, ev_chain, ev_not, ev_and, ev_or, ev_ite, ev_tup, ev_lst, ev_ix, ev_sl, ev_call, ev_blt, ev_pm, evs_nil, evs_cons, evO_no, evO_yes, evC_no, evC_yes, evI_seq, evI_zip, asg_nm, asg_tup, asgs_nil, asgs_cons, tlen_nil, tlen_cons, ex_asg, ex_ret, ex_ite, ex_expr, exs_nil, exs_cons, bind_k, bind_bad, strict_k, derefs_nil, derefs_cons, deref_val, deref_own, slot_sh, slot_ow, slot_lk, arg_val, arg_fr, arg_own, testR_k, store_v, store_f, store_o, io_0, io_f, io_ff, io_fff, io_ffff, MP.finish, outsOf, frz_nil, frz_val, frz_own, frz1_val, frz1_own, toSh_ow, toSh_lk, toSh_sh, lockable_nil, lockable_val, lockable_own, isOw_ow, isOw_sh, isOw_lk, isOw_un, opt1_k, callGo_k, ioSlots_t, ioSlots_f, ioSlots_n, nonIo_t, nonIo_f, nonIo_n, setOuts_c, setOuts_n, len_tup, len_lst, len_fz, len_tf, list_tup, list_lst, list_tf, tuple_tup, tuple_lst, tuple_tf, tupleF_lst, int_int, int_bl, isi_int, isi_bl, isi_tup, isi_tf, isi_lst, isi_str, isi_non, ty_bool_bool, ty_bool_int, ty_bool_str, ty_bool_tuple, ty_bool_list, ty_bool_dict, ty_int_bool, ty_int_int, ty_int_str, ty_int_tuple, ty_int_list, ty_int_dict, ty_str_bool, ty_str_int, ty_str_str, ty_str_tuple, ty_str_list, ty_str_dict, ty_tuple_bool, ty_tuple_int, ty_tuple_str, ty_tuple_tuple, ty_tuple_list, ty_tuple_dict, ty_list_bool, ty_list_int, ty_list_str, ty_list_tuple, ty_list_list, ty_list_dict, ty_NoneType_bool, ty_NoneType_int, ty_NoneType_str, ty_NoneType_tuple, ty_NoneType_list, ty_NoneType_dict, ty_dict_bool, ty_dict_int, ty_dict_str, ty_dict_tuple, ty_dict_list, ty_dict_dict, isN_int, omap_some, obind_some, oany_some, get_z, get_s, isN_tup, isN_non, cmp_lt, cmp_le, cmp_gt, cmp_ge, cmp_eq, cmp_ne, bin_add, bin_sub, bin_mod, bin_mul, bin_fdiv, bin_cat, bin_catL, ix_tup, ix_lst, ix_tf, small_0, small_1, small_2, small_3, hc, ha, h]
  show MP.finish [false] (MP.execs [] ioL (cfL k) 1000000 ir_put_in_order.body [.sh (.tf (l.map .int)), .un, .un, .un, .un, .un, .un]) = _
  rw [hx]
  rfl
end K00
end
section
set_option Elab.async false
set_option linter.all false
set_option maxRecDepth 100000
set_option maxHeartbeats 1000000
/-! K00J: what put_in_order gives: the ascending list and the sign of its falls. -/
namespace K00
open MP PySem
def upI : Nat → Int → List Int → Int → List Int × Int
  | 0, x, r, s => (x :: r, s)
  | _ + 1, x, [], s => ([x], s)
  | n + 1, x, y :: r, s => if x > y then (y :: (upI n x r (-s)).1, (upI n x r (-s)).2) else (x :: (upI n y r s).1, (upI n y r s).2)
theorem stepB_at (p : List Int) (x y : Int) (r : List Int) (s : Int) : stepB (p ++ x :: y :: r, s) p.length = if x > y then (p ++ y :: x :: r, -s) else (p ++ x :: y :: r, s) := by
  have e1 : (p ++ x :: y :: r).getD p.length 0 = x := by simp [List.getD_eq_getElem?_getD]
  have e2 : (p ++ x :: y :: r).getD (p.length + 1) 0 = y := by simp [List.getD_eq_getElem?_getD, List.getElem?_append_right]
  unfold stepB
  simp only [e1, e2]
  split
  · congr 1
    rw [List.set_append_right _ _ (by omega), Nat.sub_self, List.set_cons_zero, List.set_append_right _ _ (by omega), show p.length + 1 - p.length = 1 by omega]
    rfl
  · rfl
theorem fold_up : ∀ (n : Nat) (p : List Int) (x : Int) (r : List Int) (s : Int), n ≤ r.length → (List.range' p.length n).foldl stepB (p ++ x :: r, s) = (p ++ (upI n x r s).1, (upI n x r s).2)
  | 0, p, x, r, s, _ => by simp [upI]
  | n + 1, p, x, [], s, h => by simp at h
  | n + 1, p, x, y :: r, s, h => by
    have h' : n ≤ r.length := by simpa using h
    rw [List.range'_succ, List.foldl_cons, stepB_at]
    unfold upI
    split
    · have := fold_up n (p ++ [y]) x r (-s) h'
      rw [List.length_append, List.length_singleton, List.append_assoc] at this
      rw [show p ++ y :: x :: r = p ++ ([y] ++ x :: r) from rfl, this]
      simp
    · have := fold_up n (p ++ [x]) y r s h'
      rw [List.length_append, List.length_singleton, List.append_assoc] at this
      rw [show p ++ x :: y :: r = p ++ ([x] ++ y :: r) from rfl, this]
      simp
theorem passB_up (n : Nat) (x : Int) (r : List Int) (s : Int) (h : n ≤ r.length) : passB (x :: r, s) n = upI n x r s := by
  have := fold_up n [] x r s h
  unfold passB
  rw [List.range_eq_range']
  exact this
theorem upI_app (b : List Int) : ∀ (n : Nat) (x : Int) (r : List Int) (s : Int), n ≤ r.length → upI n x (r ++ b) s = ((upI n x r s).1 ++ b, (upI n x r s).2)
  | 0, x, r, s, _ => rfl
  | n + 1, x, [], s, h => by simp at h
  | n + 1, x, y :: r, s, h => by
    have h' : n ≤ r.length := by simpa using h
    show upI (n + 1) x (y :: (r ++ b)) s = _
    unfold upI
    rw [upI_app b n x r (-s) h', upI_app b n y r s h']
    split <;> rfl
theorem upI_full : ∀ (r : List Int) (x s : Int), ∃ c m, (upI r.length x r s).1 = c ++ [m] ∧ c.length = r.length ∧ x ≤ m ∧ ∀ z ∈ c, z ≤ m
  | [], x, s => ⟨[], x, rfl, rfl, Int.le_refl _, fun z hz => by cases hz⟩
  | y :: r, x, s => by
    show ∃ c m, (upI (r.length + 1) x (y :: r) s).1 = c ++ [m] ∧ _
    unfold upI
    split
    · rename_i h
      obtain ⟨c, m, e, l, g1, g2⟩ := upI_full r x (-s)
      refine ⟨y :: c, m, by rw [e]; rfl, by simp [l], g1, fun z hz => ?_⟩
      rcases List.mem_cons.mp hz with rfl | hz
      · omega
      · exact g2 z hz
    · rename_i h
      obtain ⟨c, m, e, l, g1, g2⟩ := upI_full r y s
      refine ⟨x :: c, m, by rw [e]; rfl, by simp [l], by omega, fun z hz => ?_⟩
      rcases List.mem_cons.mp hz with rfl | hz
      · omega
      · exact g2 z hz
theorem upI_perm : ∀ (n : Nat) (x : Int) (r : List Int) (s : Int), (upI n x r s).1.Perm (x :: r)
  | 0, x, r, s => .refl _
  | n + 1, x, [], s => .refl _
  | n + 1, x, y :: r, s => by
    unfold upI
    split
    · exact ((upI_perm n x r (-s)).cons y).trans (List.Perm.swap _ _ _)
    · exact (upI_perm n y r s).cons x
def csgI (x : Int) : List Int → Int
  | [] => 1
  | y :: r => (if y < x then -1 else 1) * csgI x r
def sgI : List Int → Int
  | [] => 1
  | x :: r => csgI x r * sgI r
theorem csgI_perm (x : Int) {l m : List Int} (h : l.Perm m) : csgI x l = csgI x m := by
  induction h with
  | nil => rfl
  | cons y _ ih => simp only [csgI, ih]
  | swap y z r => simp only [csgI]; rw [← Int.mul_assoc, ← Int.mul_assoc, Int.mul_comm (if z < x then -1 else 1)]
  | trans _ _ h1 h2 => rw [h1, h2]
theorem upI_sg : ∀ (n : Nat) (x : Int) (r : List Int) (s : Int), (upI n x r s).2 * sgI (upI n x r s).1 = s * sgI (x :: r)
  | 0, x, r, s => rfl
  | n + 1, x, [], s => rfl
  | n + 1, x, y :: r, s => by
    unfold upI
    split
    · rename_i h
      have ih := upI_sg n x r (-s)
      have hp := csgI_perm y (upI_perm n x r (-s))
      simp only [sgI, csgI] at ih hp ⊢
      rw [if_pos (show y < x from h), hp, if_neg (show ¬ x < y by omega)]
      generalize (upI n x r (-s)).2 = a at *
      generalize sgI (upI n x r (-s)).1 = b at *
      generalize csgI x r = c at *
      generalize csgI y r = d at *
      generalize sgI r = e at *
      grind
    · rename_i h
      have ih := upI_sg n y r s
      have hp := csgI_perm x (upI_perm n y r s)
      simp only [sgI, csgI] at ih hp ⊢
      rw [hp]
      generalize (upI n y r s).2 = a at *
      generalize sgI (upI n y r s).1 = b at *
      generalize csgI x r = c at *
      generalize csgI y r = d at *
      generalize sgI r = e at *
      grind
theorem sgI_sorted : ∀ {l : List Int}, l.Pairwise (· ≤ ·) → sgI l = 1
  | [], _ => rfl
  | x :: r, h => by
    obtain ⟨h1, h2⟩ := List.pairwise_cons.mp h
    have : ∀ l : List Int, (∀ y ∈ l, x ≤ y) → csgI x l = 1 := by
      intro l hl
      induction l with
      | nil => rfl
      | cons y l ih =>
        unfold csgI
        rw [if_neg (by have := hl y List.mem_cons_self; omega), ih fun z hz => hl z (List.mem_cons_of_mem _ hz)]
        rfl
    unfold sgI
    rw [this r h1, sgI_sorted h2]
    rfl
theorem foldB_inv (l : List Int) : ∀ i, i ≤ l.length → ∃ a b, (foldB l i).1 = a ++ b ∧ a.length + i = l.length ∧ b.Pairwise (· ≤ ·) ∧ (∀ x ∈ a, ∀ y ∈ b, x ≤ y) ∧ (a ++ b).Perm l ∧ (foldB l i).2 * sgI (a ++ b) = sgI l
  | 0, _ => ⟨l, [], by simp [foldB], by simp, .nil, (fun x _ y hy => by cases hy), by simp, by simp [foldB]⟩
  | i + 1, h => by
    obtain ⟨a, b, e, la, hb, hab, hp, hs⟩ := foldB_inv l i (by omega)
    have e2 : foldB l (i + 1) = passB (foldB l i) (l.length - 1 - i) := by
      unfold foldB
      rw [List.range_succ, List.foldl_append]
      rfl
    generalize foldB l i = zz at e hs e2
    obtain ⟨z, s⟩ := zz
    simp only at e hs
    subst e
    cases a with
    | nil => simp at la; omega
    | cons x r =>
      have lr : l.length - 1 - i = r.length := by simp at la; omega
      have e3 : foldB l (i + 1) = ((upI r.length x r s).1 ++ b, (upI r.length x r s).2) := by
        rw [e2, lr, List.cons_append, passB_up _ _ _ _ (by simp), upI_app b _ _ _ _ (Nat.le_refl _)]
      obtain ⟨c, m, ec, lc, g1, g2⟩ := upI_full r x s
      have hpm := upI_perm r.length x r s
      have hsg := upI_sg r.length x (r ++ b) s
      rw [upI_app b _ _ _ _ (Nat.le_refl _)] at hsg
      rw [e3]
      rw [ec] at hpm hsg ⊢
      have hmem : ∀ w, w ∈ c ∨ w = m → w ∈ x :: r := fun w hw => hpm.mem_iff.mp (by simpa using hw)
      refine ⟨c, m :: b, by simp, by simp at la; omega, List.pairwise_cons.mpr ⟨fun y hy => hab m (hmem m (.inr rfl)) y hy, hb⟩, fun w hw y hy => ?_, ?_, ?_⟩
      · rcases List.mem_cons.mp hy with rfl | hy
        · exact g2 w hw
        · exact hab w (hmem w (.inl hw)) y hy
      · rw [show c ++ m :: b = (c ++ [m]) ++ b by simp]
        exact (hpm.append_right b).trans hp
      · rw [← hs]
        rw [show c ++ m :: b = (c ++ [m]) ++ b by simp]
        exact hsg
theorem bub_ok (l : List Int) : (bubB l).1 = sortI l ∧ (bubB l).2 = sgI l := by
  obtain ⟨a, b, e, la, hb, _, hp, hs⟩ := foldB_inv l l.length (Nat.le_refl _)
  have ha : a = [] := List.length_eq_zero_iff.mp (by omega)
  subst ha
  rw [List.nil_append] at e hp hs
  have eB : bubB l = foldB l l.length := rfl
  rw [eB]
  refine ⟨by rw [e]; exact sortI_eq hp hb, ?_⟩
  rw [sgI_sorted hb] at hs
  simpa using hs
/-! the law's own way to the sign -/
def fallsB (l : List Int) : Int := ((List.range l.length).map fun i => (((List.range i).filter fun j => decide (l.getD i 0 < l.getD j 0)).length : Int)).sum
def dupB (l : List Int) : Bool := l.any fun c => decide (1 < ((l.countP fun z => decide (z = c) : Nat) : Int))
def sgnB (l : List Int) : Int := if dupB l then 0 else if (fallsB l).fmod 2 = 0 then 1 else -1
theorem range_count (x : Int) : ∀ l : List Int, ((List.range l.length).filter fun j => decide (x < l.getD j 0)).length = l.countP fun y => decide (x < y) := by
  intro l
  rw [List.countP_eq_length_filter]
  have : l.filter (fun y => decide (x < y)) = ((List.range l.length).filter fun j => decide (x < l.getD j 0)).map fun j => l.getD j 0 := by
    have e : l = (List.range l.length).map fun j => l.getD j 0 := by
      apply List.ext_getElem
      · simp
      · intro i h1 h2
        simp [List.getD_eq_getElem?_getD, List.getElem?_eq_getElem h1]
    conv => lhs; rw [e]
    rw [List.filter_map]
    rfl
  rw [this, List.length_map]
theorem falls_snoc (l : List Int) (x : Int) : fallsB (l ++ [x]) = fallsB l + ((l.countP fun y => decide (x < y) : Nat) : Int) := by
  unfold fallsB
  rw [List.length_append, List.length_singleton, List.range_succ, List.map_append, List.sum_append]
  congr 1
  · congr 1
    apply List.map_congr_left
    intro i hi
    rw [List.mem_range] at hi
    have g : ∀ j, j < l.length → (l ++ [x]).getD j 0 = l.getD j 0 := fun j hj => by
      simp [List.getD_eq_getElem?_getD, List.getElem?_append_left hj]
    congr 2
    apply List.filter_congr
    intro j hj
    rw [List.mem_range] at hj
    rw [g i hi, g j (by omega)]
  · rw [List.map_singleton, List.sum_singleton, ← range_count]
    congr 2
    apply List.filter_congr
    intro j hj
    rw [List.mem_range] at hj
    have g1 : (l ++ [x]).getD l.length 0 = x := by simp [List.getD_eq_getElem?_getD]
    have g2 : (l ++ [x]).getD j 0 = l.getD j 0 := by simp [List.getD_eq_getElem?_getD, List.getElem?_append_left hj]
    rw [g1, g2]
def parI (n : Int) : Int := if n.fmod 2 = 0 then 1 else -1
theorem parI_add (a : Int) (n : Nat) : parI (a + n) = parI a * (if n % 2 = 0 then 1 else -1) := by
  unfold parI
  rw [Int.fmod_eq_emod_of_nonneg _ (by omega), Int.fmod_eq_emod_of_nonneg _ (by omega)]
  by_cases h1 : a % 2 = 0 <;> by_cases h2 : n % 2 = 0 <;> by_cases h3 : (a + n) % 2 = 0 <;> simp [h1, h2, h3] <;> omega
theorem sgI_snoc (x : Int) : ∀ l : List Int, sgI (l ++ [x]) = sgI l * (if (l.countP fun y => decide (x < y)) % 2 = 0 then 1 else -1)
  | [] => by simp [sgI, csgI]
  | y :: l => by
    have c : ∀ l : List Int, csgI y (l ++ [x]) = csgI y l * (if x < y then -1 else 1) := by
      intro l
      induction l with
      | nil => simp [csgI]
      | cons z l ih =>
        rw [List.cons_append]
        unfold csgI
        rw [ih, Int.mul_assoc]
    rw [List.cons_append]
    unfold sgI
    rw [c, sgI_snoc x l, List.countP_cons]
    generalize csgI y l = a
    generalize sgI l = b
    by_cases h : x < y
    · rw [if_pos h]
      simp only [h, decide_true, if_true]
      by_cases h2 : (List.countP (fun y => decide (x < y)) l) % 2 = 0
      · rw [if_pos h2, if_neg (by omega)]; grind
      · rw [if_neg h2, if_pos (by omega)]; grind
    · rw [if_neg h]
      simp only [h, decide_false]
      simp
      grind
theorem sg_falls (l : List Int) : sgI l = parI (fallsB l) := by
  have : ∀ (n : Nat) (l : List Int), l.length = n → sgI l = parI (fallsB l) := by
    intro n
    induction n with
    | zero =>
      intro l h
      cases l with
      | nil => rfl
      | cons _ _ => simp at h
    | succ n ih =>
      intro l h
      have hne : l ≠ [] := fun e => by rw [e] at h; simp at h
      obtain ⟨m, x, rfl⟩ : ∃ m x, l = m ++ [x] := ⟨l.dropLast, l.getLast hne, (List.dropLast_concat_getLast hne).symm⟩
      have hm : m.length = n := by simpa using h
      rw [sgI_snoc, falls_snoc, parI_add, ih m hm]
  exact this l.length l rfl
theorem dupB_perm {l m : List Int} (h : l.Perm m) : dupB l = dupB m := by
  unfold dupB
  rw [h.any_eq]
  congr 1
  funext c
  rw [h.countP_eq]
theorem twin_sorted : ∀ {l : List Int}, l.Pairwise (· ≤ ·) → twinB l = dupB l
  | [], _ => rfl
  | [x], _ => by simp [twinB, dupB]
  | x :: y :: r, h => by
    obtain ⟨h1, h2⟩ := List.pairwise_cons.mp h
    have ih := twin_sorted h2
    have e : twinB (x :: y :: r) = (decide (x = y) || twinB (y :: r)) := rfl
    rw [e, ih]
    by_cases q : x = y
    · subst q
      have : dupB (x :: x :: r) = true := by
        unfold dupB
        rw [List.any_cons]
        simp [List.countP_cons]
        left
        omega
      simp [this]
    · have hx : ∀ z ∈ y :: r, z ≠ x := by
        intro z hz e
        subst e
        have h3 := h1 y List.mem_cons_self
        rcases List.mem_cons.mp hz with e | hz
        · exact q e
        · have := (List.pairwise_cons.mp h2).1 z hz
          omega
      have c0 : (y :: r).countP (fun z => decide (z = x)) = 0 := by
        rw [List.countP_eq_zero]
        intro z hz
        simpa using hx z hz
      simp only [q, decide_false, Bool.false_or]
      unfold dupB
      rw [List.any_cons (a := x), List.countP_cons, c0]
      simp only [decide_true, if_true]
      have : decide ((1 : Int) < ((0 + 1 : Nat) : Int)) = false := by decide
      rw [this, Bool.false_or]
      rw [Bool.eq_iff_iff, List.any_eq_true, List.any_eq_true]
      constructor
      · rintro ⟨c, hc, w⟩
        refine ⟨c, hc, ?_⟩
        rw [List.countP_cons, if_neg (by simpa using (hx c hc).symm)]
        exact w
      · rintro ⟨c, hc, w⟩
        refine ⟨c, hc, ?_⟩
        rw [List.countP_cons, if_neg (by simpa using (hx c hc).symm)] at w
        exact w
theorem put_plain (l : List Int) : (bubB l).1 = sortI l ∧ (if twinB (bubB l).1 then 0 else (bubB l).2) = sgnB l := by
  obtain ⟨h1, h2⟩ := bub_ok l
  refine ⟨h1, ?_⟩
  rw [h1, h2, twin_sorted (sortI_sorted l), dupB_perm (sortI_perm l), sg_falls]
  rfl
end K00
end
section
set_option Elab.async false
set_option linter.all false
set_option maxRecDepth 100000
set_option maxHeartbeats 2000000
/-! K00L: the line's check. -/
namespace K00
open MP PySem
theorem atM {l : List Int} {j : Nat} (h : j < l.length) : L2.atI (l.map MP.D.int) (j : Int) = some (.int (l.getD j 0)) := atI_nat h
theorem py_ints : ∀ l : List Int, pys (l.map MP.D.int) = some (l.map PyData.int)
  | [] => rfl
  | a :: l => by
    show (MP.D.py (.int a)).bind _ = _
    rw [py_ints l]; rfl
theorem shaped_ints (l : List Int) : SeqAt.shaped (.tuple (l.map PyData.int)) = true := by
  have h1 : PyData.canLayAll0 (l.map PyData.int) = true := by
    induction l with
    | nil => rfl
    | cons a l ih => exact ih
  have h2 : PyData.depthAll (l.map PyData.int) = 0 := by
    induction l with
    | nil => rfl
    | cons a l ih =>
      show max (PyData.depth (.int a)) (PyData.depthAll (l.map PyData.int)) = 0
      rw [ih h1]; rfl
  unfold SeqAt.shaped
  show (PyData.canLayAll0 (l.map PyData.int) && decide (PyData.depthAll (l.map PyData.int) + 1 ≤ 64)) = true
  rw [h1, h2]; rfl
theorem count_ints (l : List Int) (c : Int) : pmD .count (.tf (l.map .int)) [.int c] = some (.val (.int (l.countP fun z => decide (z = c) : Nat))) := by
  have h1 : SeqAt.shaped (.int c) = true := rfl
  have hp := py_ints l
  simp only [pmD, hp, MP.D.py, Option.bind_some, h1, shaped_ints, Bool.and_self, if_true, List.countP_map]
  rfl
theorem falls_ok (vs : List Int) (hv : vs.length ≤ 1000) (s7 : MP.Slot) : exL (.asg (.nm 19) (.blt .sum (.cons (.comp (.blt .len (.cons (.comp (.var 20) (.nm 20) (.rng1 (.var 21)) (.yes (.cmp .gt (.ix (.var 18) (.var 20)) (.ix (.var 18) (.var 21)))) [20]) .nil)) (.nm 21) (.rng1 (.blt .len (.cons (.var 18) .nil))) .no [21]) .nil)))
    [.un, .un, .un, .un, .un, .un, .un, s7, .un, .un, .un, .un, .un, .un, .un, .un, .un, .un, .sh (.tf (vs.map .int)), .un, .un, .un, .un, .un, .un, .un, .un, .un, .un, .un] = .ok (.nx, [.un, .un, .un, .un, .un, .un, .un, s7, .un, .un, .un, .un, .un, .un, .un, .un, .un, .un, .sh (.tf (vs.map .int)), .sh (.int (fallsB vs)), .un, .un, .un, .un, .un, .un, .un, .un, .un, .un]) := by
  have hin : ∀ i, i < vs.length → MP.ev [] ioL (cfL 28) (.comp (.var 20) (.nm 20) (.rng1 (.var 21)) (.yes (.cmp .gt (.ix (.var 18) (.var 20)) (.ix (.var 18) (.var 21)))) [20]) [.un, .un, .un, .un, .un, .un, .un, s7, .un, .un, .un, .un, .un, .un, .un, .un, .un, .un, .sh (.tf (vs.map .int)), .un, .un, .sh (.int (i : Nat)), .un, .un, .un, .un, .un, .un, .un, .un] = .ok (.fr (.lst (((List.range i).filter fun j => decide (vs.getD i 0 < vs.getD j 0)).map fun (j : Nat) => MP.D.int (j : Int))), [.un, .un, .un, .un, .un, .un, .un, s7, .un, .un, .un, .un, .un, .un, .un, .un, .un, .un, .sh (.tf (vs.map .int)), .un, .un, .sh (.int (i : Nat)), .un, .un, .un, .un, .un, .un, .un, .un]) := by
    intro i hi
    have e : (rngI i).filterMap (fun d => match d with | .int j => if vs.getD i 0 < vs.getD j.toNat 0 then some (MP.D.int j) else none | _ => none) = ((List.range i).filter fun j => decide (vs.getD i 0 < vs.getD j 0)).map fun (j : Nat) => MP.D.int (j : Int) := by
      unfold rngI
      rw [List.filterMap_map]
      induction List.range i with
      | nil => rfl
      | cons a r ih =>
        rw [List.filterMap_cons, List.filter_cons, ih]
        simp only [Function.comp, Int.toNat_natCast]
        by_cases h : vs.getD i 0 < vs.getD a 0
        · simp only [h, if_true, decide_true, List.map_cons]
        · simp only [h, if_false, decide_false]
          rfl
    rw [← e]
    refine ev_compP (items := rngI i) (lks := []) _ (evI_rngN ?_ (by omega)) rfl rfl ?_ ?_
    · simp [startE, ev_var, rd_sh, rd_ow, rd_lk, ev_int, ev_bl, ev_non, ev_str, ev_gl, ev_ty, ev_bin, ev_neg, ev_cmp, ev_chain, ev_not, ev_and, ev_or, ev_ite, ev_tup, ev_lst, ev_ix, ev_sl, ev_call, ev_blt, ev_pm, evs_nil, evs_cons, evO_no, evO_yes, evC_no, evC_yes, evI_seq, evI_zip, asg_nm, asg_tup, asgs_nil, asgs_cons, tlen_nil, tlen_cons, ex_asg, ex_ret, ex_ite, ex_expr, exs_nil, exs_cons, bind_k, bind_bad, strict_k, derefs_nil, derefs_cons, deref_val, deref_own, slot_sh, slot_ow, slot_lk, arg_val, arg_fr, arg_own, testR_k, store_v, store_f, store_o, io_0, io_f, io_ff, io_fff, io_ffff, MP.finish, outsOf, frz_nil, frz_val, frz_own, frz1_val, frz1_own, toSh_ow, toSh_lk, toSh_sh, lockable_nil, lockable_val, lockable_own, isOw_ow, isOw_sh, isOw_lk, isOw_un, opt1_k, callGo_k, ioSlots_t, ioSlots_f, ioSlots_n, nonIo_t, nonIo_f, nonIo_n, setOuts_c, setOuts_n, len_tup, len_lst, len_fz, len_tf, list_tup, list_lst, list_tf, tuple_tup, tuple_lst, tuple_tf, tupleF_lst, int_int, int_bl, isi_int, isi_bl, isi_tup, isi_tf, isi_lst, isi_str, isi_non, ty_bool_bool, ty_bool_int, ty_bool_str, ty_bool_tuple, ty_bool_list, ty_bool_dict, ty_int_bool, ty_int_int, ty_int_str, ty_int_tuple, ty_int_list, ty_int_dict, ty_str_bool, ty_str_int, ty_str_str, ty_str_tuple, ty_str_list, ty_str_dict, ty_tuple_bool, ty_tuple_int, ty_tuple_str, ty_tuple_tuple, ty_tuple_list, ty_tuple_dict, ty_list_bool, ty_list_int, ty_list_str, ty_list_tuple, ty_list_list, ty_list_dict, ty_NoneType_bool, ty_NoneType_int, ty_NoneType_str, ty_NoneType_tuple, ty_NoneType_list, ty_NoneType_dict, ty_dict_bool, ty_dict_int, ty_dict_str, ty_dict_tuple, ty_dict_list, ty_dict_dict, isN_int, omap_some, obind_some, oany_some, get_z, get_s, isN_tup, isN_non, cmp_lt, cmp_le, cmp_gt, cmp_ge, cmp_eq, cmp_ne, bin_add, bin_sub, bin_mod, bin_mul, bin_fdiv, bin_cat, bin_catL, ix_tup, ix_lst, ix_tf, small_0, small_1, small_2, small_3]
    · rw [rngI_len]; exact Nat.le_trans (by omega : i ≤ 1000) (by decide)
    · intro x hx
      obtain ⟨j, hj, rfl⟩ := List.mem_map.mp hx
      rw [List.mem_range] at hj
      have a1 := atM (l := vs) (j := i) hi
      have a2 := atM (l := vs) (j := j) (by omega)
      refine ⟨[.un, .un, .un, .un, .un, .un, .un, s7, .un, .un, .un, .un, .un, .un, .un, .un, .un, .un, .sh (.tf (vs.map .int)), .un, .sh (.int j), .sh (.int (i : Nat)), .un, .un, .un, .un, .un, .un, .un, .un], ?_, rfl⟩
      by_cases h : vs.getD i 0 < vs.getD j 0
      · simp [startE, ev_var, rd_sh, rd_ow, rd_lk, ev_int, ev_bl, ev_non, ev_str, ev_gl, ev_ty, ev_bin, ev_neg, ev_cmp, ev_chain, ev_not, ev_and, ev_or, ev_ite, ev_tup, ev_lst, ev_ix, ev_sl, ev_call, ev_blt, ev_pm, evs_nil, evs_cons, evO_no, evO_yes, evC_no, evC_yes, evI_seq, evI_zip, asg_nm, asg_tup, asgs_nil, asgs_cons, tlen_nil, tlen_cons, ex_asg, ex_ret, ex_ite, ex_expr, exs_nil, exs_cons, bind_k, bind_bad, strict_k, derefs_nil, derefs_cons, deref_val, deref_own, slot_sh, slot_ow, slot_lk, arg_val, arg_fr, arg_own, testR_k, store_v, store_f, store_o, io_0, io_f, io_ff, io_fff, io_ffff, MP.finish, outsOf, frz_nil, frz_val, frz_own, frz1_val, frz1_own, toSh_ow, toSh_lk, toSh_sh, lockable_nil, lockable_val, lockable_own, isOw_ow, isOw_sh, isOw_lk, isOw_un, opt1_k, callGo_k, ioSlots_t, ioSlots_f, ioSlots_n, nonIo_t, nonIo_f, nonIo_n, setOuts_c, setOuts_n, len_tup, len_lst, len_fz, len_tf, list_tup, list_lst, list_tf, tuple_tup, tuple_lst, tuple_tf, tupleF_lst, int_int, int_bl, isi_int, isi_bl, isi_tup, isi_tf, isi_lst, isi_str, isi_non, ty_bool_bool, ty_bool_int, ty_bool_str, ty_bool_tuple, ty_bool_list, ty_bool_dict, ty_int_bool, ty_int_int, ty_int_str, ty_int_tuple, ty_int_list, ty_int_dict, ty_str_bool, ty_str_int, ty_str_str, ty_str_tuple, ty_str_list, ty_str_dict, ty_tuple_bool, ty_tuple_int, ty_tuple_str, ty_tuple_tuple, ty_tuple_list, ty_tuple_dict, ty_list_bool, ty_list_int, ty_list_str, ty_list_tuple, ty_list_list, ty_list_dict, ty_NoneType_bool, ty_NoneType_int, ty_NoneType_str, ty_NoneType_tuple, ty_NoneType_list, ty_NoneType_dict, ty_dict_bool, ty_dict_int, ty_dict_str, ty_dict_tuple, ty_dict_list, ty_dict_dict, isN_int, omap_some, obind_some, oany_some, get_z, get_s, isN_tup, isN_non, cmp_lt, cmp_le, cmp_gt, cmp_ge, cmp_eq, cmp_ne, bin_add, bin_sub, bin_mod, bin_mul, bin_fdiv, bin_cat, bin_catL, ix_tup, ix_lst, ix_tf, small_0, small_1, small_2, small_3, wipeE, lock, a1, a2, h, -List.getD_eq_getElem?_getD]
      · simp [startE, ev_var, rd_sh, rd_ow, rd_lk, ev_int, ev_bl, ev_non, ev_str, ev_gl, ev_ty, ev_bin, ev_neg, ev_cmp, ev_chain, ev_not, ev_and, ev_or, ev_ite, ev_tup, ev_lst, ev_ix, ev_sl, ev_call, ev_blt, ev_pm, evs_nil, evs_cons, evO_no, evO_yes, evC_no, evC_yes, evI_seq, evI_zip, asg_nm, asg_tup, asgs_nil, asgs_cons, tlen_nil, tlen_cons, ex_asg, ex_ret, ex_ite, ex_expr, exs_nil, exs_cons, bind_k, bind_bad, strict_k, derefs_nil, derefs_cons, deref_val, deref_own, slot_sh, slot_ow, slot_lk, arg_val, arg_fr, arg_own, testR_k, store_v, store_f, store_o, io_0, io_f, io_ff, io_fff, io_ffff, MP.finish, outsOf, frz_nil, frz_val, frz_own, frz1_val, frz1_own, toSh_ow, toSh_lk, toSh_sh, lockable_nil, lockable_val, lockable_own, isOw_ow, isOw_sh, isOw_lk, isOw_un, opt1_k, callGo_k, ioSlots_t, ioSlots_f, ioSlots_n, nonIo_t, nonIo_f, nonIo_n, setOuts_c, setOuts_n, len_tup, len_lst, len_fz, len_tf, list_tup, list_lst, list_tf, tuple_tup, tuple_lst, tuple_tf, tupleF_lst, int_int, int_bl, isi_int, isi_bl, isi_tup, isi_tf, isi_lst, isi_str, isi_non, ty_bool_bool, ty_bool_int, ty_bool_str, ty_bool_tuple, ty_bool_list, ty_bool_dict, ty_int_bool, ty_int_int, ty_int_str, ty_int_tuple, ty_int_list, ty_int_dict, ty_str_bool, ty_str_int, ty_str_str, ty_str_tuple, ty_str_list, ty_str_dict, ty_tuple_bool, ty_tuple_int, ty_tuple_str, ty_tuple_tuple, ty_tuple_list, ty_tuple_dict, ty_list_bool, ty_list_int, ty_list_str, ty_list_tuple, ty_list_list, ty_list_dict, ty_NoneType_bool, ty_NoneType_int, ty_NoneType_str, ty_NoneType_tuple, ty_NoneType_list, ty_NoneType_dict, ty_dict_bool, ty_dict_int, ty_dict_str, ty_dict_tuple, ty_dict_list, ty_dict_dict, isN_int, omap_some, obind_some, oany_some, get_z, get_s, isN_tup, isN_non, cmp_lt, cmp_le, cmp_gt, cmp_ge, cmp_eq, cmp_ne, bin_add, bin_sub, bin_mod, bin_mul, bin_fdiv, bin_cat, bin_catL, ix_tup, ix_lst, ix_tf, small_0, small_1, small_2, small_3, wipeE, lock, a1, a2, h, -List.getD_eq_getElem?_getD]
  have hc : MP.ev [] ioL (cfL 28) (.comp (.blt .len (.cons (.comp (.var 20) (.nm 20) (.rng1 (.var 21)) (.yes (.cmp .gt (.ix (.var 18) (.var 20)) (.ix (.var 18) (.var 21)))) [20]) .nil)) (.nm 21) (.rng1 (.blt .len (.cons (.var 18) .nil))) .no [21]) [.un, .un, .un, .un, .un, .un, .un, s7, .un, .un, .un, .un, .un, .un, .un, .un, .un, .un, .sh (.tf (vs.map .int)), .un, .un, .un, .un, .un, .un, .un, .un, .un, .un, .un] = .ok (.fr (.lst ((rngI vs.length).filterMap fun d => match d with | .int i => some (.int (((List.range i.toNat).filter fun j => decide (vs.getD i.toNat 0 < vs.getD j 0)).length : Int)) | _ => none)), [.un, .un, .un, .un, .un, .un, .un, s7, .un, .un, .un, .un, .un, .un, .un, .un, .un, .un, .sh (.tf (vs.map .int)), .un, .un, .un, .un, .un, .un, .un, .un, .un, .un, .un]) := by
    refine ev_compP (items := rngI vs.length) (lks := []) _ (evI_rngN ?_ (by omega)) rfl rfl ?_ ?_
    · simp [startE, ev_var, rd_sh, rd_ow, rd_lk, ev_int, ev_bl, ev_non, ev_str, ev_gl, ev_ty, ev_bin, ev_neg, ev_cmp, ev_chain, ev_not, ev_and, ev_or, ev_ite, ev_tup, ev_lst, ev_ix, ev_sl, ev_call, ev_blt, ev_pm, evs_nil, evs_cons, evO_no, evO_yes, evC_no, evC_yes, evI_seq, evI_zip, asg_nm, asg_tup, asgs_nil, asgs_cons, tlen_nil, tlen_cons, ex_asg, ex_ret, ex_ite, ex_expr, exs_nil, exs_cons, bind_k, bind_bad, strict_k, derefs_nil, derefs_cons, deref_val, deref_own, slot_sh, slot_ow, slot_lk, arg_val, arg_fr, arg_own, testR_k, store_v, store_f, store_o, io_0, io_f, io_ff, io_fff, io_ffff, MP.finish, outsOf, frz_nil, frz_val, frz_own, frz1_val, frz1_own, toSh_ow, toSh_lk, toSh_sh, lockable_nil, lockable_val, lockable_own, isOw_ow, isOw_sh, isOw_lk, isOw_un, opt1_k, callGo_k, ioSlots_t, ioSlots_f, ioSlots_n, nonIo_t, nonIo_f, nonIo_n, setOuts_c, setOuts_n, len_tup, len_lst, len_fz, len_tf, list_tup, list_lst, list_tf, tuple_tup, tuple_lst, tuple_tf, tupleF_lst, int_int, int_bl, isi_int, isi_bl, isi_tup, isi_tf, isi_lst, isi_str, isi_non, ty_bool_bool, ty_bool_int, ty_bool_str, ty_bool_tuple, ty_bool_list, ty_bool_dict, ty_int_bool, ty_int_int, ty_int_str, ty_int_tuple, ty_int_list, ty_int_dict, ty_str_bool, ty_str_int, ty_str_str, ty_str_tuple, ty_str_list, ty_str_dict, ty_tuple_bool, ty_tuple_int, ty_tuple_str, ty_tuple_tuple, ty_tuple_list, ty_tuple_dict, ty_list_bool, ty_list_int, ty_list_str, ty_list_tuple, ty_list_list, ty_list_dict, ty_NoneType_bool, ty_NoneType_int, ty_NoneType_str, ty_NoneType_tuple, ty_NoneType_list, ty_NoneType_dict, ty_dict_bool, ty_dict_int, ty_dict_str, ty_dict_tuple, ty_dict_list, ty_dict_dict, isN_int, omap_some, obind_some, oany_some, get_z, get_s, isN_tup, isN_non, cmp_lt, cmp_le, cmp_gt, cmp_ge, cmp_eq, cmp_ne, bin_add, bin_sub, bin_mod, bin_mul, bin_fdiv, bin_cat, bin_catL, ix_tup, ix_lst, ix_tf, small_0, small_1, small_2, small_3]
    · rw [rngI_len]; exact Nat.le_trans hv (by decide)
    · intro x hx
      obtain ⟨i, hi, rfl⟩ := List.mem_map.mp hx
      rw [List.mem_range] at hi
      have := hin i hi
      refine ⟨[.un, .un, .un, .un, .un, .un, .un, s7, .un, .un, .un, .un, .un, .un, .un, .un, .un, .un, .sh (.tf (vs.map .int)), .un, .un, .sh (.int (i : Nat)), .un, .un, .un, .un, .un, .un, .un, .un], ?_, rfl⟩
      simp [startE, ev_var, rd_sh, rd_ow, rd_lk, ev_int, ev_bl, ev_non, ev_str, ev_gl, ev_ty, ev_bin, ev_neg, ev_cmp, ev_chain, ev_not, ev_and, ev_or, ev_ite, ev_tup, ev_lst, ev_ix, ev_sl, ev_call, ev_blt, ev_pm, evs_nil, evs_cons, evO_no, evO_yes, evC_no, evC_yes, evI_seq, evI_zip, asg_nm, asg_tup, asgs_nil, asgs_cons, tlen_nil, tlen_cons, ex_asg, ex_ret, ex_ite, ex_expr, exs_nil, exs_cons, bind_k, bind_bad, strict_k, derefs_nil, derefs_cons, deref_val, deref_own, slot_sh, slot_ow, slot_lk, arg_val, arg_fr, arg_own, testR_k, store_v, store_f, store_o, io_0, io_f, io_ff, io_fff, io_ffff, MP.finish, outsOf, frz_nil, frz_val, frz_own, frz1_val, frz1_own, toSh_ow, toSh_lk, toSh_sh, lockable_nil, lockable_val, lockable_own, isOw_ow, isOw_sh, isOw_lk, isOw_un, opt1_k, callGo_k, ioSlots_t, ioSlots_f, ioSlots_n, nonIo_t, nonIo_f, nonIo_n, setOuts_c, setOuts_n, len_tup, len_lst, len_fz, len_tf, list_tup, list_lst, list_tf, tuple_tup, tuple_lst, tuple_tf, tupleF_lst, int_int, int_bl, isi_int, isi_bl, isi_tup, isi_tf, isi_lst, isi_str, isi_non, ty_bool_bool, ty_bool_int, ty_bool_str, ty_bool_tuple, ty_bool_list, ty_bool_dict, ty_int_bool, ty_int_int, ty_int_str, ty_int_tuple, ty_int_list, ty_int_dict, ty_str_bool, ty_str_int, ty_str_str, ty_str_tuple, ty_str_list, ty_str_dict, ty_tuple_bool, ty_tuple_int, ty_tuple_str, ty_tuple_tuple, ty_tuple_list, ty_tuple_dict, ty_list_bool, ty_list_int, ty_list_str, ty_list_tuple, ty_list_list, ty_list_dict, ty_NoneType_bool, ty_NoneType_int, ty_NoneType_str, ty_NoneType_tuple, ty_NoneType_list, ty_NoneType_dict, ty_dict_bool, ty_dict_int, ty_dict_str, ty_dict_tuple, ty_dict_list, ty_dict_dict, isN_int, omap_some, obind_some, oany_some, get_z, get_s, isN_tup, isN_non, cmp_lt, cmp_le, cmp_gt, cmp_ge, cmp_eq, cmp_ne, bin_add, bin_sub, bin_mod, bin_mul, bin_fdiv, bin_cat, bin_catL, ix_tup, ix_lst, ix_tf, small_0, small_1, small_2, small_3, wipeE, lock, this, -List.getD_eq_getElem?_getD]
  rw [fm_rng _ _ (fun i => .int (((List.range i).filter fun j => decide (vs.getD i 0 < vs.getD j 0)).length : Int)) (fun i _ => rfl)] at hc
  have hs := sum_d (fun i => (((List.range i).filter fun j => decide (vs.getD i 0 < vs.getD j 0)).length : Int)) (List.range vs.length)
  show MP.exec [] ioL (cfL 28) 1000000 _ _ = _
  simp [startE, ev_var, rd_sh, rd_ow, rd_lk, ev_int, ev_bl, ev_non, ev_str, ev_gl, ev_ty, ev_bin, ev_neg, ev_cmp, ev_chain, ev_not, ev_and, ev_or, ev_ite, ev_tup, ev_lst, ev_ix, ev_sl, ev_call, ev_blt, ev_pm, evs_nil, evs_cons, evO_no, evO_yes, evC_no, evC_yes, evI_seq, evI_zip, asg_nm, asg_tup, asgs_nil, asgs_cons, tlen_nil, tlen_cons, ex_asg, ex_ret, ex_ite, ex_expr, exs_nil, exs_cons, bind_k, bind_bad, strict_k, derefs_nil, derefs_cons, deref_val, deref_own, slot_sh, slot_ow, slot_lk, arg_val, arg_fr, arg_own, testR_k, store_v, store_f, store_o, io_0, io_f, io_ff, io_fff, io_ffff, MP.finish, outsOf, frz_nil, frz_val, frz_own, frz1_val, frz1_own, toSh_ow, toSh_lk, toSh_sh, lockable_nil, lockable_val, lockable_own, isOw_ow, isOw_sh, isOw_lk, isOw_un, opt1_k, callGo_k, ioSlots_t, ioSlots_f, ioSlots_n, nonIo_t, nonIo_f, nonIo_n, setOuts_c, setOuts_n, len_tup, len_lst, len_fz, len_tf, list_tup, list_lst, list_tf, tuple_tup, tuple_lst, tuple_tf, tupleF_lst, int_int, int_bl, isi_int, isi_bl, isi_tup, isi_tf, isi_lst, isi_str, isi_non, ty_bool_bool, ty_bool_int, ty_bool_str, ty_bool_tuple, ty_bool_list, ty_bool_dict, ty_int_bool, ty_int_int, ty_int_str, ty_int_tuple, ty_int_list, ty_int_dict, ty_str_bool, ty_str_int, ty_str_str, ty_str_tuple, ty_str_list, ty_str_dict, ty_tuple_bool, ty_tuple_int, ty_tuple_str, ty_tuple_tuple, ty_tuple_list, ty_tuple_dict, ty_list_bool, ty_list_int, ty_list_str, ty_list_tuple, ty_list_list, ty_list_dict, ty_NoneType_bool, ty_NoneType_int, ty_NoneType_str, ty_NoneType_tuple, ty_NoneType_list, ty_NoneType_dict, ty_dict_bool, ty_dict_int, ty_dict_str, ty_dict_tuple, ty_dict_list, ty_dict_dict, isN_int, omap_some, obind_some, oany_some, get_z, get_s, isN_tup, isN_non, cmp_lt, cmp_le, cmp_gt, cmp_ge, cmp_eq, cmp_ne, bin_add, bin_sub, bin_mod, bin_mul, bin_fdiv, bin_cat, bin_catL, ix_tup, ix_lst, ix_tf, small_0, small_1, small_2, small_3, hc, hs, -List.getD_eq_getElem?_getD]
  rfl
theorem sign_ok (vs : List Int) (hv : vs.length ≤ 1000) (s7 : MP.Slot) : exL (.asg (.nm 22) (.ite (.blt .any (.cons (.comp (.cmp .gt (.pm .count (.var 18) (.cons (.var 9) .nil)) (.int 1)) (.nm 9) (.seq (.var 18)) .no [9]) .nil)) (.int 0) (.ite (.cmp .eq (.bin .mod (.var 19) (.int 2)) (.int 0)) (.int 1) (.neg (.int 1)))))
    [.un, .un, .un, .un, .un, .un, .un, s7, .un, .un, .un, .un, .un, .un, .un, .un, .un, .un, .sh (.tf (vs.map .int)), .sh (.int (fallsB vs)), .un, .un, .un, .un, .un, .un, .un, .un, .un, .un] = .ok (.nx, [.un, .un, .un, .un, .un, .un, .un, s7, .un, .un, .un, .un, .un, .un, .un, .un, .un, .un, .sh (.tf (vs.map .int)), .sh (.int (fallsB vs)), .un, .un, .sh (.int (sgnB vs)), .un, .un, .un, .un, .un, .un, .un]) := by
  have hc : MP.ev [] ioL (cfL 28) (.comp (.cmp .gt (.pm .count (.var 18) (.cons (.var 9) .nil)) (.int 1)) (.nm 9) (.seq (.var 18)) .no [9]) [.un, .un, .un, .un, .un, .un, .un, s7, .un, .un, .un, .un, .un, .un, .un, .un, .un, .un, .sh (.tf (vs.map .int)), .sh (.int (fallsB vs)), .un, .un, .un, .un, .un, .un, .un, .un, .un, .un] = .ok (.fr (.lst ((vs.map MP.D.int).filterMap fun d => match d with | .int c => some (.bl (decide (1 < ((vs.countP fun z => decide (z = c) : Nat) : Int)))) | _ => none)), [.un, .un, .un, .un, .un, .un, .un, s7, .un, .un, .un, .un, .un, .un, .un, .un, .un, .un, .sh (.tf (vs.map .int)), .sh (.int (fallsB vs)), .un, .un, .un, .un, .un, .un, .un, .un, .un, .un]) := by
    refine ev_compP (lks := []) _ (by simp [startE, ev_var, rd_sh, rd_ow, rd_lk, ev_int, ev_bl, ev_non, ev_str, ev_gl, ev_ty, ev_bin, ev_neg, ev_cmp, ev_chain, ev_not, ev_and, ev_or, ev_ite, ev_tup, ev_lst, ev_ix, ev_sl, ev_call, ev_blt, ev_pm, evs_nil, evs_cons, evO_no, evO_yes, evC_no, evC_yes, evI_seq, evI_zip, asg_nm, asg_tup, asgs_nil, asgs_cons, tlen_nil, tlen_cons, ex_asg, ex_ret, ex_ite, ex_expr, exs_nil, exs_cons, bind_k, bind_bad, strict_k, derefs_nil, derefs_cons, deref_val, deref_own, slot_sh, slot_ow, slot_lk, arg_val, arg_fr, arg_own, testR_k, store_v, store_f, store_o, io_0, io_f, io_ff, io_fff, io_ffff, MP.finish, outsOf, frz_nil, frz_val, frz_own, frz1_val, frz1_own, toSh_ow, toSh_lk, toSh_sh, lockable_nil, lockable_val, lockable_own, isOw_ow, isOw_sh, isOw_lk, isOw_un, opt1_k, callGo_k, ioSlots_t, ioSlots_f, ioSlots_n, nonIo_t, nonIo_f, nonIo_n, setOuts_c, setOuts_n, len_tup, len_lst, len_fz, len_tf, list_tup, list_lst, list_tf, tuple_tup, tuple_lst, tuple_tf, tupleF_lst, int_int, int_bl, isi_int, isi_bl, isi_tup, isi_tf, isi_lst, isi_str, isi_non, ty_bool_bool, ty_bool_int, ty_bool_str, ty_bool_tuple, ty_bool_list, ty_bool_dict, ty_int_bool, ty_int_int, ty_int_str, ty_int_tuple, ty_int_list, ty_int_dict, ty_str_bool, ty_str_int, ty_str_str, ty_str_tuple, ty_str_list, ty_str_dict, ty_tuple_bool, ty_tuple_int, ty_tuple_str, ty_tuple_tuple, ty_tuple_list, ty_tuple_dict, ty_list_bool, ty_list_int, ty_list_str, ty_list_tuple, ty_list_list, ty_list_dict, ty_NoneType_bool, ty_NoneType_int, ty_NoneType_str, ty_NoneType_tuple, ty_NoneType_list, ty_NoneType_dict, ty_dict_bool, ty_dict_int, ty_dict_str, ty_dict_tuple, ty_dict_list, ty_dict_dict, isN_int, omap_some, obind_some, oany_some, get_z, get_s, isN_tup, isN_non, cmp_lt, cmp_le, cmp_gt, cmp_ge, cmp_eq, cmp_ne, bin_add, bin_sub, bin_mod, bin_mul, bin_fdiv, bin_cat, bin_catL, ix_tup, ix_lst, ix_tf, small_0, small_1, small_2, small_3, seq?]) rfl rfl ?_ ?_
    · rw [List.length_map]; exact Nat.le_trans hv (by decide)
    · intro x hx
      obtain ⟨c, hi, rfl⟩ := List.mem_map.mp hx
      have := count_ints vs c
      refine ⟨[.un, .un, .un, .un, .un, .un, .un, s7, .un, .sh (.int c), .un, .un, .un, .un, .un, .un, .un, .un, .sh (.tf (vs.map .int)), .sh (.int (fallsB vs)), .un, .un, .un, .un, .un, .un, .un, .un, .un, .un], ?_, rfl⟩
      simp [startE, ev_var, rd_sh, rd_ow, rd_lk, ev_int, ev_bl, ev_non, ev_str, ev_gl, ev_ty, ev_bin, ev_neg, ev_cmp, ev_chain, ev_not, ev_and, ev_or, ev_ite, ev_tup, ev_lst, ev_ix, ev_sl, ev_call, ev_blt, ev_pm, evs_nil, evs_cons, evO_no, evO_yes, evC_no, evC_yes, evI_seq, evI_zip, asg_nm, asg_tup, asgs_nil, asgs_cons, tlen_nil, tlen_cons, ex_asg, ex_ret, ex_ite, ex_expr, exs_nil, exs_cons, bind_k, bind_bad, strict_k, derefs_nil, derefs_cons, deref_val, deref_own, slot_sh, slot_ow, slot_lk, arg_val, arg_fr, arg_own, testR_k, store_v, store_f, store_o, io_0, io_f, io_ff, io_fff, io_ffff, MP.finish, outsOf, frz_nil, frz_val, frz_own, frz1_val, frz1_own, toSh_ow, toSh_lk, toSh_sh, lockable_nil, lockable_val, lockable_own, isOw_ow, isOw_sh, isOw_lk, isOw_un, opt1_k, callGo_k, ioSlots_t, ioSlots_f, ioSlots_n, nonIo_t, nonIo_f, nonIo_n, setOuts_c, setOuts_n, len_tup, len_lst, len_fz, len_tf, list_tup, list_lst, list_tf, tuple_tup, tuple_lst, tuple_tf, tupleF_lst, int_int, int_bl, isi_int, isi_bl, isi_tup, isi_tf, isi_lst, isi_str, isi_non, ty_bool_bool, ty_bool_int, ty_bool_str, ty_bool_tuple, ty_bool_list, ty_bool_dict, ty_int_bool, ty_int_int, ty_int_str, ty_int_tuple, ty_int_list, ty_int_dict, ty_str_bool, ty_str_int, ty_str_str, ty_str_tuple, ty_str_list, ty_str_dict, ty_tuple_bool, ty_tuple_int, ty_tuple_str, ty_tuple_tuple, ty_tuple_list, ty_tuple_dict, ty_list_bool, ty_list_int, ty_list_str, ty_list_tuple, ty_list_list, ty_list_dict, ty_NoneType_bool, ty_NoneType_int, ty_NoneType_str, ty_NoneType_tuple, ty_NoneType_list, ty_NoneType_dict, ty_dict_bool, ty_dict_int, ty_dict_str, ty_dict_tuple, ty_dict_list, ty_dict_dict, isN_int, omap_some, obind_some, oany_some, get_z, get_s, isN_tup, isN_non, cmp_lt, cmp_le, cmp_gt, cmp_ge, cmp_eq, cmp_ne, bin_add, bin_sub, bin_mod, bin_mul, bin_fdiv, bin_cat, bin_catL, ix_tup, ix_lst, ix_tf, small_0, small_1, small_2, small_3, wipeE, lock, this]
  have e : (vs.map MP.D.int).filterMap (fun d => match d with | .int c => some (MP.D.bl (decide (1 < ((vs.countP fun z => decide (z = c) : Nat) : Int)))) | _ => none) = vs.map fun c => MP.D.bl (decide (1 < ((vs.countP fun z => decide (z = c) : Nat) : Int))) := by
    rw [List.filterMap_map]
    exact fm_eq fun x _ => rfl
  rw [e] at hc
  have ha : bltD .any [.lst (vs.map fun c => MP.D.bl (decide (1 < ((vs.countP fun z => decide (z = c) : Nat) : Int))))] = some (.val (.bl (dupB vs))) := any_d _ vs
  show MP.exec [] ioL (cfL 28) 1000000 _ _ = _
  by_cases h1 : dupB vs = true
  · have e2 : sgnB vs = 0 := by unfold sgnB; rw [if_pos h1]
    simp only [e2]
    simp [startE, ev_var, rd_sh, rd_ow, rd_lk, ev_int, ev_bl, ev_non, ev_str, ev_gl, ev_ty, ev_bin, ev_neg, ev_cmp, ev_chain, ev_not, ev_and, ev_or, ev_ite, ev_tup, ev_lst, ev_ix, ev_sl, ev_call, ev_blt, ev_pm, evs_nil, evs_cons, evO_no, evO_yes, evC_no, evC_yes, evI_seq, evI_zip, asg_nm, asg_tup, asgs_nil, asgs_cons, tlen_nil, tlen_cons, ex_asg, ex_ret, ex_ite, ex_expr, exs_nil, exs_cons, bind_k, bind_bad, strict_k, derefs_nil, derefs_cons, deref_val, deref_own, slot_sh, slot_ow, slot_lk, arg_val, arg_fr, arg_own, testR_k, store_v, store_f, store_o, io_0, io_f, io_ff, io_fff, io_ffff, MP.finish, outsOf, frz_nil, frz_val, frz_own, frz1_val, frz1_own, toSh_ow, toSh_lk, toSh_sh, lockable_nil, lockable_val, lockable_own, isOw_ow, isOw_sh, isOw_lk, isOw_un, opt1_k, callGo_k, ioSlots_t, ioSlots_f, ioSlots_n, nonIo_t, nonIo_f, nonIo_n, setOuts_c, setOuts_n, len_tup, len_lst, len_fz, len_tf, list_tup, list_lst, list_tf, tuple_tup, tuple_lst, tuple_tf, tupleF_lst, int_int, int_bl, isi_int, isi_bl, isi_tup, isi_tf, isi_lst, isi_str, isi_non, ty_bool_bool, ty_bool_int, ty_bool_str, ty_bool_tuple, ty_bool_list, ty_bool_dict, ty_int_bool, ty_int_int, ty_int_str, ty_int_tuple, ty_int_list, ty_int_dict, ty_str_bool, ty_str_int, ty_str_str, ty_str_tuple, ty_str_list, ty_str_dict, ty_tuple_bool, ty_tuple_int, ty_tuple_str, ty_tuple_tuple, ty_tuple_list, ty_tuple_dict, ty_list_bool, ty_list_int, ty_list_str, ty_list_tuple, ty_list_list, ty_list_dict, ty_NoneType_bool, ty_NoneType_int, ty_NoneType_str, ty_NoneType_tuple, ty_NoneType_list, ty_NoneType_dict, ty_dict_bool, ty_dict_int, ty_dict_str, ty_dict_tuple, ty_dict_list, ty_dict_dict, isN_int, omap_some, obind_some, oany_some, get_z, get_s, isN_tup, isN_non, cmp_lt, cmp_le, cmp_gt, cmp_ge, cmp_eq, cmp_ne, bin_add, bin_sub, bin_mod, bin_mul, bin_fdiv, bin_cat, bin_catL, ix_tup, ix_lst, ix_tf, small_0, small_1, small_2, small_3, hc, ha, h1]
  · have h1' : dupB vs = false := by simpa using h1
    by_cases h2 : (fallsB vs).fmod 2 = 0
    · have e2 : sgnB vs = 1 := by unfold sgnB; rw [if_neg h1, if_pos h2]
      simp only [e2]
      simp [startE, ev_var, rd_sh, rd_ow, rd_lk, ev_int, ev_bl, ev_non, ev_str, ev_gl, ev_ty, ev_bin, ev_neg, ev_cmp, ev_chain, ev_not, ev_and, ev_or, ev_ite, ev_tup, ev_lst, ev_ix, ev_sl, ev_call, ev_blt, ev_pm, evs_nil, evs_cons, evO_no, evO_yes, evC_no, evC_yes, evI_seq, evI_zip, asg_nm, asg_tup, asgs_nil, asgs_cons, tlen_nil, tlen_cons, ex_asg, ex_ret, ex_ite, ex_expr, exs_nil, exs_cons, bind_k, bind_bad, strict_k, derefs_nil, derefs_cons, deref_val, deref_own, slot_sh, slot_ow, slot_lk, arg_val, arg_fr, arg_own, testR_k, store_v, store_f, store_o, io_0, io_f, io_ff, io_fff, io_ffff, MP.finish, outsOf, frz_nil, frz_val, frz_own, frz1_val, frz1_own, toSh_ow, toSh_lk, toSh_sh, lockable_nil, lockable_val, lockable_own, isOw_ow, isOw_sh, isOw_lk, isOw_un, opt1_k, callGo_k, ioSlots_t, ioSlots_f, ioSlots_n, nonIo_t, nonIo_f, nonIo_n, setOuts_c, setOuts_n, len_tup, len_lst, len_fz, len_tf, list_tup, list_lst, list_tf, tuple_tup, tuple_lst, tuple_tf, tupleF_lst, int_int, int_bl, isi_int, isi_bl, isi_tup, isi_tf, isi_lst, isi_str, isi_non, ty_bool_bool, ty_bool_int, ty_bool_str, ty_bool_tuple, ty_bool_list, ty_bool_dict, ty_int_bool, ty_int_int, ty_int_str, ty_int_tuple, ty_int_list, ty_int_dict, ty_str_bool, ty_str_int, ty_str_str, ty_str_tuple, ty_str_list, ty_str_dict, ty_tuple_bool, ty_tuple_int, ty_tuple_str, ty_tuple_tuple, ty_tuple_list, ty_tuple_dict, ty_list_bool, ty_list_int, ty_list_str, ty_list_tuple, ty_list_list, ty_list_dict, ty_NoneType_bool, ty_NoneType_int, ty_NoneType_str, ty_NoneType_tuple, ty_NoneType_list, ty_NoneType_dict, ty_dict_bool, ty_dict_int, ty_dict_str, ty_dict_tuple, ty_dict_list, ty_dict_dict, isN_int, omap_some, obind_some, oany_some, get_z, get_s, isN_tup, isN_non, cmp_lt, cmp_le, cmp_gt, cmp_ge, cmp_eq, cmp_ne, bin_add, bin_sub, bin_mod, bin_mul, bin_fdiv, bin_cat, bin_catL, ix_tup, ix_lst, ix_tf, small_0, small_1, small_2, small_3, hc, ha, h1', h2]
    · have e2 : sgnB vs = -1 := by unfold sgnB; rw [if_neg h1, if_neg h2]
      simp only [e2]
      simp [startE, ev_var, rd_sh, rd_ow, rd_lk, ev_int, ev_bl, ev_non, ev_str, ev_gl, ev_ty, ev_bin, ev_neg, ev_cmp, ev_chain, ev_not, ev_and, ev_or, ev_ite, ev_tup, ev_lst, ev_ix, ev_sl, ev_call, ev_blt, ev_pm, evs_nil, evs_cons, evO_no, evO_yes, evC_no, evC_yes, evI_seq, evI_zip, asg_nm, asg_tup, asgs_nil, asgs_cons, tlen_nil, tlen_cons, ex_asg, ex_ret, ex_ite, ex_expr, exs_nil, exs_cons, bind_k, bind_bad, strict_k, derefs_nil, derefs_cons, deref_val, deref_own, slot_sh, slot_ow, slot_lk, arg_val, arg_fr, arg_own, testR_k, store_v, store_f, store_o, io_0, io_f, io_ff, io_fff, io_ffff, MP.finish, outsOf, frz_nil, frz_val, frz_own, frz1_val, frz1_own, toSh_ow, toSh_lk, toSh_sh, lockable_nil, lockable_val, lockable_own, isOw_ow, isOw_sh, isOw_lk, isOw_un, opt1_k, callGo_k, ioSlots_t, ioSlots_f, ioSlots_n, nonIo_t, nonIo_f, nonIo_n, setOuts_c, setOuts_n, len_tup, len_lst, len_fz, len_tf, list_tup, list_lst, list_tf, tuple_tup, tuple_lst, tuple_tf, tupleF_lst, int_int, int_bl, isi_int, isi_bl, isi_tup, isi_tf, isi_lst, isi_str, isi_non, ty_bool_bool, ty_bool_int, ty_bool_str, ty_bool_tuple, ty_bool_list, ty_bool_dict, ty_int_bool, ty_int_int, ty_int_str, ty_int_tuple, ty_int_list, ty_int_dict, ty_str_bool, ty_str_int, ty_str_str, ty_str_tuple, ty_str_list, ty_str_dict, ty_tuple_bool, ty_tuple_int, ty_tuple_str, ty_tuple_tuple, ty_tuple_list, ty_tuple_dict, ty_list_bool, ty_list_int, ty_list_str, ty_list_tuple, ty_list_list, ty_list_dict, ty_NoneType_bool, ty_NoneType_int, ty_NoneType_str, ty_NoneType_tuple, ty_NoneType_list, ty_NoneType_dict, ty_dict_bool, ty_dict_int, ty_dict_str, ty_dict_tuple, ty_dict_list, ty_dict_dict, isN_int, omap_some, obind_some, oany_some, get_z, get_s, isN_tup, isN_non, cmp_lt, cmp_le, cmp_gt, cmp_ge, cmp_eq, cmp_ne, bin_add, bin_sub, bin_mod, bin_mul, bin_fdiv, bin_cat, bin_catL, ix_tup, ix_lst, ix_tf, small_0, small_1, small_2, small_3, hc, ha, h1', h2]
theorem io_sgp : ioL "sign_power" = [false] := by decide +kernel
theorem sgp_ok (k : Nat) (i : Int) : cfL (k + 1) "sign_power" [.int i] = .ok (.int (if i.fmod 2 = 0 then 1 else -1), false, []) := by
  rw [cfL_eq (f := ir_sign_power) rfl rfl]
  by_cases h : i.fmod 2 = 0 <;> simp [ir_sign_power, startE, ev_var, rd_sh, rd_ow, rd_lk, ev_int, ev_bl, ev_non, ev_str, ev_gl, ev_ty, ev_bin, ev_neg, ev_cmp, ev_chain, ev_not, ev_and, ev_or, ev_ite, ev_tup, ev_lst, ev_ix, ev_sl, ev_call, ev_blt, ev_pm, evs_nil, evs_cons, evO_no, evO_yes, evC_no, evC_yes, evI_seq, evI_zip, asg_nm, asg_tup, asgs_nil, asgs_cons, tlen_nil, tlen_cons, ex_asg, ex_ret, ex_ite, ex_expr, exs_nil, exs_cons, bind_k, bind_bad, strict_k, derefs_nil, derefs_cons, deref_val, deref_own, slot_sh, slot_ow, slot_lk, arg_val, arg_fr, arg_own, testR_k, store_v, store_f, store_o, io_0, io_f, io_ff, io_fff, io_ffff, MP.finish, outsOf, frz_nil, frz_val, frz_own, frz1_val, frz1_own, toSh_ow, toSh_lk, toSh_sh, lockable_nil, lockable_val, lockable_own, isOw_ow, isOw_sh, isOw_lk, isOw_un, opt1_k, callGo_k, ioSlots_t, ioSlots_f, ioSlots_n, nonIo_t, nonIo_f, nonIo_n, setOuts_c, setOuts_n, len_tup, len_lst, len_fz, len_tf, list_tup, list_lst, list_tf, tuple_tup, tuple_lst, tuple_tf, tupleF_lst, int_int, int_bl, isi_int, isi_bl, isi_tup, isi_tf, isi_lst, isi_str, isi_non, ty_bool_bool, ty_bool_int, ty_bool_str, ty_bool_tuple, ty_bool_list, ty_bool_dict, ty_int_bool, ty_int_int, ty_int_str, ty_int_tuple, ty_int_list, ty_int_dict, ty_str_bool, ty_str_int, ty_str_str, ty_str_tuple, ty_str_list, ty_str_dict, ty_tuple_bool, ty_tuple_int, ty_tuple_str, ty_tuple_tuple, ty_tuple_list, ty_tuple_dict, ty_list_bool, ty_list_int, ty_list_str, ty_list_tuple, ty_list_list, ty_list_dict, ty_NoneType_bool, ty_NoneType_int, ty_NoneType_str, ty_NoneType_tuple, ty_NoneType_list, ty_NoneType_dict, ty_dict_bool, ty_dict_int, ty_dict_str, ty_dict_tuple, ty_dict_list, ty_dict_dict, isN_int, omap_some, obind_some, oany_some, get_z, get_s, isN_tup, isN_non, cmp_lt, cmp_le, cmp_gt, cmp_ge, cmp_eq, cmp_ne, bin_add, bin_sub, bin_mod, bin_mul, bin_fdiv, bin_cat, bin_catL, ix_tup, ix_lst, ix_tf, small_0, small_1, small_2, small_3, h]
theorem line_ok (vs : List Int) (hv : vs.length ≤ 1000) (h0 : vs ≠ []) (k : Int) : exL (.ite (.or (.not (.call "_law_same" (.cons (.call "put_in_order" (.cons (.var 18) .nil)) (.cons (.tup (.cons (.blt .tuple (.cons (.blt .sorted (.cons (.var 18) .nil)) .nil)) (.cons (.var 22) .nil))) .nil)))) (.not (.call "_law_same" (.cons (.call "sign_power" (.cons (.var 7) .nil)) (.cons (.ite (.cmp .eq (.bin .mod (.var 7) (.int 2)) (.int 0)) (.int 1) (.neg (.int 1))) .nil))))) (.cons (.ret (.bl false)) .nil) .nil)
    [.un, .un, .un, .un, .un, .un, .un, .sh (.int k), .un, .un, .un, .un, .un, .un, .un, .un, .un, .un, .sh (.tf (vs.map .int)), .sh (.int (fallsB vs)), .un, .un, .sh (.int (sgnB vs)), .un, .un, .un, .un, .un, .un, .un] = .ok (.nx, [.un, .un, .un, .un, .un, .un, .un, .sh (.int k), .un, .un, .un, .un, .un, .un, .un, .un, .un, .un, .sh (.tf (vs.map .int)), .sh (.int (fallsB vs)), .un, .un, .sh (.int (sgnB vs)), .un, .un, .un, .un, .un, .un, .un]) := by
  obtain ⟨p1, p2⟩ := put_plain vs
  have hp : cfL 28 "put_in_order" [.tf (vs.map .int)] = _ := put_ok 27 vs hv h0
  rw [p2, p1] at hp
  have hs : cfL 28 "_law_same" [.tup [.tup ((sortI vs).map .int), .int (sgnB vs)], .tup [.tup ((sortI vs).map .int), .int (sgnB vs)]] = .ok (.bl true, false, []) := by
    refine same_refl 27 _ (by simp) ?_
    intro d hd
    rcases List.mem_cons.mp hd with rfl | hd
    · exact same_ints 24 _ (by rw [(sortI_perm vs).length_eq]; exact hv)
    · rw [List.mem_singleton] at hd
      subst hd
      rw [same_int]; simp
  have hsort : bltD .sorted [.tf (vs.map .int)] = some (.fr (.lst ((sortI vs).map .int))) := by
    show (some (vs.map MP.D.int)).bind (fun l => (ints? l).map fun ns => MP.R.fr (.lst ((sortI ns).map .int))) = _
    rw [Option.bind_some, MP.ints_map (fun i => i)]
    simp
  have hg : cfL 28 "sign_power" [.int k] = _ := sgp_ok 27 k
  have hi : ∀ i j : Int, cfL 28 "_law_same" [.int i, .int j] = .ok (.bl (decide (i = j)), false, []) := same_int 26
  show MP.exec [] ioL (cfL 28) 1000000 _ _ = _
  by_cases h : k.fmod 2 = 0 <;> simp [startE, ev_var, rd_sh, rd_ow, rd_lk, ev_int, ev_bl, ev_non, ev_str, ev_gl, ev_ty, ev_bin, ev_neg, ev_cmp, ev_chain, ev_not, ev_and, ev_or, ev_ite, ev_tup, ev_lst, ev_ix, ev_sl, ev_call, ev_blt, ev_pm, evs_nil, evs_cons, evO_no, evO_yes, evC_no, evC_yes, evI_seq, evI_zip, asg_nm, asg_tup, asgs_nil, asgs_cons, tlen_nil, tlen_cons, ex_asg, ex_ret, ex_ite, ex_expr, exs_nil, exs_cons, bind_k, bind_bad, strict_k, derefs_nil, derefs_cons, deref_val, deref_own, slot_sh, slot_ow, slot_lk, arg_val, arg_fr, arg_own, testR_k, store_v, store_f, store_o, io_0, io_f, io_ff, io_fff, io_ffff, MP.finish, outsOf, frz_nil, frz_val, frz_own, frz1_val, frz1_own, toSh_ow, toSh_lk, toSh_sh, lockable_nil, lockable_val, lockable_own, isOw_ow, isOw_sh, isOw_lk, isOw_un, opt1_k, callGo_k, ioSlots_t, ioSlots_f, ioSlots_n, nonIo_t, nonIo_f, nonIo_n, setOuts_c, setOuts_n, len_tup, len_lst, len_fz, len_tf, list_tup, list_lst, list_tf, tuple_tup, tuple_lst, tuple_tf, tupleF_lst, int_int, int_bl, isi_int, isi_bl, isi_tup, isi_tf, isi_lst, isi_str, isi_non, ty_bool_bool, ty_bool_int, ty_bool_str, ty_bool_tuple, ty_bool_list, ty_bool_dict, ty_int_bool, ty_int_int, ty_int_str, ty_int_tuple, ty_int_list, ty_int_dict, ty_str_bool, ty_str_int, ty_str_str, ty_str_tuple, ty_str_list, ty_str_dict, ty_tuple_bool, ty_tuple_int, ty_tuple_str, ty_tuple_tuple, ty_tuple_list, ty_tuple_dict, ty_list_bool, ty_list_int, ty_list_str, ty_list_tuple, ty_list_list, ty_list_dict, ty_NoneType_bool, ty_NoneType_int, ty_NoneType_str, ty_NoneType_tuple, ty_NoneType_list, ty_NoneType_dict, ty_dict_bool, ty_dict_int, ty_dict_str, ty_dict_tuple, ty_dict_list, ty_dict_dict, isN_int, omap_some, obind_some, oany_some, get_z, get_s, isN_tup, isN_non, cmp_lt, cmp_le, cmp_gt, cmp_ge, cmp_eq, cmp_ne, bin_add, bin_sub, bin_mod, bin_mul, bin_fdiv, bin_cat, bin_catL, ix_tup, ix_lst, ix_tf, small_0, small_1, small_2, small_3, io_put, io_same, io_sgp, hp, hs, hsort, hg, hi, h]
end K00
end
section
set_option Elab.async false
set_option linter.all false
set_option maxRecDepth 100000
set_option maxHeartbeats 2000000
/-! K00N: the row's common divisor. -/
namespace K00
open MP PySem
def sharesD (vs : List Int) : List Int := ((List.range 39).map fun (k : Nat) => 1 + (k : Int)).filter fun d => vs.all fun c => decide (c.fmod d = 0)
theorem shares_ok (vs : List Int) (hv : vs.length ≤ 1000) : exL (.asg (.nm 8) (.comp (.var 5) (.nm 5) (.rng2 (.int 1) (.int 40)) (.yes (.blt .all (.cons (.comp (.cmp .eq (.bin .mod (.blt .int (.cons (.var 9) .nil)) (.var 5)) (.int 0)) (.nm 9) (.seq (.var 6)) .no [9]) .nil))) [5]))
    [.un, .un, .un, .un, .un, .un, .sh (.tup (vs.map .int)), .un, .un, .un, .un, .un, .un, .un, .un, .un, .un, .un, .un, .un, .un, .un, .un, .un, .un, .un, .un, .un, .un, .un] = .ok (.nx, [.un, .un, .un, .un, .un, .un, .sh (.tup (vs.map .int)), .un, .ow (.lst ((sharesD vs).map .int)), .un, .un, .un, .un, .un, .un, .un, .un, .un, .un, .un, .un, .un, .un, .un, .un, .un, .un, .un, .un, .un]) := by
  have hin : ∀ d : Int, d ≠ 0 → MP.ev [] ioL (cfL 28) (.comp (.cmp .eq (.bin .mod (.blt .int (.cons (.var 9) .nil)) (.var 5)) (.int 0)) (.nm 9) (.seq (.var 6)) .no [9]) [.un, .un, .un, .un, .un, .sh (.int d), .sh (.tup (vs.map .int)), .un, .un, .un, .un, .un, .un, .un, .un, .un, .un, .un, .un, .un, .un, .un, .un, .un, .un, .un, .un, .un, .un, .un] = .ok (.fr (.lst (vs.map fun c => MP.D.bl (decide (c.fmod d = 0)))), [.un, .un, .un, .un, .un, .sh (.int d), .sh (.tup (vs.map .int)), .un, .un, .un, .un, .un, .un, .un, .un, .un, .un, .un, .un, .un, .un, .un, .un, .un, .un, .un, .un, .un, .un, .un]) := by
    intro d hd
    have e : (vs.map MP.D.int).filterMap (fun x => match x with | .int c => some (MP.D.bl (decide (c.fmod d = 0))) | _ => none) = vs.map fun c => MP.D.bl (decide (c.fmod d = 0)) := by
      rw [List.filterMap_map]
      exact fm_eq fun x _ => rfl
    rw [← e]
    refine ev_compP (lks := []) _ (by simp [startE, ev_var, rd_sh, rd_ow, rd_lk, ev_int, ev_bl, ev_non, ev_str, ev_gl, ev_ty, ev_bin, ev_neg, ev_cmp, ev_chain, ev_not, ev_and, ev_or, ev_ite, ev_tup, ev_lst, ev_ix, ev_sl, ev_call, ev_blt, ev_pm, evs_nil, evs_cons, evO_no, evO_yes, evC_no, evC_yes, evI_seq, evI_zip, asg_nm, asg_tup, asgs_nil, asgs_cons, tlen_nil, tlen_cons, ex_asg, ex_ret, ex_ite, ex_expr, exs_nil, exs_cons, bind_k, bind_bad, strict_k, derefs_nil, derefs_cons, deref_val, deref_own, slot_sh, slot_ow, slot_lk, arg_val, arg_fr, arg_own, testR_k, store_v, store_f, store_o, io_0, io_f, io_ff, io_fff, io_ffff, MP.finish, outsOf, frz_nil, frz_val, frz_own, frz1_val, frz1_own, toSh_ow, toSh_lk, toSh_sh, lockable_nil, lockable_val, lockable_own, isOw_ow, isOw_sh, isOw_lk, isOw_un, opt1_k, callGo_k, ioSlots_t, ioSlots_f, ioSlots_n, nonIo_t, nonIo_f, nonIo_n, setOuts_c, setOuts_n, len_tup, len_lst, len_fz, len_tf, list_tup, list_lst, list_tf, tuple_tup, tuple_lst, tuple_tf, tupleF_lst, int_int, int_bl, isi_int, isi_bl, isi_tup, isi_tf, isi_lst, isi_str, isi_non, ty_bool_bool, ty_bool_int, ty_bool_str, ty_bool_tuple, ty_bool_list, ty_bool_dict, ty_int_bool, ty_int_int, ty_int_str, ty_int_tuple, ty_int_list, ty_int_dict, ty_str_bool, ty_str_int, ty_str_str, ty_str_tuple, ty_str_list, ty_str_dict, ty_tuple_bool, ty_tuple_int, ty_tuple_str, ty_tuple_tuple, ty_tuple_list, ty_tuple_dict, ty_list_bool, ty_list_int, ty_list_str, ty_list_tuple, ty_list_list, ty_list_dict, ty_NoneType_bool, ty_NoneType_int, ty_NoneType_str, ty_NoneType_tuple, ty_NoneType_list, ty_NoneType_dict, ty_dict_bool, ty_dict_int, ty_dict_str, ty_dict_tuple, ty_dict_list, ty_dict_dict, isN_int, omap_some, obind_some, oany_some, get_z, get_s, isN_tup, isN_non, cmp_lt, cmp_le, cmp_gt, cmp_ge, cmp_eq, cmp_ne, bin_add, bin_sub, bin_mod, bin_mul, bin_fdiv, bin_cat, bin_catL, ix_tup, ix_lst, ix_tf, small_0, small_1, small_2, small_3, seq?]) rfl rfl ?_ ?_
    · rw [List.length_map]; exact Nat.le_trans hv (by decide)
    · intro x hx
      obtain ⟨c, hi, rfl⟩ := List.mem_map.mp hx
      refine ⟨[.un, .un, .un, .un, .un, .sh (.int d), .sh (.tup (vs.map .int)), .un, .un, .sh (.int c), .un, .un, .un, .un, .un, .un, .un, .un, .un, .un, .un, .un, .un, .un, .un, .un, .un, .un, .un, .un], ?_, rfl⟩
      simp [startE, ev_var, rd_sh, rd_ow, rd_lk, ev_int, ev_bl, ev_non, ev_str, ev_gl, ev_ty, ev_bin, ev_neg, ev_cmp, ev_chain, ev_not, ev_and, ev_or, ev_ite, ev_tup, ev_lst, ev_ix, ev_sl, ev_call, ev_blt, ev_pm, evs_nil, evs_cons, evO_no, evO_yes, evC_no, evC_yes, evI_seq, evI_zip, asg_nm, asg_tup, asgs_nil, asgs_cons, tlen_nil, tlen_cons, ex_asg, ex_ret, ex_ite, ex_expr, exs_nil, exs_cons, bind_k, bind_bad, strict_k, derefs_nil, derefs_cons, deref_val, deref_own, slot_sh, slot_ow, slot_lk, arg_val, arg_fr, arg_own, testR_k, store_v, store_f, store_o, io_0, io_f, io_ff, io_fff, io_ffff, MP.finish, outsOf, frz_nil, frz_val, frz_own, frz1_val, frz1_own, toSh_ow, toSh_lk, toSh_sh, lockable_nil, lockable_val, lockable_own, isOw_ow, isOw_sh, isOw_lk, isOw_un, opt1_k, callGo_k, ioSlots_t, ioSlots_f, ioSlots_n, nonIo_t, nonIo_f, nonIo_n, setOuts_c, setOuts_n, len_tup, len_lst, len_fz, len_tf, list_tup, list_lst, list_tf, tuple_tup, tuple_lst, tuple_tf, tupleF_lst, int_int, int_bl, isi_int, isi_bl, isi_tup, isi_tf, isi_lst, isi_str, isi_non, ty_bool_bool, ty_bool_int, ty_bool_str, ty_bool_tuple, ty_bool_list, ty_bool_dict, ty_int_bool, ty_int_int, ty_int_str, ty_int_tuple, ty_int_list, ty_int_dict, ty_str_bool, ty_str_int, ty_str_str, ty_str_tuple, ty_str_list, ty_str_dict, ty_tuple_bool, ty_tuple_int, ty_tuple_str, ty_tuple_tuple, ty_tuple_list, ty_tuple_dict, ty_list_bool, ty_list_int, ty_list_str, ty_list_tuple, ty_list_list, ty_list_dict, ty_NoneType_bool, ty_NoneType_int, ty_NoneType_str, ty_NoneType_tuple, ty_NoneType_list, ty_NoneType_dict, ty_dict_bool, ty_dict_int, ty_dict_str, ty_dict_tuple, ty_dict_list, ty_dict_dict, isN_int, omap_some, obind_some, oany_some, get_z, get_s, isN_tup, isN_non, cmp_lt, cmp_le, cmp_gt, cmp_ge, cmp_eq, cmp_ne, bin_add, bin_sub, bin_mod, bin_mul, bin_fdiv, bin_cat, bin_catL, ix_tup, ix_lst, ix_tf, small_0, small_1, small_2, small_3, wipeE, lock, hd]
  have hc : MP.ev [] ioL (cfL 28) (.comp (.var 5) (.nm 5) (.rng2 (.int 1) (.int 40)) (.yes (.blt .all (.cons (.comp (.cmp .eq (.bin .mod (.blt .int (.cons (.var 9) .nil)) (.var 5)) (.int 0)) (.nm 9) (.seq (.var 6)) .no [9]) .nil))) [5]) [.un, .un, .un, .un, .un, .un, .sh (.tup (vs.map .int)), .un, .un, .un, .un, .un, .un, .un, .un, .un, .un, .un, .un, .un, .un, .un, .un, .un, .un, .un, .un, .un, .un, .un] = .ok (.fr (.lst (((List.range 39).map fun (k : Nat) => MP.D.int (1 + (k : Int))).filterMap fun x => match x with | .int d => if (vs.all fun c => decide (c.fmod d = 0)) = true then some (MP.D.int d) else none | _ => none)), [.un, .un, .un, .un, .un, .un, .sh (.tup (vs.map .int)), .un, .un, .un, .un, .un, .un, .un, .un, .un, .un, .un, .un, .un, .un, .un, .un, .un, .un, .un, .un, .un, .un, .un]) := by
    refine ev_compP (lks := []) _ (evI_rng2N ev_int ev_int (by omega) (by omega)) rfl rfl ?_ ?_
    · rw [List.length_map, List.length_range]; decide
    · intro x hx
      obtain ⟨k, hk, rfl⟩ := List.mem_map.mp hx
      have hd : (1 : Int) + (k : Int) ≠ 0 := by omega
      generalize (1 : Int) + (k : Int) = d at *
      have h1 := hin d hd
      have h2 := all_d (fun c : Int => decide (c.fmod d = 0)) vs
      refine ⟨[.un, .un, .un, .un, .un, .sh (.int d), .sh (.tup (vs.map .int)), .un, .un, .un, .un, .un, .un, .un, .un, .un, .un, .un, .un, .un, .un, .un, .un, .un, .un, .un, .un, .un, .un, .un], ?_, rfl⟩
      cases hq : vs.all fun c : Int => decide (c.fmod d = 0) with
      | true =>
        rw [hq] at h2
        simp only [hq]
        simp [startE, ev_var, rd_sh, rd_ow, rd_lk, ev_int, ev_bl, ev_non, ev_str, ev_gl, ev_ty, ev_bin, ev_neg, ev_cmp, ev_chain, ev_not, ev_and, ev_or, ev_ite, ev_tup, ev_lst, ev_ix, ev_sl, ev_call, ev_blt, ev_pm, evs_nil, evs_cons, evO_no, evO_yes, evC_no, evC_yes, evI_seq, evI_zip, asg_nm, asg_tup, asgs_nil, asgs_cons, tlen_nil, tlen_cons, ex_asg, ex_ret, ex_ite, ex_expr, exs_nil, exs_cons, bind_k, bind_bad, strict_k, derefs_nil, derefs_cons, deref_val, deref_own, slot_sh, slot_ow, slot_lk, arg_val, arg_fr, arg_own, testR_k, store_v, store_f, store_o, io_0, io_f, io_ff, io_fff, io_ffff, MP.finish, outsOf, frz_nil, frz_val, frz_own, frz1_val, frz1_own, toSh_ow, toSh_lk, toSh_sh, lockable_nil, lockable_val, lockable_own, isOw_ow, isOw_sh, isOw_lk, isOw_un, opt1_k, callGo_k, ioSlots_t, ioSlots_f, ioSlots_n, nonIo_t, nonIo_f, nonIo_n, setOuts_c, setOuts_n, len_tup, len_lst, len_fz, len_tf, list_tup, list_lst, list_tf, tuple_tup, tuple_lst, tuple_tf, tupleF_lst, int_int, int_bl, isi_int, isi_bl, isi_tup, isi_tf, isi_lst, isi_str, isi_non, ty_bool_bool, ty_bool_int, ty_bool_str, ty_bool_tuple, ty_bool_list, ty_bool_dict, ty_int_bool, ty_int_int, ty_int_str, ty_int_tuple, ty_int_list, ty_int_dict, ty_str_bool, ty_str_int, ty_str_str, ty_str_tuple, ty_str_list, ty_str_dict, ty_tuple_bool, ty_tuple_int, ty_tuple_str, ty_tuple_tuple, ty_tuple_list, ty_tuple_dict, ty_list_bool, ty_list_int, ty_list_str, ty_list_tuple, ty_list_list, ty_list_dict, ty_NoneType_bool, ty_NoneType_int, ty_NoneType_str, ty_NoneType_tuple, ty_NoneType_list, ty_NoneType_dict, ty_dict_bool, ty_dict_int, ty_dict_str, ty_dict_tuple, ty_dict_list, ty_dict_dict, isN_int, omap_some, obind_some, oany_some, get_z, get_s, isN_tup, isN_non, cmp_lt, cmp_le, cmp_gt, cmp_ge, cmp_eq, cmp_ne, bin_add, bin_sub, bin_mod, bin_mul, bin_fdiv, bin_cat, bin_catL, ix_tup, ix_lst, ix_tf, small_0, small_1, small_2, small_3, wipeE, lock, h1, h2]
      | false =>
        rw [hq] at h2
        simp only [hq]
        simp [startE, ev_var, rd_sh, rd_ow, rd_lk, ev_int, ev_bl, ev_non, ev_str, ev_gl, ev_ty, ev_bin, ev_neg, ev_cmp, ev_chain, ev_not, ev_and, ev_or, ev_ite, ev_tup, ev_lst, ev_ix, ev_sl, ev_call, ev_blt, ev_pm, evs_nil, evs_cons, evO_no, evO_yes, evC_no, evC_yes, evI_seq, evI_zip, asg_nm, asg_tup, asgs_nil, asgs_cons, tlen_nil, tlen_cons, ex_asg, ex_ret, ex_ite, ex_expr, exs_nil, exs_cons, bind_k, bind_bad, strict_k, derefs_nil, derefs_cons, deref_val, deref_own, slot_sh, slot_ow, slot_lk, arg_val, arg_fr, arg_own, testR_k, store_v, store_f, store_o, io_0, io_f, io_ff, io_fff, io_ffff, MP.finish, outsOf, frz_nil, frz_val, frz_own, frz1_val, frz1_own, toSh_ow, toSh_lk, toSh_sh, lockable_nil, lockable_val, lockable_own, isOw_ow, isOw_sh, isOw_lk, isOw_un, opt1_k, callGo_k, ioSlots_t, ioSlots_f, ioSlots_n, nonIo_t, nonIo_f, nonIo_n, setOuts_c, setOuts_n, len_tup, len_lst, len_fz, len_tf, list_tup, list_lst, list_tf, tuple_tup, tuple_lst, tuple_tf, tupleF_lst, int_int, int_bl, isi_int, isi_bl, isi_tup, isi_tf, isi_lst, isi_str, isi_non, ty_bool_bool, ty_bool_int, ty_bool_str, ty_bool_tuple, ty_bool_list, ty_bool_dict, ty_int_bool, ty_int_int, ty_int_str, ty_int_tuple, ty_int_list, ty_int_dict, ty_str_bool, ty_str_int, ty_str_str, ty_str_tuple, ty_str_list, ty_str_dict, ty_tuple_bool, ty_tuple_int, ty_tuple_str, ty_tuple_tuple, ty_tuple_list, ty_tuple_dict, ty_list_bool, ty_list_int, ty_list_str, ty_list_tuple, ty_list_list, ty_list_dict, ty_NoneType_bool, ty_NoneType_int, ty_NoneType_str, ty_NoneType_tuple, ty_NoneType_list, ty_NoneType_dict, ty_dict_bool, ty_dict_int, ty_dict_str, ty_dict_tuple, ty_dict_list, ty_dict_dict, isN_int, omap_some, obind_some, oany_some, get_z, get_s, isN_tup, isN_non, cmp_lt, cmp_le, cmp_gt, cmp_ge, cmp_eq, cmp_ne, bin_add, bin_sub, bin_mod, bin_mul, bin_fdiv, bin_cat, bin_catL, ix_tup, ix_lst, ix_tf, small_0, small_1, small_2, small_3, wipeE, lock, h1, h2]
  have e : ((List.range 39).map fun (k : Nat) => MP.D.int (1 + (k : Int))).filterMap (fun x => match x with | .int d => if (vs.all fun c => decide (c.fmod d = 0)) = true then some (MP.D.int d) else none | _ => none) = (sharesD vs).map MP.D.int := by
    unfold sharesD
    generalize List.range 39 = l
    induction l with
    | nil => rfl
    | cons k r ih =>
      simp only [List.map_cons, List.filterMap_cons, List.filter_cons, ih]
      cases h : vs.all fun c => decide (c.fmod (1 + (k : Int)) = 0) with
      | true => rfl
      | false => rfl
  rw [e] at hc
  show MP.exec [] ioL (cfL 28) 1000000 _ _ = _
  simp [startE, ev_var, rd_sh, rd_ow, rd_lk, ev_int, ev_bl, ev_non, ev_str, ev_gl, ev_ty, ev_bin, ev_neg, ev_cmp, ev_chain, ev_not, ev_and, ev_or, ev_ite, ev_tup, ev_lst, ev_ix, ev_sl, ev_call, ev_blt, ev_pm, evs_nil, evs_cons, evO_no, evO_yes, evC_no, evC_yes, evI_seq, evI_zip, asg_nm, asg_tup, asgs_nil, asgs_cons, tlen_nil, tlen_cons, ex_asg, ex_ret, ex_ite, ex_expr, exs_nil, exs_cons, bind_k, bind_bad, strict_k, derefs_nil, derefs_cons, deref_val, deref_own, slot_sh, slot_ow, slot_lk, arg_val, arg_fr, arg_own, testR_k, store_v, store_f, store_o, io_0, io_f, io_ff, io_fff, io_ffff, MP.finish, outsOf, frz_nil, frz_val, frz_own, frz1_val, frz1_own, toSh_ow, toSh_lk, toSh_sh, lockable_nil, lockable_val, lockable_own, isOw_ow, isOw_sh, isOw_lk, isOw_un, opt1_k, callGo_k, ioSlots_t, ioSlots_f, ioSlots_n, nonIo_t, nonIo_f, nonIo_n, setOuts_c, setOuts_n, len_tup, len_lst, len_fz, len_tf, list_tup, list_lst, list_tf, tuple_tup, tuple_lst, tuple_tf, tupleF_lst, int_int, int_bl, isi_int, isi_bl, isi_tup, isi_tf, isi_lst, isi_str, isi_non, ty_bool_bool, ty_bool_int, ty_bool_str, ty_bool_tuple, ty_bool_list, ty_bool_dict, ty_int_bool, ty_int_int, ty_int_str, ty_int_tuple, ty_int_list, ty_int_dict, ty_str_bool, ty_str_int, ty_str_str, ty_str_tuple, ty_str_list, ty_str_dict, ty_tuple_bool, ty_tuple_int, ty_tuple_str, ty_tuple_tuple, ty_tuple_list, ty_tuple_dict, ty_list_bool, ty_list_int, ty_list_str, ty_list_tuple, ty_list_list, ty_list_dict, ty_NoneType_bool, ty_NoneType_int, ty_NoneType_str, ty_NoneType_tuple, ty_NoneType_list, ty_NoneType_dict, ty_dict_bool, ty_dict_int, ty_dict_str, ty_dict_tuple, ty_dict_list, ty_dict_dict, isN_int, omap_some, obind_some, oany_some, get_z, get_s, isN_tup, isN_non, cmp_lt, cmp_le, cmp_gt, cmp_ge, cmp_eq, cmp_ne, bin_add, bin_sub, bin_mod, bin_mul, bin_fdiv, bin_cat, bin_catL, ix_tup, ix_lst, ix_tf, small_0, small_1, small_2, small_3, hc]
def gcdL (vs : List Int) : Nat := vs.foldl (fun g c => Nat.gcd g c.natAbs) 0
theorem cof_ok (k : Nat) (vs : List Int) (hb : ∀ c ∈ vs, c.natAbs < 1000000) : cfL (k + 2) "common_of" [.tup (vs.map .int)] = .ok (.int (gcdL vs : Nat), false, []) := by
  rw [cfL_eq (f := ir_common_of) rfl rfl]
  obtain ⟨env', e1, s2, g, rfl, hz⟩ := loop_all (f := fun x env1 => (MP.asg [] ioL (cfL (k + 1)) (.nm 2) (.val x) env1).bind fun env2 => MP.execs [] ioL (cfL (k + 1)) 1000000 (.cons (.asg (.nm 1) (.call "common" (.cons (.var 1) (.cons (.var 2) .nil)))) .nil) env2)
    (fun n env => ∃ (s2 : MP.Slot) (g : Nat), env = [.sh (.tup (vs.map .int)), .sh (.int (g : Int)), s2] ∧ g = (vs.take n).foldl (fun g c => Nat.gcd g c.natAbs) 0) (l := vs.map MP.D.int) (k := 0) (env := [.sh (.tup (vs.map .int)), .sh (.int 0), .un]) ⟨.un, 0, rfl, by simp⟩ (fun j x env hx ⟨s2, g, e, ez⟩ => by
      subst e
      rw [List.getElem?_map] at hx
      obtain ⟨c, hc, rfl⟩ := Option.map_eq_some_iff.mp hx
      have hcm := hb c (List.mem_of_getElem? hc)
      have hg : cfL (k + 1) "common" [.int (g : Int), .int c] = _ := common_ok k (g : Int) c hcm
      rw [Nat.zero_add] at ez ⊢
      refine ⟨_, ?_, .sh (.int c), Nat.gcd g c.natAbs, rfl, ?_⟩
      · simp [startE, ev_var, rd_sh, rd_ow, rd_lk, ev_int, ev_bl, ev_non, ev_str, ev_gl, ev_ty, ev_bin, ev_neg, ev_cmp, ev_chain, ev_not, ev_and, ev_or, ev_ite, ev_tup, ev_lst, ev_ix, ev_sl, ev_call, ev_blt, ev_pm, evs_nil, evs_cons, evO_no, evO_yes, evC_no, evC_yes, evI_seq, evI_zip, asg_nm, asg_tup, asgs_nil, asgs_cons, tlen_nil, tlen_cons, ex_asg, ex_ret, ex_ite, ex_expr, exs_nil, exs_cons, bind_k, bind_bad, strict_k, derefs_nil, derefs_cons, deref_val, deref_own, slot_sh, slot_ow, slot_lk, arg_val, arg_fr, arg_own, testR_k, store_v, store_f, store_o, io_0, io_f, io_ff, io_fff, io_ffff, MP.finish, outsOf, frz_nil, frz_val, frz_own, frz1_val, frz1_own, toSh_ow, toSh_lk, toSh_sh, lockable_nil, lockable_val, lockable_own, isOw_ow, isOw_sh, isOw_lk, isOw_un, opt1_k, callGo_k, ioSlots_t, ioSlots_f, ioSlots_n, nonIo_t, nonIo_f, nonIo_n, setOuts_c, setOuts_n, len_tup, len_lst, len_fz, len_tf, list_tup, list_lst, list_tf, tuple_tup, tuple_lst, tuple_tf, tupleF_lst, int_int, int_bl, isi_int, isi_bl, isi_tup, isi_tf, isi_lst, isi_str, isi_non, ty_bool_bool, ty_bool_int, ty_bool_str, ty_bool_tuple, ty_bool_list, ty_bool_dict, ty_int_bool, ty_int_int, ty_int_str, ty_int_tuple, ty_int_list, ty_int_dict, ty_str_bool, ty_str_int, ty_str_str, ty_str_tuple, ty_str_list, ty_str_dict, ty_tuple_bool, ty_tuple_int, ty_tuple_str, ty_tuple_tuple, ty_tuple_list, ty_tuple_dict, ty_list_bool, ty_list_int, ty_list_str, ty_list_tuple, ty_list_list, ty_list_dict, ty_NoneType_bool, ty_NoneType_int, ty_NoneType_str, ty_NoneType_tuple, ty_NoneType_list, ty_NoneType_dict, ty_dict_bool, ty_dict_int, ty_dict_str, ty_dict_tuple, ty_dict_list, ty_dict_dict, isN_int, omap_some, obind_some, oany_some, get_z, get_s, isN_tup, isN_non, cmp_lt, cmp_le, cmp_gt, cmp_ge, cmp_eq, cmp_ne, bin_add, bin_sub, bin_mod, bin_mul, bin_fdiv, bin_cat, bin_catL, ix_tup, ix_lst, ix_tf, small_0, small_1, small_2, small_3, hg, io_common]
      · rw [List.take_succ, hc, ez]
        simp)
  rw [Nat.zero_add, List.length_map, List.take_length] at hz
  have hL : MP.exec [] ioL (cfL (k + 1)) 1000000 (.loop (.nm 2) (.seq (.var 0)) (.cons (.asg (.nm 1) (.call "common" (.cons (.var 1) (.cons (.var 2) .nil)))) .nil)) [.sh (.tup (vs.map .int)), .sh (.int 0), .un] = .ok (.nx, [.sh (.tup (vs.map .int)), .sh (.int (g : Int)), s2]) :=
    exec_loop (lks := []) (by simp [startE, ev_var, rd_sh, rd_ow, rd_lk, ev_int, ev_bl, ev_non, ev_str, ev_gl, ev_ty, ev_bin, ev_neg, ev_cmp, ev_chain, ev_not, ev_and, ev_or, ev_ite, ev_tup, ev_lst, ev_ix, ev_sl, ev_call, ev_blt, ev_pm, evs_nil, evs_cons, evO_no, evO_yes, evC_no, evC_yes, evI_seq, evI_zip, asg_nm, asg_tup, asgs_nil, asgs_cons, tlen_nil, tlen_cons, ex_asg, ex_ret, ex_ite, ex_expr, exs_nil, exs_cons, bind_k, bind_bad, strict_k, derefs_nil, derefs_cons, deref_val, deref_own, slot_sh, slot_ow, slot_lk, arg_val, arg_fr, arg_own, testR_k, store_v, store_f, store_o, io_0, io_f, io_ff, io_fff, io_ffff, MP.finish, outsOf, frz_nil, frz_val, frz_own, frz1_val, frz1_own, toSh_ow, toSh_lk, toSh_sh, lockable_nil, lockable_val, lockable_own, isOw_ow, isOw_sh, isOw_lk, isOw_un, opt1_k, callGo_k, ioSlots_t, ioSlots_f, ioSlots_n, nonIo_t, nonIo_f, nonIo_n, setOuts_c, setOuts_n, len_tup, len_lst, len_fz, len_tf, list_tup, list_lst, list_tf, tuple_tup, tuple_lst, tuple_tf, tupleF_lst, int_int, int_bl, isi_int, isi_bl, isi_tup, isi_tf, isi_lst, isi_str, isi_non, ty_bool_bool, ty_bool_int, ty_bool_str, ty_bool_tuple, ty_bool_list, ty_bool_dict, ty_int_bool, ty_int_int, ty_int_str, ty_int_tuple, ty_int_list, ty_int_dict, ty_str_bool, ty_str_int, ty_str_str, ty_str_tuple, ty_str_list, ty_str_dict, ty_tuple_bool, ty_tuple_int, ty_tuple_str, ty_tuple_tuple, ty_tuple_list, ty_tuple_dict, ty_list_bool, ty_list_int, ty_list_str, ty_list_tuple, ty_list_list, ty_list_dict, ty_NoneType_bool, ty_NoneType_int, ty_NoneType_str, ty_NoneType_tuple, ty_NoneType_list, ty_NoneType_dict, ty_dict_bool, ty_dict_int, ty_dict_str, ty_dict_tuple, ty_dict_list, ty_dict_dict, isN_int, omap_some, obind_some, oany_some, get_z, get_s, isN_tup, isN_non, cmp_lt, cmp_le, cmp_gt, cmp_ge, cmp_eq, cmp_ne, bin_add, bin_sub, bin_mod, bin_mul, bin_fdiv, bin_cat, bin_catL, ix_tup, ix_lst, ix_tf, small_0, small_1, small_2, small_3, seq?]) e1
  have hg : g = gcdL vs := hz
  subst hg
  simp [ir_common_of, startE, ev_var, rd_sh, rd_ow, rd_lk, ev_int, ev_bl, ev_non, ev_str, ev_gl, ev_ty, ev_bin, ev_neg, ev_cmp, ev_chain, ev_not, ev_and, ev_or, ev_ite, ev_tup, ev_lst, ev_ix, ev_sl, ev_call, ev_blt, ev_pm, evs_nil, evs_cons, evO_no, evO_yes, evC_no, evC_yes, evI_seq, evI_zip, asg_nm, asg_tup, asgs_nil, asgs_cons, tlen_nil, tlen_cons, ex_asg, ex_ret, ex_ite, ex_expr, exs_nil, exs_cons, bind_k, bind_bad, strict_k, derefs_nil, derefs_cons, deref_val, deref_own, slot_sh, slot_ow, slot_lk, arg_val, arg_fr, arg_own, testR_k, store_v, store_f, store_o, io_0, io_f, io_ff, io_fff, io_ffff, MP.finish, outsOf, frz_nil, frz_val, frz_own, frz1_val, frz1_own, toSh_ow, toSh_lk, toSh_sh, lockable_nil, lockable_val, lockable_own, isOw_ow, isOw_sh, isOw_lk, isOw_un, opt1_k, callGo_k, ioSlots_t, ioSlots_f, ioSlots_n, nonIo_t, nonIo_f, nonIo_n, setOuts_c, setOuts_n, len_tup, len_lst, len_fz, len_tf, list_tup, list_lst, list_tf, tuple_tup, tuple_lst, tuple_tf, tupleF_lst, int_int, int_bl, isi_int, isi_bl, isi_tup, isi_tf, isi_lst, isi_str, isi_non, ty_bool_bool, ty_bool_int, ty_bool_str, ty_bool_tuple, ty_bool_list, ty_bool_dict, ty_int_bool, ty_int_int, ty_int_str, ty_int_tuple, ty_int_list, ty_int_dict, ty_str_bool, ty_str_int, ty_str_str, ty_str_tuple, ty_str_list, ty_str_dict, ty_tuple_bool, ty_tuple_int, ty_tuple_str, ty_tuple_tuple, ty_tuple_list, ty_tuple_dict, ty_list_bool, ty_list_int, ty_list_str, ty_list_tuple, ty_list_list, ty_list_dict, ty_NoneType_bool, ty_NoneType_int, ty_NoneType_str, ty_NoneType_tuple, ty_NoneType_list, ty_NoneType_dict, ty_dict_bool, ty_dict_int, ty_dict_str, ty_dict_tuple, ty_dict_list, ty_dict_dict, isN_int, omap_some, obind_some, oany_some, get_z, get_s, isN_tup, isN_non, cmp_lt, cmp_le, cmp_gt, cmp_ge, cmp_eq, cmp_ne, bin_add, bin_sub, bin_mod, bin_mul, bin_fdiv, bin_cat, bin_catL, ix_tup, ix_lst, ix_tf, small_0, small_1, small_2, small_3, hL]
theorem gcdL_dvd (d : Int) (hd : 0 < d) : ∀ (vs : List Int) (g : Nat), d.natAbs ∣ vs.foldl (fun g c => Nat.gcd g c.natAbs) g ↔ d.natAbs ∣ g ∧ ∀ c ∈ vs, d ∣ c
  | [], g => by simp
  | c :: vs, g => by
    rw [List.foldl_cons, gcdL_dvd d hd vs, Nat.dvd_gcd_iff]
    simp only [List.mem_cons, forall_eq_or_imp, Int.natAbs_dvd_natAbs]
    constructor
    · rintro ⟨⟨h1, h2⟩, h3⟩; exact ⟨h1, h2, h3⟩
    · rintro ⟨h1, h2, h3⟩; exact ⟨⟨h1, h2⟩, h3⟩
theorem mem_shares {vs : List Int} {d : Int} : d ∈ sharesD vs ↔ (1 ≤ d ∧ d ≤ 39) ∧ ∀ c ∈ vs, d ∣ c := by
  unfold sharesD
  rw [List.mem_filter, List.mem_map, List.all_eq_true]
  constructor
  · rintro ⟨⟨k, hk, rfl⟩, h⟩
    rw [List.mem_range] at hk
    exact ⟨by omega, fun c hc => (fmod_zero (by omega)).mp (of_decide_eq_true (h c hc))⟩
  · rintro ⟨⟨h1, h2⟩, h3⟩
    exact ⟨⟨(d - 1).toNat, List.mem_range.mpr (by omega), by omega⟩, fun c hc => decide_eq_true ((fmod_zero (by omega)).mpr (h3 c hc))⟩
theorem gcdL_zero {vs : List Int} (h : ∀ c ∈ vs, c = 0) : gcdL vs = 0 := by
  unfold gcdL
  induction vs with
  | nil => rfl
  | cons c vs ih =>
    rw [List.foldl_cons, h c List.mem_cons_self]
    exact ih fun x hx => h x (List.mem_cons_of_mem _ hx)
theorem max_shares {vs : List Int} {c : Int} (hc : c ∈ vs) (h0 : c ≠ 0) (hb : c.natAbs ≤ 39) : bltD .max [.lst ((sharesD vs).map MP.D.int)] = some (.val (.int (gcdL vs : Nat))) := by
  have hall : ∀ g : Nat, 0 < g → (g ∣ gcdL vs ↔ ∀ c ∈ vs, (g : Int) ∣ c) := fun g hg => by
    have := gcdL_dvd (g : Int) (by omega) vs 0
    simpa [gcdL] using this
  have hg0 : 0 < gcdL vs := by
    rcases Nat.eq_zero_or_pos (gcdL vs) with z | z
    · have h1 := (hall (c.natAbs + 1) (by omega)).mp (by rw [z]; exact Nat.dvd_zero _) c hc
      have h2 : (c.natAbs + 1) ∣ c.natAbs := Int.ofNat_dvd_left.mp h1
      have := Nat.le_of_dvd (by omega) h2
      omega
    · exact z
  have hd := (hall (gcdL vs) hg0).mp (Nat.dvd_refl _)
  refine max_lst (mem_shares.mpr ⟨⟨by omega, ?_⟩, hd⟩) fun x hx => ?_
  · have h2 : gcdL vs ∣ c.natAbs := Int.ofNat_dvd_left.mp (hd c hc)
    have := Nat.le_of_dvd (by omega) h2
    omega
  · obtain ⟨⟨h1, _⟩, h3⟩ := mem_shares.mp hx
    have e : ((x.toNat : Nat) : Int) = x := by omega
    have := (hall x.toNat (by omega)).mpr (by rw [e]; exact h3)
    have := Nat.le_of_dvd hg0 this
    omega
theorem io_cof : ioL "common_of" = [false] := by decide +kernel
theorem row_ok (vs : List Int) (hv : vs.length ≤ 1000) (hb : ∀ c ∈ vs, c.natAbs ≤ 39) : exL (.ite (.not (.call "_law_same" (.cons (.call "common_of" (.cons (.var 6) .nil)) (.cons (.ite (.blt .any (.cons (.comp (.cmp .ne (.var 9) (.int 0)) (.nm 9) (.seq (.var 6)) .no [9]) .nil)) (.blt .max (.cons (.var 8) .nil)) (.int 0)) .nil)))) (.cons (.ret (.bl false)) .nil) .nil)
    [.un, .un, .un, .un, .un, .un, .sh (.tup (vs.map .int)), .un, .ow (.lst ((sharesD vs).map .int)), .un, .un, .un, .un, .un, .un, .un, .un, .un, .un, .un, .un, .un, .un, .un, .un, .un, .un, .un, .un, .un] = .ok (.nx, [.un, .un, .un, .un, .un, .un, .sh (.tup (vs.map .int)), .un, .ow (.lst ((sharesD vs).map .int)), .un, .un, .un, .un, .un, .un, .un, .un, .un, .un, .un, .un, .un, .un, .un, .un, .un, .un, .un, .un, .un]) := by
  have hc : MP.ev [] ioL (cfL 28) (.comp (.cmp .ne (.var 9) (.int 0)) (.nm 9) (.seq (.var 6)) .no [9]) [.un, .un, .un, .un, .un, .un, .sh (.tup (vs.map .int)), .un, .ow (.lst ((sharesD vs).map .int)), .un, .un, .un, .un, .un, .un, .un, .un, .un, .un, .un, .un, .un, .un, .un, .un, .un, .un, .un, .un, .un] = .ok (.fr (.lst ((vs.map MP.D.int).filterMap fun x => match x with | .int c => some (MP.D.bl (!decide (c = 0))) | _ => none)), [.un, .un, .un, .un, .un, .un, .sh (.tup (vs.map .int)), .un, .ow (.lst ((sharesD vs).map .int)), .un, .un, .un, .un, .un, .un, .un, .un, .un, .un, .un, .un, .un, .un, .un, .un, .un, .un, .un, .un, .un]) := by
    refine ev_compP (lks := []) _ (by simp [startE, ev_var, rd_sh, rd_ow, rd_lk, ev_int, ev_bl, ev_non, ev_str, ev_gl, ev_ty, ev_bin, ev_neg, ev_cmp, ev_chain, ev_not, ev_and, ev_or, ev_ite, ev_tup, ev_lst, ev_ix, ev_sl, ev_call, ev_blt, ev_pm, evs_nil, evs_cons, evO_no, evO_yes, evC_no, evC_yes, evI_seq, evI_zip, asg_nm, asg_tup, asgs_nil, asgs_cons, tlen_nil, tlen_cons, ex_asg, ex_ret, ex_ite, ex_expr, exs_nil, exs_cons, bind_k, bind_bad, strict_k, derefs_nil, derefs_cons, deref_val, deref_own, slot_sh, slot_ow, slot_lk, arg_val, arg_fr, arg_own, testR_k, store_v, store_f, store_o, io_0, io_f, io_ff, io_fff, io_ffff, MP.finish, outsOf, frz_nil, frz_val, frz_own, frz1_val, frz1_own, toSh_ow, toSh_lk, toSh_sh, lockable_nil, lockable_val, lockable_own, isOw_ow, isOw_sh, isOw_lk, isOw_un, opt1_k, callGo_k, ioSlots_t, ioSlots_f, ioSlots_n, nonIo_t, nonIo_f, nonIo_n, setOuts_c, setOuts_n, len_tup, len_lst, len_fz, len_tf, list_tup, list_lst, list_tf, tuple_tup, tuple_lst, tuple_tf, tupleF_lst, int_int, int_bl, isi_int, isi_bl, isi_tup, isi_tf, isi_lst, isi_str, isi_non, ty_bool_bool, ty_bool_int, ty_bool_str, ty_bool_tuple, ty_bool_list, ty_bool_dict, ty_int_bool, ty_int_int, ty_int_str, ty_int_tuple, ty_int_list, ty_int_dict, ty_str_bool, ty_str_int, ty_str_str, ty_str_tuple, ty_str_list, ty_str_dict, ty_tuple_bool, ty_tuple_int, ty_tuple_str, ty_tuple_tuple, ty_tuple_list, ty_tuple_dict, ty_list_bool, ty_list_int, ty_list_str, ty_list_tuple, ty_list_list, ty_list_dict, ty_NoneType_bool, ty_NoneType_int, ty_NoneType_str, ty_NoneType_tuple, ty_NoneType_list, ty_NoneType_dict, ty_dict_bool, ty_dict_int, ty_dict_str, ty_dict_tuple, ty_dict_list, ty_dict_dict, isN_int, omap_some, obind_some, oany_some, get_z, get_s, isN_tup, isN_non, cmp_lt, cmp_le, cmp_gt, cmp_ge, cmp_eq, cmp_ne, bin_add, bin_sub, bin_mod, bin_mul, bin_fdiv, bin_cat, bin_catL, ix_tup, ix_lst, ix_tf, small_0, small_1, small_2, small_3, seq?]) rfl rfl ?_ ?_
    · rw [List.length_map]; exact Nat.le_trans hv (by decide)
    · intro x hx
      obtain ⟨c, hi, rfl⟩ := List.mem_map.mp hx
      refine ⟨[.un, .un, .un, .un, .un, .un, .sh (.tup (vs.map .int)), .un, .ow (.lst ((sharesD vs).map .int)), .sh (.int c), .un, .un, .un, .un, .un, .un, .un, .un, .un, .un, .un, .un, .un, .un, .un, .un, .un, .un, .un, .un], ?_, rfl⟩
      simp [startE, ev_var, rd_sh, rd_ow, rd_lk, ev_int, ev_bl, ev_non, ev_str, ev_gl, ev_ty, ev_bin, ev_neg, ev_cmp, ev_chain, ev_not, ev_and, ev_or, ev_ite, ev_tup, ev_lst, ev_ix, ev_sl, ev_call, ev_blt, ev_pm, evs_nil, evs_cons, evO_no, evO_yes, evC_no, evC_yes, evI_seq, evI_zip, asg_nm, asg_tup, asgs_nil, asgs_cons, tlen_nil, tlen_cons, ex_asg, ex_ret, ex_ite, ex_expr, exs_nil, exs_cons, bind_k, bind_bad, strict_k, derefs_nil, derefs_cons, deref_val, deref_own, slot_sh, slot_ow, slot_lk, arg_val, arg_fr, arg_own, testR_k, store_v, store_f, store_o, io_0, io_f, io_ff, io_fff, io_ffff, MP.finish, outsOf, frz_nil, frz_val, frz_own, frz1_val, frz1_own, toSh_ow, toSh_lk, toSh_sh, lockable_nil, lockable_val, lockable_own, isOw_ow, isOw_sh, isOw_lk, isOw_un, opt1_k, callGo_k, ioSlots_t, ioSlots_f, ioSlots_n, nonIo_t, nonIo_f, nonIo_n, setOuts_c, setOuts_n, len_tup, len_lst, len_fz, len_tf, list_tup, list_lst, list_tf, tuple_tup, tuple_lst, tuple_tf, tupleF_lst, int_int, int_bl, isi_int, isi_bl, isi_tup, isi_tf, isi_lst, isi_str, isi_non, ty_bool_bool, ty_bool_int, ty_bool_str, ty_bool_tuple, ty_bool_list, ty_bool_dict, ty_int_bool, ty_int_int, ty_int_str, ty_int_tuple, ty_int_list, ty_int_dict, ty_str_bool, ty_str_int, ty_str_str, ty_str_tuple, ty_str_list, ty_str_dict, ty_tuple_bool, ty_tuple_int, ty_tuple_str, ty_tuple_tuple, ty_tuple_list, ty_tuple_dict, ty_list_bool, ty_list_int, ty_list_str, ty_list_tuple, ty_list_list, ty_list_dict, ty_NoneType_bool, ty_NoneType_int, ty_NoneType_str, ty_NoneType_tuple, ty_NoneType_list, ty_NoneType_dict, ty_dict_bool, ty_dict_int, ty_dict_str, ty_dict_tuple, ty_dict_list, ty_dict_dict, isN_int, omap_some, obind_some, oany_some, get_z, get_s, isN_tup, isN_non, cmp_lt, cmp_le, cmp_gt, cmp_ge, cmp_eq, cmp_ne, bin_add, bin_sub, bin_mod, bin_mul, bin_fdiv, bin_cat, bin_catL, ix_tup, ix_lst, ix_tf, small_0, small_1, small_2, small_3, wipeE, lock]
  have e : (vs.map MP.D.int).filterMap (fun x => match x with | .int c => some (MP.D.bl (!decide (c = 0))) | _ => none) = vs.map fun c => MP.D.bl (!decide (c = 0)) := by
    rw [List.filterMap_map]
    exact fm_eq fun x _ => rfl
  rw [e] at hc
  have ha := any_d (fun c : Int => !decide (c = 0)) vs
  have hg : cfL 28 "common_of" [.tup (vs.map .int)] = _ := cof_ok 26 vs fun c hc => by have := hb c hc; omega
  have hi : ∀ i j : Int, cfL 28 "_law_same" [.int i, .int j] = .ok (.bl (decide (i = j)), false, []) := same_int 26
  show MP.exec [] ioL (cfL 28) 1000000 _ _ = _
  cases hq : vs.any fun c : Int => !decide (c = 0) with
  | true =>
    rw [hq] at ha
    obtain ⟨c, h1, h2⟩ := List.any_eq_true.mp hq
    have hm := max_shares h1 (by simpa using h2) (hb c h1)
    simp [startE, ev_var, rd_sh, rd_ow, rd_lk, ev_int, ev_bl, ev_non, ev_str, ev_gl, ev_ty, ev_bin, ev_neg, ev_cmp, ev_chain, ev_not, ev_and, ev_or, ev_ite, ev_tup, ev_lst, ev_ix, ev_sl, ev_call, ev_blt, ev_pm, evs_nil, evs_cons, evO_no, evO_yes, evC_no, evC_yes, evI_seq, evI_zip, asg_nm, asg_tup, asgs_nil, asgs_cons, tlen_nil, tlen_cons, ex_asg, ex_ret, ex_ite, ex_expr, exs_nil, exs_cons, bind_k, bind_bad, strict_k, derefs_nil, derefs_cons, deref_val, deref_own, slot_sh, slot_ow, slot_lk, arg_val, arg_fr, arg_own, testR_k, store_v, store_f, store_o, io_0, io_f, io_ff, io_fff, io_ffff, MP.finish, outsOf, frz_nil, frz_val, frz_own, frz1_val, frz1_own, toSh_ow, toSh_lk, toSh_sh, lockable_nil, lockable_val, lockable_own, isOw_ow, isOw_sh, isOw_lk, isOw_un, opt1_k, callGo_k, ioSlots_t, ioSlots_f, ioSlots_n, nonIo_t, nonIo_f, nonIo_n, setOuts_c, setOuts_n, len_tup, len_lst, len_fz, len_tf, list_tup, list_lst, list_tf, tuple_tup, tuple_lst, tuple_tf, tupleF_lst, int_int, int_bl, isi_int, isi_bl, isi_tup, isi_tf, isi_lst, isi_str, isi_non, ty_bool_bool, ty_bool_int, ty_bool_str, ty_bool_tuple, ty_bool_list, ty_bool_dict, ty_int_bool, ty_int_int, ty_int_str, ty_int_tuple, ty_int_list, ty_int_dict, ty_str_bool, ty_str_int, ty_str_str, ty_str_tuple, ty_str_list, ty_str_dict, ty_tuple_bool, ty_tuple_int, ty_tuple_str, ty_tuple_tuple, ty_tuple_list, ty_tuple_dict, ty_list_bool, ty_list_int, ty_list_str, ty_list_tuple, ty_list_list, ty_list_dict, ty_NoneType_bool, ty_NoneType_int, ty_NoneType_str, ty_NoneType_tuple, ty_NoneType_list, ty_NoneType_dict, ty_dict_bool, ty_dict_int, ty_dict_str, ty_dict_tuple, ty_dict_list, ty_dict_dict, isN_int, omap_some, obind_some, oany_some, get_z, get_s, isN_tup, isN_non, cmp_lt, cmp_le, cmp_gt, cmp_ge, cmp_eq, cmp_ne, bin_add, bin_sub, bin_mod, bin_mul, bin_fdiv, bin_cat, bin_catL, ix_tup, ix_lst, ix_tf, small_0, small_1, small_2, small_3, hc, ha, hg, hi, hm, io_same, io_cof]
  | false =>
    rw [hq] at ha
    rw [List.any_eq_false] at hq
    have hz : gcdL vs = 0 := gcdL_zero fun c h => by simpa using hq c h
    rw [hz] at hg
    simp [startE, ev_var, rd_sh, rd_ow, rd_lk, ev_int, ev_bl, ev_non, ev_str, ev_gl, ev_ty, ev_bin, ev_neg, ev_cmp, ev_chain, ev_not, ev_and, ev_or, ev_ite, ev_tup, ev_lst, ev_ix, ev_sl, ev_call, ev_blt, ev_pm, evs_nil, evs_cons, evO_no, evO_yes, evC_no, evC_yes, evI_seq, evI_zip, asg_nm, asg_tup, asgs_nil, asgs_cons, tlen_nil, tlen_cons, ex_asg, ex_ret, ex_ite, ex_expr, exs_nil, exs_cons, bind_k, bind_bad, strict_k, derefs_nil, derefs_cons, deref_val, deref_own, slot_sh, slot_ow, slot_lk, arg_val, arg_fr, arg_own, testR_k, store_v, store_f, store_o, io_0, io_f, io_ff, io_fff, io_ffff, MP.finish, outsOf, frz_nil, frz_val, frz_own, frz1_val, frz1_own, toSh_ow, toSh_lk, toSh_sh, lockable_nil, lockable_val, lockable_own, isOw_ow, isOw_sh, isOw_lk, isOw_un, opt1_k, callGo_k, ioSlots_t, ioSlots_f, ioSlots_n, nonIo_t, nonIo_f, nonIo_n, setOuts_c, setOuts_n, len_tup, len_lst, len_fz, len_tf, list_tup, list_lst, list_tf, tuple_tup, tuple_lst, tuple_tf, tupleF_lst, int_int, int_bl, isi_int, isi_bl, isi_tup, isi_tf, isi_lst, isi_str, isi_non, ty_bool_bool, ty_bool_int, ty_bool_str, ty_bool_tuple, ty_bool_list, ty_bool_dict, ty_int_bool, ty_int_int, ty_int_str, ty_int_tuple, ty_int_list, ty_int_dict, ty_str_bool, ty_str_int, ty_str_str, ty_str_tuple, ty_str_list, ty_str_dict, ty_tuple_bool, ty_tuple_int, ty_tuple_str, ty_tuple_tuple, ty_tuple_list, ty_tuple_dict, ty_list_bool, ty_list_int, ty_list_str, ty_list_tuple, ty_list_list, ty_list_dict, ty_NoneType_bool, ty_NoneType_int, ty_NoneType_str, ty_NoneType_tuple, ty_NoneType_list, ty_NoneType_dict, ty_dict_bool, ty_dict_int, ty_dict_str, ty_dict_tuple, ty_dict_list, ty_dict_dict, isN_int, omap_some, obind_some, oany_some, get_z, get_s, isN_tup, isN_non, cmp_lt, cmp_le, cmp_gt, cmp_ge, cmp_eq, cmp_ne, bin_add, bin_sub, bin_mod, bin_mul, bin_fdiv, bin_cat, bin_catL, ix_tup, ix_lst, ix_tf, small_0, small_1, small_2, small_3, hc, ha, hg, hi, io_same, io_cof]
end K00
end
section
set_option Elab.async false
set_option linter.all false
set_option maxRecDepth 100000
set_option maxHeartbeats 2000000
/-! K00P: the row without its last zeros. -/
namespace K00
open MP PySem
def trimB (vs : List Int) : List Int := (vs.reverse.dropWhile fun x => decide (x = 0)).reverse
def lastB (vs : List Int) : List Nat := (List.range vs.length).filter fun t => !decide (vs.getD t 0 = 0)
theorem trim_snoc (m : List Int) (x : Int) : trimB (m ++ [x]) = if x = 0 then trimB m else m ++ [x] := by
  unfold trimB
  rw [List.reverse_append]
  show (List.dropWhile _ (x :: m.reverse)).reverse = _
  rw [List.dropWhile_cons]
  by_cases h : x = 0 <;> simp [h]
theorem last_snoc (m : List Int) (x : Int) : lastB (m ++ [x]) = lastB m ++ if x = 0 then [] else [m.length] := by
  unfold lastB
  rw [List.length_append, List.length_singleton, List.range_succ, List.filter_append]
  congr 1
  · apply List.filter_congr
    intro t ht
    rw [List.mem_range] at ht
    simp [List.getD_eq_getElem?_getD, List.getElem?_append_left ht]
  · have : (m ++ [x]).getD m.length 0 = x := by simp [List.getD_eq_getElem?_getD]
    by_cases h : x = 0
    · rw [if_pos h, List.filter_cons, this]; simp [h]
    · rw [if_neg h, List.filter_cons, this]; simp [h]
theorem snoc_ind {P : List Int → Prop} (h0 : P []) (h1 : ∀ m x, P m → P (m ++ [x])) : ∀ l, P l := by
  have : ∀ (n : Nat) (l : List Int), l.length = n → P l := by
    intro n
    induction n with
    | zero =>
      intro l h
      rw [List.length_eq_zero_iff.mp h]; exact h0
    | succ n ih =>
      intro l h
      have hne : l ≠ [] := fun e => by rw [e] at h; simp at h
      rw [← List.dropLast_concat_getLast hne]
      refine h1 _ _ (ih _ ?_)
      simp [h]
  exact fun l => this l.length l rfl
theorem last_trim (vs : List Int) : (lastB vs = [] ∧ trimB vs = []) ∨ ∃ p L, lastB vs = p ++ [L] ∧ L < vs.length ∧ trimB vs = vs.take (L + 1) := by
  induction vs using snoc_ind with
  | h0 => exact .inl ⟨rfl, rfl⟩
  | h1 m x ih =>
    rw [last_snoc, trim_snoc]
    by_cases h : x = 0
    · rw [if_pos h, if_pos h, List.append_nil]
      rcases ih with ih | ⟨p, L, h1, h2, h3⟩
      · exact .inl ih
      · refine .inr ⟨p, L, h1, by simp; omega, ?_⟩
        rw [h3, List.take_append_of_le_length (by omega)]
    · rw [if_neg h, if_neg h]
      refine .inr ⟨lastB m, m.length, rfl, by simp, ?_⟩
      rw [List.take_of_length_le (by simp)]
theorem atI_last {α : Type} (l : List α) (x : α) : L2.atI (l ++ [x]) (-1) = some x := by
  unfold L2.atI L2.ixN
  rw [if_neg (by omega), if_pos (by simp; omega), Option.bind_some]
  have : (-1 + ((l ++ [x]).length : Int)).toNat = l.length := by simp; omega
  rw [this]
  simp
theorem pop_last (m : List Int) (x : Int) : mtD .pop ((m ++ [x]).map MP.D.int) [] = some (.int x, m.map .int) := by
  simp [mtD]
def cT : Ex := .and (.cmp .gt (.blt .len (.cons (.var 1) .nil)) (.int 0)) (.cmp .eq (.ix (.var 1) (.neg (.int 1))) (.int 0))
def bT : Sms := .cons (.expr (.mt .pop 1 .nil)) .nil
theorem trim_loop (k : Nat) (s0 : MP.Slot) : ∀ (vs : List Int) (n : Nat), vs.length < n → whileGo (fun env1 => (MP.ev [] ioL (cfL k) cT env1).bind testR) (fun env1 => MP.execs [] ioL (cfL k) 1000000 bT env1) n [s0, .ow (.lst (vs.map .int))] = .ok (.nx, [s0, .ow (.lst ((trimB vs).map .int))]) := by
  intro vs
  induction vs using snoc_ind with
  | h0 =>
    intro n hn
    cases n with
    | zero => omega
    | succ n => exact while_f (by simp [cT, startE, ev_var, rd_sh, rd_ow, rd_lk, ev_int, ev_bl, ev_non, ev_str, ev_gl, ev_ty, ev_bin, ev_neg, ev_cmp, ev_chain, ev_not, ev_and, ev_or, ev_ite, ev_tup, ev_lst, ev_ix, ev_sl, ev_call, ev_blt, ev_pm, evs_nil, evs_cons, evO_no, evO_yes, evC_no, evC_yes, evI_seq, evI_zip, asg_nm, asg_tup, asgs_nil, asgs_cons, tlen_nil, tlen_cons, ex_asg, ex_ret, ex_ite, ex_expr, exs_nil, exs_cons, bind_k, bind_bad, strict_k, derefs_nil, derefs_cons, deref_val, deref_own, slot_sh, slot_ow, slot_lk, arg_val, arg_fr, arg_own, testR_k, store_v, store_f, store_o, io_0, io_f, io_ff, io_fff, io_ffff, MP.finish, outsOf, frz_nil, frz_val, frz_own, frz1_val, frz1_own, toSh_ow, toSh_lk, toSh_sh, lockable_nil, lockable_val, lockable_own, isOw_ow, isOw_sh, isOw_lk, isOw_un, opt1_k, callGo_k, ioSlots_t, ioSlots_f, ioSlots_n, nonIo_t, nonIo_f, nonIo_n, setOuts_c, setOuts_n, len_tup, len_lst, len_fz, len_tf, list_tup, list_lst, list_tf, tuple_tup, tuple_lst, tuple_tf, tupleF_lst, int_int, int_bl, isi_int, isi_bl, isi_tup, isi_tf, isi_lst, isi_str, isi_non, ty_bool_bool, ty_bool_int, ty_bool_str, ty_bool_tuple, ty_bool_list, ty_bool_dict, ty_int_bool, ty_int_int, ty_int_str, ty_int_tuple, ty_int_list, ty_int_dict, ty_str_bool, ty_str_int, ty_str_str, ty_str_tuple, ty_str_list, ty_str_dict, ty_tuple_bool, ty_tuple_int, ty_tuple_str, ty_tuple_tuple, ty_tuple_list, ty_tuple_dict, ty_list_bool, ty_list_int, ty_list_str, ty_list_tuple, ty_list_list, ty_list_dict, ty_NoneType_bool, ty_NoneType_int, ty_NoneType_str, ty_NoneType_tuple, ty_NoneType_list, ty_NoneType_dict, ty_dict_bool, ty_dict_int, ty_dict_str, ty_dict_tuple, ty_dict_list, ty_dict_dict, isN_int, omap_some, obind_some, oany_some, get_z, get_s, isN_tup, isN_non, cmp_lt, cmp_le, cmp_gt, cmp_ge, cmp_eq, cmp_ne, bin_add, bin_sub, bin_mod, bin_mul, bin_fdiv, bin_cat, bin_catL, ix_tup, ix_lst, ix_tf, small_0, small_1, small_2, small_3, show trimB [] = [] from rfl])
  | h1 m x ih =>
    intro n hn
    cases n with
    | zero => omega
    | succ n =>
      have hl : L2.atI ((m ++ [x]).map MP.D.int) (-1) = some (.int x) := by
        rw [List.map_append]; exact atI_last _ _
      have hlen : 0 < ((m ++ [x]).map MP.D.int).length := by simp
      have hp : MP.ev [] ioL (cfL k) (.mt .pop 1 .nil) [s0, .ow (.lst ((m ++ [x]).map .int))] = .ok (.val (.int x), [s0, .ow (.lst (m.map .int))]) := ev_mt (as := []) (ds := []) rfl evs_nil rfl rfl (pop_last m x)
      rw [trim_snoc]
      have hc : (MP.ev [] ioL (cfL k) cT [s0, .ow (.lst ((m ++ [x]).map .int))]).bind testR = .ok (decide (x = 0), [s0, .ow (.lst ((m ++ [x]).map .int))]) := by
        generalize (m ++ [x]).map MP.D.int = Z at hl hlen ⊢
        simp [cT, startE, ev_var, rd_sh, rd_ow, rd_lk, ev_int, ev_bl, ev_non, ev_str, ev_gl, ev_ty, ev_bin, ev_neg, ev_cmp, ev_chain, ev_not, ev_and, ev_or, ev_ite, ev_tup, ev_lst, ev_ix, ev_sl, ev_call, ev_blt, ev_pm, evs_nil, evs_cons, evO_no, evO_yes, evC_no, evC_yes, evI_seq, evI_zip, asg_nm, asg_tup, asgs_nil, asgs_cons, tlen_nil, tlen_cons, ex_asg, ex_ret, ex_ite, ex_expr, exs_nil, exs_cons, bind_k, bind_bad, strict_k, derefs_nil, derefs_cons, deref_val, deref_own, slot_sh, slot_ow, slot_lk, arg_val, arg_fr, arg_own, testR_k, store_v, store_f, store_o, io_0, io_f, io_ff, io_fff, io_ffff, MP.finish, outsOf, frz_nil, frz_val, frz_own, frz1_val, frz1_own, toSh_ow, toSh_lk, toSh_sh, lockable_nil, lockable_val, lockable_own, isOw_ow, isOw_sh, isOw_lk, isOw_un, opt1_k, callGo_k, ioSlots_t, ioSlots_f, ioSlots_n, nonIo_t, nonIo_f, nonIo_n, setOuts_c, setOuts_n, len_tup, len_lst, len_fz, len_tf, list_tup, list_lst, list_tf, tuple_tup, tuple_lst, tuple_tf, tupleF_lst, int_int, int_bl, isi_int, isi_bl, isi_tup, isi_tf, isi_lst, isi_str, isi_non, ty_bool_bool, ty_bool_int, ty_bool_str, ty_bool_tuple, ty_bool_list, ty_bool_dict, ty_int_bool, ty_int_int, ty_int_str, ty_int_tuple, ty_int_list, ty_int_dict, ty_str_bool, ty_str_int, ty_str_str, ty_str_tuple, ty_str_list, ty_str_dict, ty_tuple_bool, ty_tuple_int, ty_tuple_str, ty_tuple_tuple, ty_tuple_list, ty_tuple_dict, ty_list_bool, ty_list_int, ty_list_str, ty_list_tuple, ty_list_list, ty_list_dict, ty_NoneType_bool, ty_NoneType_int, ty_NoneType_str, ty_NoneType_tuple, ty_NoneType_list, ty_NoneType_dict, ty_dict_bool, ty_dict_int, ty_dict_str, ty_dict_tuple, ty_dict_list, ty_dict_dict, isN_int, omap_some, obind_some, oany_some, get_z, get_s, isN_tup, isN_non, cmp_lt, cmp_le, cmp_gt, cmp_ge, cmp_eq, cmp_ne, bin_add, bin_sub, bin_mod, bin_mul, bin_fdiv, bin_cat, bin_catL, ix_tup, ix_lst, ix_tf, small_0, small_1, small_2, small_3, hl, hlen]
      by_cases h : x = 0
      · rw [if_pos h]
        rw [h] at hc hp
        rw [h, while_t hc (env2 := [s0, .ow (.lst (m.map .int))])]
        · exact ih n (by simp at hn; omega)
        · show MP.execs [] ioL (cfL k) 1000000 bT _ = _
          unfold bT
          rw [exs_cons, ex_expr, hp, bind_k, bind_k, exs_nil]
      · rw [if_neg h]
        rw [decide_eq_false h] at hc
        exact while_f hc
theorem trim_ok (k : Nat) (vs : List Int) (hv : vs.length ≤ 1000) : cfL (k + 1) "trimmed" [.tup (vs.map .int)] = .ok (.tup ((trimB vs).map .int), false, []) := by
  rw [cfL_eq (f := ir_trimmed) rfl rfl]
  have hL : MP.exec [] ioL (cfL k) 1000000 (.whil (.and (.cmp .gt (.blt .len (.cons (.var 1) .nil)) (.int 0)) (.cmp .eq (.ix (.var 1) (.neg (.int 1))) (.int 0))) (.cons (.expr (.mt .pop 1 .nil)) .nil)) [.sh (.tup (vs.map .int)), .ow (.lst (vs.map .int))] = .ok (.nx, [.sh (.tup (vs.map .int)), .ow (.lst ((trimB vs).map .int))]) := by
    rw [MP.exec]
    exact trim_loop k _ vs 1000000 (by omega)
  simp [ir_trimmed, startE, ev_var, rd_sh, rd_ow, rd_lk, ev_int, ev_bl, ev_non, ev_str, ev_gl, ev_ty, ev_bin, ev_neg, ev_cmp, ev_chain, ev_not, ev_and, ev_or, ev_ite, ev_tup, ev_lst, ev_ix, ev_sl, ev_call, ev_blt, ev_pm, evs_nil, evs_cons, evO_no, evO_yes, evC_no, evC_yes, evI_seq, evI_zip, asg_nm, asg_tup, asgs_nil, asgs_cons, tlen_nil, tlen_cons, ex_asg, ex_ret, ex_ite, ex_expr, exs_nil, exs_cons, bind_k, bind_bad, strict_k, derefs_nil, derefs_cons, deref_val, deref_own, slot_sh, slot_ow, slot_lk, arg_val, arg_fr, arg_own, testR_k, store_v, store_f, store_o, io_0, io_f, io_ff, io_fff, io_ffff, MP.finish, outsOf, frz_nil, frz_val, frz_own, frz1_val, frz1_own, toSh_ow, toSh_lk, toSh_sh, lockable_nil, lockable_val, lockable_own, isOw_ow, isOw_sh, isOw_lk, isOw_un, opt1_k, callGo_k, ioSlots_t, ioSlots_f, ioSlots_n, nonIo_t, nonIo_f, nonIo_n, setOuts_c, setOuts_n, len_tup, len_lst, len_fz, len_tf, list_tup, list_lst, list_tf, tuple_tup, tuple_lst, tuple_tf, tupleF_lst, int_int, int_bl, isi_int, isi_bl, isi_tup, isi_tf, isi_lst, isi_str, isi_non, ty_bool_bool, ty_bool_int, ty_bool_str, ty_bool_tuple, ty_bool_list, ty_bool_dict, ty_int_bool, ty_int_int, ty_int_str, ty_int_tuple, ty_int_list, ty_int_dict, ty_str_bool, ty_str_int, ty_str_str, ty_str_tuple, ty_str_list, ty_str_dict, ty_tuple_bool, ty_tuple_int, ty_tuple_str, ty_tuple_tuple, ty_tuple_list, ty_tuple_dict, ty_list_bool, ty_list_int, ty_list_str, ty_list_tuple, ty_list_list, ty_list_dict, ty_NoneType_bool, ty_NoneType_int, ty_NoneType_str, ty_NoneType_tuple, ty_NoneType_list, ty_NoneType_dict, ty_dict_bool, ty_dict_int, ty_dict_str, ty_dict_tuple, ty_dict_list, ty_dict_dict, isN_int, omap_some, obind_some, oany_some, get_z, get_s, isN_tup, isN_non, cmp_lt, cmp_le, cmp_gt, cmp_ge, cmp_eq, cmp_ne, bin_add, bin_sub, bin_mod, bin_mul, bin_fdiv, bin_cat, bin_catL, ix_tup, ix_lst, ix_tf, small_0, small_1, small_2, small_3, hL]
theorem last_ok (vs : List Int) (hv : vs.length ≤ 1000) : exL (.asg (.nm 24) (.comp (.var 25) (.nm 25) (.rng1 (.blt .len (.cons (.var 23) .nil))) (.yes (.cmp .ne (.ix (.var 23) (.var 25)) (.int 0))) [25]))
    [.un, .un, .un, .un, .un, .un, .un, .un, .un, .un, .un, .un, .un, .un, .un, .un, .un, .un, .un, .un, .un, .un, .un, .sh (.tup (vs.map .int)), .un, .un, .un, .un, .un, .un] = .ok (.nx, [.un, .un, .un, .un, .un, .un, .un, .un, .un, .un, .un, .un, .un, .un, .un, .un, .un, .un, .un, .un, .un, .un, .un, .sh (.tup (vs.map .int)), .ow (.lst ((lastB vs).map fun (t : Nat) => MP.D.int (t : Int))), .un, .un, .un, .un, .un]) := by
  have hc : MP.ev [] ioL (cfL 28) (.comp (.var 25) (.nm 25) (.rng1 (.blt .len (.cons (.var 23) .nil))) (.yes (.cmp .ne (.ix (.var 23) (.var 25)) (.int 0))) [25]) [.un, .un, .un, .un, .un, .un, .un, .un, .un, .un, .un, .un, .un, .un, .un, .un, .un, .un, .un, .un, .un, .un, .un, .sh (.tup (vs.map .int)), .un, .un, .un, .un, .un, .un] = .ok (.fr (.lst ((rngI vs.length).filterMap fun x => match x with | .int d => if !decide (vs.getD d.toNat 0 = 0) then some (MP.D.int d) else none | _ => none)), [.un, .un, .un, .un, .un, .un, .un, .un, .un, .un, .un, .un, .un, .un, .un, .un, .un, .un, .un, .un, .un, .un, .un, .sh (.tup (vs.map .int)), .un, .un, .un, .un, .un, .un]) := by
    refine ev_compP (items := rngI vs.length) (lks := []) _ (evI_rngN ?_ (by omega)) rfl rfl ?_ ?_
    · simp [startE, ev_var, rd_sh, rd_ow, rd_lk, ev_int, ev_bl, ev_non, ev_str, ev_gl, ev_ty, ev_bin, ev_neg, ev_cmp, ev_chain, ev_not, ev_and, ev_or, ev_ite, ev_tup, ev_lst, ev_ix, ev_sl, ev_call, ev_blt, ev_pm, evs_nil, evs_cons, evO_no, evO_yes, evC_no, evC_yes, evI_seq, evI_zip, asg_nm, asg_tup, asgs_nil, asgs_cons, tlen_nil, tlen_cons, ex_asg, ex_ret, ex_ite, ex_expr, exs_nil, exs_cons, bind_k, bind_bad, strict_k, derefs_nil, derefs_cons, deref_val, deref_own, slot_sh, slot_ow, slot_lk, arg_val, arg_fr, arg_own, testR_k, store_v, store_f, store_o, io_0, io_f, io_ff, io_fff, io_ffff, MP.finish, outsOf, frz_nil, frz_val, frz_own, frz1_val, frz1_own, toSh_ow, toSh_lk, toSh_sh, lockable_nil, lockable_val, lockable_own, isOw_ow, isOw_sh, isOw_lk, isOw_un, opt1_k, callGo_k, ioSlots_t, ioSlots_f, ioSlots_n, nonIo_t, nonIo_f, nonIo_n, setOuts_c, setOuts_n, len_tup, len_lst, len_fz, len_tf, list_tup, list_lst, list_tf, tuple_tup, tuple_lst, tuple_tf, tupleF_lst, int_int, int_bl, isi_int, isi_bl, isi_tup, isi_tf, isi_lst, isi_str, isi_non, ty_bool_bool, ty_bool_int, ty_bool_str, ty_bool_tuple, ty_bool_list, ty_bool_dict, ty_int_bool, ty_int_int, ty_int_str, ty_int_tuple, ty_int_list, ty_int_dict, ty_str_bool, ty_str_int, ty_str_str, ty_str_tuple, ty_str_list, ty_str_dict, ty_tuple_bool, ty_tuple_int, ty_tuple_str, ty_tuple_tuple, ty_tuple_list, ty_tuple_dict, ty_list_bool, ty_list_int, ty_list_str, ty_list_tuple, ty_list_list, ty_list_dict, ty_NoneType_bool, ty_NoneType_int, ty_NoneType_str, ty_NoneType_tuple, ty_NoneType_list, ty_NoneType_dict, ty_dict_bool, ty_dict_int, ty_dict_str, ty_dict_tuple, ty_dict_list, ty_dict_dict, isN_int, omap_some, obind_some, oany_some, get_z, get_s, isN_tup, isN_non, cmp_lt, cmp_le, cmp_gt, cmp_ge, cmp_eq, cmp_ne, bin_add, bin_sub, bin_mod, bin_mul, bin_fdiv, bin_cat, bin_catL, ix_tup, ix_lst, ix_tf, small_0, small_1, small_2, small_3]
    · rw [rngI_len]; exact Nat.le_trans hv (by decide)
    · intro x hx
      obtain ⟨t, ht, rfl⟩ := List.mem_map.mp hx
      rw [List.mem_range] at ht
      have a1 := atM (l := vs) (j := t) ht
      refine ⟨[.un, .un, .un, .un, .un, .un, .un, .un, .un, .un, .un, .un, .un, .un, .un, .un, .un, .un, .un, .un, .un, .un, .un, .sh (.tup (vs.map .int)), .un, .sh (.int (t : Int)), .un, .un, .un, .un], ?_, rfl⟩
      by_cases h : vs.getD t 0 = 0
      · simp [startE, ev_var, rd_sh, rd_ow, rd_lk, ev_int, ev_bl, ev_non, ev_str, ev_gl, ev_ty, ev_bin, ev_neg, ev_cmp, ev_chain, ev_not, ev_and, ev_or, ev_ite, ev_tup, ev_lst, ev_ix, ev_sl, ev_call, ev_blt, ev_pm, evs_nil, evs_cons, evO_no, evO_yes, evC_no, evC_yes, evI_seq, evI_zip, asg_nm, asg_tup, asgs_nil, asgs_cons, tlen_nil, tlen_cons, ex_asg, ex_ret, ex_ite, ex_expr, exs_nil, exs_cons, bind_k, bind_bad, strict_k, derefs_nil, derefs_cons, deref_val, deref_own, slot_sh, slot_ow, slot_lk, arg_val, arg_fr, arg_own, testR_k, store_v, store_f, store_o, io_0, io_f, io_ff, io_fff, io_ffff, MP.finish, outsOf, frz_nil, frz_val, frz_own, frz1_val, frz1_own, toSh_ow, toSh_lk, toSh_sh, lockable_nil, lockable_val, lockable_own, isOw_ow, isOw_sh, isOw_lk, isOw_un, opt1_k, callGo_k, ioSlots_t, ioSlots_f, ioSlots_n, nonIo_t, nonIo_f, nonIo_n, setOuts_c, setOuts_n, len_tup, len_lst, len_fz, len_tf, list_tup, list_lst, list_tf, tuple_tup, tuple_lst, tuple_tf, tupleF_lst, int_int, int_bl, isi_int, isi_bl, isi_tup, isi_tf, isi_lst, isi_str, isi_non, ty_bool_bool, ty_bool_int, ty_bool_str, ty_bool_tuple, ty_bool_list, ty_bool_dict, ty_int_bool, ty_int_int, ty_int_str, ty_int_tuple, ty_int_list, ty_int_dict, ty_str_bool, ty_str_int, ty_str_str, ty_str_tuple, ty_str_list, ty_str_dict, ty_tuple_bool, ty_tuple_int, ty_tuple_str, ty_tuple_tuple, ty_tuple_list, ty_tuple_dict, ty_list_bool, ty_list_int, ty_list_str, ty_list_tuple, ty_list_list, ty_list_dict, ty_NoneType_bool, ty_NoneType_int, ty_NoneType_str, ty_NoneType_tuple, ty_NoneType_list, ty_NoneType_dict, ty_dict_bool, ty_dict_int, ty_dict_str, ty_dict_tuple, ty_dict_list, ty_dict_dict, isN_int, omap_some, obind_some, oany_some, get_z, get_s, isN_tup, isN_non, cmp_lt, cmp_le, cmp_gt, cmp_ge, cmp_eq, cmp_ne, bin_add, bin_sub, bin_mod, bin_mul, bin_fdiv, bin_cat, bin_catL, ix_tup, ix_lst, ix_tf, small_0, small_1, small_2, small_3, wipeE, lock, a1, h, -List.getD_eq_getElem?_getD]
      · simp [startE, ev_var, rd_sh, rd_ow, rd_lk, ev_int, ev_bl, ev_non, ev_str, ev_gl, ev_ty, ev_bin, ev_neg, ev_cmp, ev_chain, ev_not, ev_and, ev_or, ev_ite, ev_tup, ev_lst, ev_ix, ev_sl, ev_call, ev_blt, ev_pm, evs_nil, evs_cons, evO_no, evO_yes, evC_no, evC_yes, evI_seq, evI_zip, asg_nm, asg_tup, asgs_nil, asgs_cons, tlen_nil, tlen_cons, ex_asg, ex_ret, ex_ite, ex_expr, exs_nil, exs_cons, bind_k, bind_bad, strict_k, derefs_nil, derefs_cons, deref_val, deref_own, slot_sh, slot_ow, slot_lk, arg_val, arg_fr, arg_own, testR_k, store_v, store_f, store_o, io_0, io_f, io_ff, io_fff, io_ffff, MP.finish, outsOf, frz_nil, frz_val, frz_own, frz1_val, frz1_own, toSh_ow, toSh_lk, toSh_sh, lockable_nil, lockable_val, lockable_own, isOw_ow, isOw_sh, isOw_lk, isOw_un, opt1_k, callGo_k, ioSlots_t, ioSlots_f, ioSlots_n, nonIo_t, nonIo_f, nonIo_n, setOuts_c, setOuts_n, len_tup, len_lst, len_fz, len_tf, list_tup, list_lst, list_tf, tuple_tup, tuple_lst, tuple_tf, tupleF_lst, int_int, int_bl, isi_int, isi_bl, isi_tup, isi_tf, isi_lst, isi_str, isi_non, ty_bool_bool, ty_bool_int, ty_bool_str, ty_bool_tuple, ty_bool_list, ty_bool_dict, ty_int_bool, ty_int_int, ty_int_str, ty_int_tuple, ty_int_list, ty_int_dict, ty_str_bool, ty_str_int, ty_str_str, ty_str_tuple, ty_str_list, ty_str_dict, ty_tuple_bool, ty_tuple_int, ty_tuple_str, ty_tuple_tuple, ty_tuple_list, ty_tuple_dict, ty_list_bool, ty_list_int, ty_list_str, ty_list_tuple, ty_list_list, ty_list_dict, ty_NoneType_bool, ty_NoneType_int, ty_NoneType_str, ty_NoneType_tuple, ty_NoneType_list, ty_NoneType_dict, ty_dict_bool, ty_dict_int, ty_dict_str, ty_dict_tuple, ty_dict_list, ty_dict_dict, isN_int, omap_some, obind_some, oany_some, get_z, get_s, isN_tup, isN_non, cmp_lt, cmp_le, cmp_gt, cmp_ge, cmp_eq, cmp_ne, bin_add, bin_sub, bin_mod, bin_mul, bin_fdiv, bin_cat, bin_catL, ix_tup, ix_lst, ix_tf, small_0, small_1, small_2, small_3, wipeE, lock, a1, h, -List.getD_eq_getElem?_getD]
  have e : (rngI vs.length).filterMap (fun x => match x with | .int d => if !decide (vs.getD d.toNat 0 = 0) then some (MP.D.int d) else none | _ => none) = (lastB vs).map fun (t : Nat) => MP.D.int (t : Int) := by
    unfold lastB rngI
    generalize List.range vs.length = l
    induction l with
    | nil => rfl
    | cons k r ih =>
      simp only [List.map_cons, List.filterMap_cons, List.filter_cons, ih, Int.toNat_natCast]
      by_cases h : vs.getD k 0 = 0
      · simp only [h, decide_true, Bool.not_true, Bool.false_eq_true, if_false]
      · simp only [h, decide_false, Bool.not_false, if_true, List.map_cons]
  rw [e] at hc
  show MP.exec [] ioL (cfL 28) 1000000 _ _ = _
  simp [startE, ev_var, rd_sh, rd_ow, rd_lk, ev_int, ev_bl, ev_non, ev_str, ev_gl, ev_ty, ev_bin, ev_neg, ev_cmp, ev_chain, ev_not, ev_and, ev_or, ev_ite, ev_tup, ev_lst, ev_ix, ev_sl, ev_call, ev_blt, ev_pm, evs_nil, evs_cons, evO_no, evO_yes, evC_no, evC_yes, evI_seq, evI_zip, asg_nm, asg_tup, asgs_nil, asgs_cons, tlen_nil, tlen_cons, ex_asg, ex_ret, ex_ite, ex_expr, exs_nil, exs_cons, bind_k, bind_bad, strict_k, derefs_nil, derefs_cons, deref_val, deref_own, slot_sh, slot_ow, slot_lk, arg_val, arg_fr, arg_own, testR_k, store_v, store_f, store_o, io_0, io_f, io_ff, io_fff, io_ffff, MP.finish, outsOf, frz_nil, frz_val, frz_own, frz1_val, frz1_own, toSh_ow, toSh_lk, toSh_sh, lockable_nil, lockable_val, lockable_own, isOw_ow, isOw_sh, isOw_lk, isOw_un, opt1_k, callGo_k, ioSlots_t, ioSlots_f, ioSlots_n, nonIo_t, nonIo_f, nonIo_n, setOuts_c, setOuts_n, len_tup, len_lst, len_fz, len_tf, list_tup, list_lst, list_tf, tuple_tup, tuple_lst, tuple_tf, tupleF_lst, int_int, int_bl, isi_int, isi_bl, isi_tup, isi_tf, isi_lst, isi_str, isi_non, ty_bool_bool, ty_bool_int, ty_bool_str, ty_bool_tuple, ty_bool_list, ty_bool_dict, ty_int_bool, ty_int_int, ty_int_str, ty_int_tuple, ty_int_list, ty_int_dict, ty_str_bool, ty_str_int, ty_str_str, ty_str_tuple, ty_str_list, ty_str_dict, ty_tuple_bool, ty_tuple_int, ty_tuple_str, ty_tuple_tuple, ty_tuple_list, ty_tuple_dict, ty_list_bool, ty_list_int, ty_list_str, ty_list_tuple, ty_list_list, ty_list_dict, ty_NoneType_bool, ty_NoneType_int, ty_NoneType_str, ty_NoneType_tuple, ty_NoneType_list, ty_NoneType_dict, ty_dict_bool, ty_dict_int, ty_dict_str, ty_dict_tuple, ty_dict_list, ty_dict_dict, isN_int, omap_some, obind_some, oany_some, get_z, get_s, isN_tup, isN_non, cmp_lt, cmp_le, cmp_gt, cmp_ge, cmp_eq, cmp_ne, bin_add, bin_sub, bin_mod, bin_mul, bin_fdiv, bin_cat, bin_catL, ix_tup, ix_lst, ix_tf, small_0, small_1, small_2, small_3, hc]
theorem io_trim : ioL "trimmed" = [false] := by decide +kernel
theorem low_ok (vs : List Int) (hv : vs.length ≤ 1000) : exL (.ite (.not (.call "_law_same" (.cons (.call "trimmed" (.cons (.var 23) .nil)) (.cons (.ite (.cmp .gt (.blt .len (.cons (.var 24) .nil)) (.int 0)) (.sl (.var 23) .no (.yes (.bin .add (.ix (.var 24) (.neg (.int 1))) (.int 1)))) (.tup .nil)) .nil)))) (.cons (.ret (.bl false)) .nil) .nil)
    [.un, .un, .un, .un, .un, .un, .un, .un, .un, .un, .un, .un, .un, .un, .un, .un, .un, .un, .un, .un, .un, .un, .un, .sh (.tup (vs.map .int)), .ow (.lst ((lastB vs).map fun (t : Nat) => MP.D.int (t : Int))), .un, .un, .un, .un, .un] = .ok (.nx, [.un, .un, .un, .un, .un, .un, .un, .un, .un, .un, .un, .un, .un, .un, .un, .un, .un, .un, .un, .un, .un, .un, .un, .sh (.tup (vs.map .int)), .ow (.lst ((lastB vs).map fun (t : Nat) => MP.D.int (t : Int))), .un, .un, .un, .un, .un]) := by
  have ht : cfL 28 "trimmed" [.tup (vs.map .int)] = _ := trim_ok 27 vs hv
  have hs : cfL 28 "_law_same" [.tup ((trimB vs).map .int), .tup ((trimB vs).map .int)] = _ := same_ints 25 (trimB vs) (by
    rcases last_trim vs with ⟨_, h⟩ | ⟨p, L, _, _, h⟩
    · rw [h]; simp
    · rw [h, List.length_take]; omega)
  show MP.exec [] ioL (cfL 28) 1000000 _ _ = _
  rcases last_trim vs with ⟨h1, h2⟩ | ⟨p, L, h1, h2, h3⟩
  · rw [h1]
    rw [h2] at ht hs
    simp [startE, ev_var, rd_sh, rd_ow, rd_lk, ev_int, ev_bl, ev_non, ev_str, ev_gl, ev_ty, ev_bin, ev_neg, ev_cmp, ev_chain, ev_not, ev_and, ev_or, ev_ite, ev_tup, ev_lst, ev_ix, ev_sl, ev_call, ev_blt, ev_pm, evs_nil, evs_cons, evO_no, evO_yes, evC_no, evC_yes, evI_seq, evI_zip, asg_nm, asg_tup, asgs_nil, asgs_cons, tlen_nil, tlen_cons, ex_asg, ex_ret, ex_ite, ex_expr, exs_nil, exs_cons, bind_k, bind_bad, strict_k, derefs_nil, derefs_cons, deref_val, deref_own, slot_sh, slot_ow, slot_lk, arg_val, arg_fr, arg_own, testR_k, store_v, store_f, store_o, io_0, io_f, io_ff, io_fff, io_ffff, MP.finish, outsOf, frz_nil, frz_val, frz_own, frz1_val, frz1_own, toSh_ow, toSh_lk, toSh_sh, lockable_nil, lockable_val, lockable_own, isOw_ow, isOw_sh, isOw_lk, isOw_un, opt1_k, callGo_k, ioSlots_t, ioSlots_f, ioSlots_n, nonIo_t, nonIo_f, nonIo_n, setOuts_c, setOuts_n, len_tup, len_lst, len_fz, len_tf, list_tup, list_lst, list_tf, tuple_tup, tuple_lst, tuple_tf, tupleF_lst, int_int, int_bl, isi_int, isi_bl, isi_tup, isi_tf, isi_lst, isi_str, isi_non, ty_bool_bool, ty_bool_int, ty_bool_str, ty_bool_tuple, ty_bool_list, ty_bool_dict, ty_int_bool, ty_int_int, ty_int_str, ty_int_tuple, ty_int_list, ty_int_dict, ty_str_bool, ty_str_int, ty_str_str, ty_str_tuple, ty_str_list, ty_str_dict, ty_tuple_bool, ty_tuple_int, ty_tuple_str, ty_tuple_tuple, ty_tuple_list, ty_tuple_dict, ty_list_bool, ty_list_int, ty_list_str, ty_list_tuple, ty_list_list, ty_list_dict, ty_NoneType_bool, ty_NoneType_int, ty_NoneType_str, ty_NoneType_tuple, ty_NoneType_list, ty_NoneType_dict, ty_dict_bool, ty_dict_int, ty_dict_str, ty_dict_tuple, ty_dict_list, ty_dict_dict, isN_int, omap_some, obind_some, oany_some, get_z, get_s, isN_tup, isN_non, cmp_lt, cmp_le, cmp_gt, cmp_ge, cmp_eq, cmp_ne, bin_add, bin_sub, bin_mod, bin_mul, bin_fdiv, bin_cat, bin_catL, ix_tup, ix_lst, ix_tf, small_0, small_1, small_2, small_3, ht, io_trim, io_same] at hs ⊢
    simp [startE, ev_var, rd_sh, rd_ow, rd_lk, ev_int, ev_bl, ev_non, ev_str, ev_gl, ev_ty, ev_bin, ev_neg, ev_cmp, ev_chain, ev_not, ev_and, ev_or, ev_ite, ev_tup, ev_lst, ev_ix, ev_sl, ev_call, ev_blt, ev_pm, evs_nil, evs_cons, evO_no, evO_yes, evC_no, evC_yes, evI_seq, evI_zip, asg_nm, asg_tup, asgs_nil, asgs_cons, tlen_nil, tlen_cons, ex_asg, ex_ret, ex_ite, ex_expr, exs_nil, exs_cons, bind_k, bind_bad, strict_k, derefs_nil, derefs_cons, deref_val, deref_own, slot_sh, slot_ow, slot_lk, arg_val, arg_fr, arg_own, testR_k, store_v, store_f, store_o, io_0, io_f, io_ff, io_fff, io_ffff, MP.finish, outsOf, frz_nil, frz_val, frz_own, frz1_val, frz1_own, toSh_ow, toSh_lk, toSh_sh, lockable_nil, lockable_val, lockable_own, isOw_ow, isOw_sh, isOw_lk, isOw_un, opt1_k, callGo_k, ioSlots_t, ioSlots_f, ioSlots_n, nonIo_t, nonIo_f, nonIo_n, setOuts_c, setOuts_n, len_tup, len_lst, len_fz, len_tf, list_tup, list_lst, list_tf, tuple_tup, tuple_lst, tuple_tf, tupleF_lst, int_int, int_bl, isi_int, isi_bl, isi_tup, isi_tf, isi_lst, isi_str, isi_non, ty_bool_bool, ty_bool_int, ty_bool_str, ty_bool_tuple, ty_bool_list, ty_bool_dict, ty_int_bool, ty_int_int, ty_int_str, ty_int_tuple, ty_int_list, ty_int_dict, ty_str_bool, ty_str_int, ty_str_str, ty_str_tuple, ty_str_list, ty_str_dict, ty_tuple_bool, ty_tuple_int, ty_tuple_str, ty_tuple_tuple, ty_tuple_list, ty_tuple_dict, ty_list_bool, ty_list_int, ty_list_str, ty_list_tuple, ty_list_list, ty_list_dict, ty_NoneType_bool, ty_NoneType_int, ty_NoneType_str, ty_NoneType_tuple, ty_NoneType_list, ty_NoneType_dict, ty_dict_bool, ty_dict_int, ty_dict_str, ty_dict_tuple, ty_dict_list, ty_dict_dict, isN_int, omap_some, obind_some, oany_some, get_z, get_s, isN_tup, isN_non, cmp_lt, cmp_le, cmp_gt, cmp_ge, cmp_eq, cmp_ne, bin_add, bin_sub, bin_mod, bin_mul, bin_fdiv, bin_cat, bin_catL, ix_tup, ix_lst, ix_tf, small_0, small_1, small_2, small_3, hs]
  · have h4 : L2.atI ((lastB vs).map fun (t : Nat) => MP.D.int (t : Int)) (-1) = some (.int (L : Int)) := by
      rw [h1, List.map_append]; exact atI_last _ _
    have h5 : 0 < ((lastB vs).map fun (t : Nat) => MP.D.int (t : Int)).length := by rw [h1]; simp
    have h6 : slD (.tup (vs.map .int)) none (some ((L : Int) + 1)) = some (.val (.tup ((trimB vs).map .int))) := by
      show some (MP.R.val (.tup (cutD (vs.map MP.D.int) none (some ((L + 1 : Nat) : Int))))) = _
      rw [cut_take, h3]
    generalize (lastB vs).map (fun (t : Nat) => MP.D.int (t : Int)) = Z at h4 h5 ⊢
    simp [startE, ev_var, rd_sh, rd_ow, rd_lk, ev_int, ev_bl, ev_non, ev_str, ev_gl, ev_ty, ev_bin, ev_neg, ev_cmp, ev_chain, ev_not, ev_and, ev_or, ev_ite, ev_tup, ev_lst, ev_ix, ev_sl, ev_call, ev_blt, ev_pm, evs_nil, evs_cons, evO_no, evO_yes, evC_no, evC_yes, evI_seq, evI_zip, asg_nm, asg_tup, asgs_nil, asgs_cons, tlen_nil, tlen_cons, ex_asg, ex_ret, ex_ite, ex_expr, exs_nil, exs_cons, bind_k, bind_bad, strict_k, derefs_nil, derefs_cons, deref_val, deref_own, slot_sh, slot_ow, slot_lk, arg_val, arg_fr, arg_own, testR_k, store_v, store_f, store_o, io_0, io_f, io_ff, io_fff, io_ffff, MP.finish, outsOf, frz_nil, frz_val, frz_own, frz1_val, frz1_own, toSh_ow, toSh_lk, toSh_sh, lockable_nil, lockable_val, lockable_own, isOw_ow, isOw_sh, isOw_lk, isOw_un, opt1_k, callGo_k, ioSlots_t, ioSlots_f, ioSlots_n, nonIo_t, nonIo_f, nonIo_n, setOuts_c, setOuts_n, len_tup, len_lst, len_fz, len_tf, list_tup, list_lst, list_tf, tuple_tup, tuple_lst, tuple_tf, tupleF_lst, int_int, int_bl, isi_int, isi_bl, isi_tup, isi_tf, isi_lst, isi_str, isi_non, ty_bool_bool, ty_bool_int, ty_bool_str, ty_bool_tuple, ty_bool_list, ty_bool_dict, ty_int_bool, ty_int_int, ty_int_str, ty_int_tuple, ty_int_list, ty_int_dict, ty_str_bool, ty_str_int, ty_str_str, ty_str_tuple, ty_str_list, ty_str_dict, ty_tuple_bool, ty_tuple_int, ty_tuple_str, ty_tuple_tuple, ty_tuple_list, ty_tuple_dict, ty_list_bool, ty_list_int, ty_list_str, ty_list_tuple, ty_list_list, ty_list_dict, ty_NoneType_bool, ty_NoneType_int, ty_NoneType_str, ty_NoneType_tuple, ty_NoneType_list, ty_NoneType_dict, ty_dict_bool, ty_dict_int, ty_dict_str, ty_dict_tuple, ty_dict_list, ty_dict_dict, isN_int, omap_some, obind_some, oany_some, get_z, get_s, isN_tup, isN_non, cmp_lt, cmp_le, cmp_gt, cmp_ge, cmp_eq, cmp_ne, bin_add, bin_sub, bin_mod, bin_mul, bin_fdiv, bin_cat, bin_catL, ix_tup, ix_lst, ix_tf, small_0, small_1, small_2, small_3, ht, hs, h4, h5, h6, io_trim, io_same]
end K00
end
section
set_option Elab.async false
set_option linter.all false
set_option maxRecDepth 100000
set_option maxHeartbeats 0
/-! K00B: the finite parts, by evaluation. -/
namespace K00
open MP PySem
def BB : List Nat := [1, 4, 8, 11, 14, 24]
def runB (j m : Nat) (l : List (Nat × Slot)) : Bool := segRuns BB 30 (ioIx [false]) ioL (cfL 28) 1000000 ir_law.body j m l
def keepI (a : MP.Env) (p : Nat × MP.Slot) : Bool := match a[p.1]?, p.2 with
  | some (.sh (.int i)), .sh (.int j) => decide (i = j)
  | _, _ => false
theorem keepI_eq {a : MP.Env} {p : Nat × MP.Slot} (h : keepI a p = true) : a[p.1]? = some p.2 ∧ isUn p.2 = false := by
  obtain ⟨k, s⟩ := p
  unfold keepI at h
  split at h
  · rename_i i j e1 e2
    simp only at e1 e2
    subst e2
    rw [e1, of_decide_eq_true h]
    exact ⟨rfl, rfl⟩
  · cases h
def runE (j m : Nat) (l : List (Nat × MP.Slot)) : Bool := match MP.execs (ioIx [false]) ioL (cfL 28) 1000000 ((ir_law.body.drop j).take m) (mkE 30 l) with
  | .ok (.nx, a') => plainOut BB a' && l.all (keepI a')
  | _ => false
theorem runE_ok {j m : Nat} {l : List (Nat × MP.Slot)} (h : runE j m l = true) : ∃ a', MP.execs (ioIx [false]) ioL (cfL 28) 1000000 ((ir_law.body.drop j).take m) (mkE 30 l) = .ok (.nx, a') ∧ plainOut BB a' = true ∧ ∀ p ∈ l, a'[p.1]? = some p.2 ∧ isUn p.2 = false := by
  unfold runE at h
  split at h
  · rename_i a' e
    rw [Bool.and_eq_true, List.all_eq_true] at h
    exact ⟨a', e, h.1, fun p hp => keepI_eq (h.2 p hp)⟩
  · cases h
theorem nk_ok : ∀ n < 7, ∀ k < 8, runE 8 2 [(10, .sh (.int (n : Nat))), (7, .sh (.int (k : Nat)))] = true := by decide +kernel
theorem m_ok : ∀ m < 5, runB 16 2 [(17, .sh (.int (m : Nat)))] = true := by decide +kernel
/-- all lists of some length, items among some -/
def words (its : List Int) : Nat → List (List Int)
  | 0 => [[]]
  | n + 1 => (words its n).flatMap fun w => its.map fun i => i :: w
theorem words_mem {its : List Int} : ∀ {w : List Int}, (∀ i ∈ w, i ∈ its) → w ∈ words its w.length
  | [], _ => by simp [words]
  | i :: w, h => by
    show i :: w ∈ (words its w.length).flatMap fun w => its.map fun i => i :: w
    rw [List.mem_flatMap]
    exact ⟨w, words_mem fun j hj => h j (List.mem_cons_of_mem _ hj), List.mem_map.mpr ⟨i, h i List.mem_cons_self, rfl⟩⟩
end K00
end
section
set_option Elab.async false
set_option linter.all false
set_option maxRecDepth 100000
set_option maxHeartbeats 2000000
/-! K00Q: subsets; values; the row drawn last. -/
namespace K00
open MP PySem
theorem vals_ok (a : Int) (n : Nat) (hn : n < 7) : runB 25 1 [(2, .sh (.int a)), (10, .sh (.int (n : Nat)))] = true := by
  rcases n with _ | _ | _ | _ | _ | _ | _ | n
  · kernel_rfl
  · kernel_rfl
  · kernel_rfl
  · kernel_rfl
  · kernel_rfl
  · kernel_rfl
  · kernel_rfl
  · omega
def cmb : Nat → List Int → List (List Int)
  | 0, _ => [[]]
  | _ + 1, [] => []
  | k + 1, x :: r => (cmb k r).map (x :: ·) ++ cmb (k + 1) r
def subsL (xs : List Int) : List (List Int) := (List.range (xs.length + 1)).flatMap fun k => cmb k xs
def subsD (xs : List Int) : List MP.D := (subsL xs).map fun l => .tup (l.map .int)
theorem cmb_len : ∀ (k : Nat) (xs : List Int), ∀ l ∈ cmb k xs, l.length ≤ xs.length
  | 0, xs, l, h => by simp [cmb] at h; subst h; simp
  | k + 1, [], l, h => by simp [cmb] at h
  | k + 1, x :: r, l, h => by
    unfold cmb at h
    rcases List.mem_append.mp h with h | h
    · obtain ⟨m, hm, rfl⟩ := List.mem_map.mp h
      have := cmb_len k r m hm
      simp; omega
    · have := cmb_len (k + 1) r l h
      simp; omega
theorem it_seg (xs : List Int) (h : xs.length ≤ 4) : exsL ((ir_law.body.drop 11).take 3) (mkE 30 [(12, .sh (.tup (xs.map .int)))]) = .ok (.nx, [.un, .un, .un, .un, .un, .un, .un, .un, .un, .un, .un, .ow (.lst (subsD xs)), .sh (.tup (xs.map .int)), .un, .ow (.lst (subsD xs)), .sh (.int xs.length), .un, .un, .un, .un, .un, .un, .un, .un, .un, .un, .un, .un, .un, .un]) := by
  match xs, h with
  | [], _ => kernel_rfl
  | [_], _ => kernel_rfl
  | [_, _], _ => kernel_rfl
  | [_, _, _], _ => kernel_rfl
  | [_, _, _, _], _ => kernel_rfl
  | _ :: _ :: _ :: _ :: _ :: _, h => simp at h
theorem subs_small (xs : List Int) (h : xs.length ≤ 4) : (subsD xs).length ≤ 1000 := by
  match xs, h with
  | [], _ => decide
  | [_], _ => simp [subsD, subsL, cmb, List.range_succ]
  | [_, _], _ => simp [subsD, subsL, cmb, List.range_succ]
  | [_, _, _], _ => simp [subsD, subsL, cmb, List.range_succ]
  | [_, _, _, _], _ => simp [subsD, subsL, cmb, List.range_succ]
  | _ :: _ :: _ :: _ :: _ :: _, h => simp at h
theorem it_check (xs : List Int) (h : xs.length ≤ 4) : exL (.ite (.or (.not (.blt .isi (.cons (.var 11) (.cons (.ty "list") .nil)))) (.not (.call "_law_same" (.cons (.blt .tuple (.cons (.var 11) .nil)) (.cons (.blt .tuple (.cons (.var 14) .nil)) .nil))))) (.cons (.ret (.bl false)) .nil) .nil) [.un, .un, .un, .un, .un, .un, .un, .un, .un, .un, .un, .ow (.lst (subsD xs)), .sh (.tup (xs.map .int)), .un, .ow (.lst (subsD xs)), .sh (.int xs.length), .un, .un, .un, .un, .un, .un, .un, .un, .un, .un, .un, .un, .un, .un] = .ok (.nx, [.un, .un, .un, .un, .un, .un, .un, .un, .un, .un, .un, .ow (.lst (subsD xs)), .sh (.tup (xs.map .int)), .un, .ow (.lst (subsD xs)), .sh (.int xs.length), .un, .un, .un, .un, .un, .un, .un, .un, .un, .un, .un, .un, .un, .un]) := by
  have hs : cfL 28 "_law_same" [.tup (subsD xs), .tup (subsD xs)] = _ := same_refl 27 (subsD xs) (subs_small xs h) fun d hd => by
    obtain ⟨l, hl, rfl⟩ := List.mem_map.mp hd
    obtain ⟨k, _, hk⟩ := List.mem_flatMap.mp hl
    exact same_ints 24 l (by have := cmb_len k xs l hk; omega)
  show MP.exec [] ioL (cfL 28) 1000000 _ _ = _
  simp [startE, ev_var, rd_sh, rd_ow, rd_lk, ev_int, ev_bl, ev_non, ev_str, ev_gl, ev_ty, ev_bin, ev_neg, ev_cmp, ev_chain, ev_not, ev_and, ev_or, ev_ite, ev_tup, ev_lst, ev_ix, ev_sl, ev_call, ev_blt, ev_pm, evs_nil, evs_cons, evO_no, evO_yes, evC_no, evC_yes, evI_seq, evI_zip, asg_nm, asg_tup, asgs_nil, asgs_cons, tlen_nil, tlen_cons, ex_asg, ex_ret, ex_ite, ex_expr, exs_nil, exs_cons, bind_k, bind_bad, strict_k, derefs_nil, derefs_cons, deref_val, deref_own, slot_sh, slot_ow, slot_lk, arg_val, arg_fr, arg_own, testR_k, store_v, store_f, store_o, io_0, io_f, io_ff, io_fff, io_ffff, MP.finish, outsOf, frz_nil, frz_val, frz_own, frz1_val, frz1_own, toSh_ow, toSh_lk, toSh_sh, lockable_nil, lockable_val, lockable_own, isOw_ow, isOw_sh, isOw_lk, isOw_un, opt1_k, callGo_k, ioSlots_t, ioSlots_f, ioSlots_n, nonIo_t, nonIo_f, nonIo_n, setOuts_c, setOuts_n, len_tup, len_lst, len_fz, len_tf, list_tup, list_lst, list_tf, tuple_tup, tuple_lst, tuple_tf, tupleF_lst, int_int, int_bl, isi_int, isi_bl, isi_tup, isi_tf, isi_lst, isi_str, isi_non, ty_bool_bool, ty_bool_int, ty_bool_str, ty_bool_tuple, ty_bool_list, ty_bool_dict, ty_int_bool, ty_int_int, ty_int_str, ty_int_tuple, ty_int_list, ty_int_dict, ty_str_bool, ty_str_int, ty_str_str, ty_str_tuple, ty_str_list, ty_str_dict, ty_tuple_bool, ty_tuple_int, ty_tuple_str, ty_tuple_tuple, ty_tuple_list, ty_tuple_dict, ty_list_bool, ty_list_int, ty_list_str, ty_list_tuple, ty_list_list, ty_list_dict, ty_NoneType_bool, ty_NoneType_int, ty_NoneType_str, ty_NoneType_tuple, ty_NoneType_list, ty_NoneType_dict, ty_dict_bool, ty_dict_int, ty_dict_str, ty_dict_tuple, ty_dict_list, ty_dict_dict, isN_int, omap_some, obind_some, oany_some, get_z, get_s, isN_tup, isN_non, cmp_lt, cmp_le, cmp_gt, cmp_ge, cmp_eq, cmp_ne, bin_add, bin_sub, bin_mod, bin_mul, bin_fdiv, bin_cat, bin_catL, ix_tup, ix_lst, ix_tf, small_0, small_1, small_2, small_3, hs, io_same]
theorem it_ok (xs : List Int) (h : xs.length ≤ 4) : exsL ((ir_law.body.drop 11).take 4) (mkE 30 [(12, .sh (.tup (xs.map .int)))]) = .ok (.nx, [.un, .un, .un, .un, .un, .un, .un, .un, .un, .un, .un, .ow (.lst (subsD xs)), .sh (.tup (xs.map .int)), .un, .ow (.lst (subsD xs)), .sh (.int xs.length), .un, .un, .un, .un, .un, .un, .un, .un, .un, .un, .un, .un, .un, .un]) := by
  have h1 := it_seg xs h
  have h2 := drop_take (ss := (ir_law.body.drop 11).take 4) (m := 3) h1
  refine h2.trans ?_
  exact exs_step (it_check xs h) exs_nil
theorem io_row : ioL "_law_row" = [true, false] := by decide +kernel
def lowOf (x y z : Int) (q : Nat) : List Int := [x, y, z] ++ List.replicate q 0
theorem rowf_ok (s0 s1 : Int) : ∃ (t0 t1 : Int) (vs : List Int), vs.length = 3 ∧ cfL 28 "_law_row" [.lst [.int s0, .int s1], .int 3] = .ok (.tup (vs.map .int), false, [.lst [.int t0, .int t1]]) := by
  have hI : MP.evI [0] ioL (cfL 27) (.rng1 (.var 1)) [.ow (.lst [.int s0, .int s1]), .sh (.int 3), .un] = .ok ((rngI 3, []), [.ow (.lst [.int s0, .int s1]), .sh (.int 3), .un]) := evI_rngN (n := 3) (by simp [startE, ev_var, rd_sh, rd_ow, rd_lk, ev_int, ev_bl, ev_non, ev_str, ev_gl, ev_ty, ev_bin, ev_neg, ev_cmp, ev_chain, ev_not, ev_and, ev_or, ev_ite, ev_tup, ev_lst, ev_ix, ev_sl, ev_call, ev_blt, ev_pm, evs_nil, evs_cons, evO_no, evO_yes, evC_no, evC_yes, evI_seq, evI_zip, asg_nm, asg_tup, asgs_nil, asgs_cons, tlen_nil, tlen_cons, ex_asg, ex_ret, ex_ite, ex_expr, exs_nil, exs_cons, bind_k, bind_bad, strict_k, derefs_nil, derefs_cons, deref_val, deref_own, slot_sh, slot_ow, slot_lk, arg_val, arg_fr, arg_own, testR_k, store_v, store_f, store_o, io_0, io_f, io_ff, io_fff, io_ffff, MP.finish, outsOf, frz_nil, frz_val, frz_own, frz1_val, frz1_own, toSh_ow, toSh_lk, toSh_sh, lockable_nil, lockable_val, lockable_own, isOw_ow, isOw_sh, isOw_lk, isOw_un, opt1_k, callGo_k, ioSlots_t, ioSlots_f, ioSlots_n, nonIo_t, nonIo_f, nonIo_n, setOuts_c, setOuts_n, len_tup, len_lst, len_fz, len_tf, list_tup, list_lst, list_tf, tuple_tup, tuple_lst, tuple_tf, tupleF_lst, int_int, int_bl, isi_int, isi_bl, isi_tup, isi_tf, isi_lst, isi_str, isi_non, ty_bool_bool, ty_bool_int, ty_bool_str, ty_bool_tuple, ty_bool_list, ty_bool_dict, ty_int_bool, ty_int_int, ty_int_str, ty_int_tuple, ty_int_list, ty_int_dict, ty_str_bool, ty_str_int, ty_str_str, ty_str_tuple, ty_str_list, ty_str_dict, ty_tuple_bool, ty_tuple_int, ty_tuple_str, ty_tuple_tuple, ty_tuple_list, ty_tuple_dict, ty_list_bool, ty_list_int, ty_list_str, ty_list_tuple, ty_list_list, ty_list_dict, ty_NoneType_bool, ty_NoneType_int, ty_NoneType_str, ty_NoneType_tuple, ty_NoneType_list, ty_NoneType_dict, ty_dict_bool, ty_dict_int, ty_dict_str, ty_dict_tuple, ty_dict_list, ty_dict_dict, isN_int, omap_some, obind_some, oany_some, get_z, get_s, isN_tup, isN_non, cmp_lt, cmp_le, cmp_gt, cmp_ge, cmp_eq, cmp_ne, bin_add, bin_sub, bin_mod, bin_mul, bin_fdiv, bin_cat, bin_catL, ix_tup, ix_lst, ix_tf, small_0, small_1, small_2, small_3]) (by omega)
  obtain ⟨res, env', e1, t0, t1, s7, vs, rfl, rfl, hl⟩ := comp_ix (k := 0) (f := fun x env1 => (MP.asg [0] ioL (cfL 27) (.nm 2) (.val x) (wipeE env1 [2])).bind fun env2 => (MP.evC [0] ioL (cfL 27) .no env2).bind fun q => if q.1 then (MP.ev [0] ioL (cfL 27) (.call "_law_number" (.cons (.var 0) .nil)) q.2).bind opt1 else .ok (none, q.2))
    (fun n acc env => ∃ (t0 t1 : Int) (s7 : MP.Slot) (vs : List Int), env = [.ow (.lst [.int t0, .int t1]), .sh (.int 3), s7] ∧ acc = vs.map .int ∧ vs.length = n) (l := rngI 3) (acc := []) (env := [.ow (.lst [.int s0, .int s1]), .sh (.int 3), .un]) (by rw [rngI_len]; decide) ⟨s0, s1, .un, [], rfl, rfl, rfl⟩ (fun i x acc env hx ⟨t0, t1, s7, vs, e, e2, el⟩ => by
    subst e; subst e2
    obtain ⟨v, w0, w1, v1, v2, hn⟩ := number_ok 25 t0 t1
    have hn' : cfL 27 "_law_number" [.lst [.int t0, .int t1]] = _ := hn
    refine ⟨some (.int v), [.ow (.lst [.int w0, .int w1]), .sh (.int 3), .sh x], ?_, w0, w1, .sh x, vs ++ [v], rfl, by simp, by simp [el]⟩
    simp [startE, ev_var, rd_sh, rd_ow, rd_lk, ev_int, ev_bl, ev_non, ev_str, ev_gl, ev_ty, ev_bin, ev_neg, ev_cmp, ev_chain, ev_not, ev_and, ev_or, ev_ite, ev_tup, ev_lst, ev_ix, ev_sl, ev_call, ev_blt, ev_pm, evs_nil, evs_cons, evO_no, evO_yes, evC_no, evC_yes, evI_seq, evI_zip, asg_nm, asg_tup, asgs_nil, asgs_cons, tlen_nil, tlen_cons, ex_asg, ex_ret, ex_ite, ex_expr, exs_nil, exs_cons, bind_k, bind_bad, strict_k, derefs_nil, derefs_cons, deref_val, deref_own, slot_sh, slot_ow, slot_lk, arg_val, arg_fr, arg_own, testR_k, store_v, store_f, store_o, io_0, io_f, io_ff, io_fff, io_ffff, MP.finish, outsOf, frz_nil, frz_val, frz_own, frz1_val, frz1_own, toSh_ow, toSh_lk, toSh_sh, lockable_nil, lockable_val, lockable_own, isOw_ow, isOw_sh, isOw_lk, isOw_un, opt1_k, callGo_k, ioSlots_t, ioSlots_f, ioSlots_n, nonIo_t, nonIo_f, nonIo_n, setOuts_c, setOuts_n, len_tup, len_lst, len_fz, len_tf, list_tup, list_lst, list_tf, tuple_tup, tuple_lst, tuple_tf, tupleF_lst, int_int, int_bl, isi_int, isi_bl, isi_tup, isi_tf, isi_lst, isi_str, isi_non, ty_bool_bool, ty_bool_int, ty_bool_str, ty_bool_tuple, ty_bool_list, ty_bool_dict, ty_int_bool, ty_int_int, ty_int_str, ty_int_tuple, ty_int_list, ty_int_dict, ty_str_bool, ty_str_int, ty_str_str, ty_str_tuple, ty_str_list, ty_str_dict, ty_tuple_bool, ty_tuple_int, ty_tuple_str, ty_tuple_tuple, ty_tuple_list, ty_tuple_dict, ty_list_bool, ty_list_int, ty_list_str, ty_list_tuple, ty_list_list, ty_list_dict, ty_NoneType_bool, ty_NoneType_int, ty_NoneType_str, ty_NoneType_tuple, ty_NoneType_list, ty_NoneType_dict, ty_dict_bool, ty_dict_int, ty_dict_str, ty_dict_tuple, ty_dict_list, ty_dict_dict, isN_int, omap_some, obind_some, oany_some, get_z, get_s, isN_tup, isN_non, cmp_lt, cmp_le, cmp_gt, cmp_ge, cmp_eq, cmp_ne, bin_add, bin_sub, bin_mod, bin_mul, bin_fdiv, bin_cat, bin_catL, ix_tup, ix_lst, ix_tf, small_0, small_1, small_2, small_3, wipeE, io_number, hn'])
  rw [Nat.zero_add, rngI_len] at hl
  refine ⟨t0, t1, vs, hl, ?_⟩
  rw [cfL_eq (f := ir_law_row) rfl rfl]
  have hc : MP.ev [0] ioL (cfL 27) (.comp (.call "_law_number" (.cons (.var 0) .nil)) (.nm 2) (.rng1 (.var 1)) .no [2]) [.ow (.lst [.int s0, .int s1]), .sh (.int 3), .un] = .ok (.fr (.lst (vs.map .int)), [.ow (.lst [.int t0, .int t1]), .sh (.int 3), .un]) := by
    rw [ev_comp (lks := []) hI rfl e1]
    rfl
  simp [ir_law_row, startE, ev_var, rd_sh, rd_ow, rd_lk, ev_int, ev_bl, ev_non, ev_str, ev_gl, ev_ty, ev_bin, ev_neg, ev_cmp, ev_chain, ev_not, ev_and, ev_or, ev_ite, ev_tup, ev_lst, ev_ix, ev_sl, ev_call, ev_blt, ev_pm, evs_nil, evs_cons, evO_no, evO_yes, evC_no, evC_yes, evI_seq, evI_zip, asg_nm, asg_tup, asgs_nil, asgs_cons, tlen_nil, tlen_cons, ex_asg, ex_ret, ex_ite, ex_expr, exs_nil, exs_cons, bind_k, bind_bad, strict_k, derefs_nil, derefs_cons, deref_val, deref_own, slot_sh, slot_ow, slot_lk, arg_val, arg_fr, arg_own, testR_k, store_v, store_f, store_o, io_0, io_f, io_ff, io_fff, io_ffff, MP.finish, outsOf, frz_nil, frz_val, frz_own, frz1_val, frz1_own, toSh_ow, toSh_lk, toSh_sh, lockable_nil, lockable_val, lockable_own, isOw_ow, isOw_sh, isOw_lk, isOw_un, opt1_k, callGo_k, ioSlots_t, ioSlots_f, ioSlots_n, nonIo_t, nonIo_f, nonIo_n, setOuts_c, setOuts_n, len_tup, len_lst, len_fz, len_tf, list_tup, list_lst, list_tf, tuple_tup, tuple_lst, tuple_tf, tupleF_lst, int_int, int_bl, isi_int, isi_bl, isi_tup, isi_tf, isi_lst, isi_str, isi_non, ty_bool_bool, ty_bool_int, ty_bool_str, ty_bool_tuple, ty_bool_list, ty_bool_dict, ty_int_bool, ty_int_int, ty_int_str, ty_int_tuple, ty_int_list, ty_int_dict, ty_str_bool, ty_str_int, ty_str_str, ty_str_tuple, ty_str_list, ty_str_dict, ty_tuple_bool, ty_tuple_int, ty_tuple_str, ty_tuple_tuple, ty_tuple_list, ty_tuple_dict, ty_list_bool, ty_list_int, ty_list_str, ty_list_tuple, ty_list_list, ty_list_dict, ty_NoneType_bool, ty_NoneType_int, ty_NoneType_str, ty_NoneType_tuple, ty_NoneType_list, ty_NoneType_dict, ty_dict_bool, ty_dict_int, ty_dict_str, ty_dict_tuple, ty_dict_list, ty_dict_dict, isN_int, omap_some, obind_some, oany_some, get_z, get_s, isN_tup, isN_non, cmp_lt, cmp_le, cmp_gt, cmp_ge, cmp_eq, cmp_ne, bin_add, bin_sub, bin_mod, bin_mul, bin_fdiv, bin_cat, bin_catL, ix_tup, ix_lst, ix_tf, small_0, small_1, small_2, small_3, io_tf, hc, outs_t, outs_f, outs_n]
theorem low_draw (s0 s1 : Int) : ∃ (t0 t1 : Int) (vs : List Int), exL (.asg (.nm 23) (.bin .add (.call "_law_row" (.cons (.var 1) (.cons (.int 3) .nil))) (.bin .mul (.tup (.cons (.int 0) .nil)) (.call "_law_take" (.cons (.var 1) (.cons (.int 4) .nil))))))
    [.un, .ow (.lst [.int s0, .int s1]), .un, .un, .un, .un, .un, .un, .un, .un, .un, .un, .un, .un, .un, .un, .un, .un, .un, .un, .un, .un, .un, .un, .un, .un, .un, .un, .un, .un] = .ok (.nx, [.un, .ow (.lst [.int t0, .int t1]), .un, .un, .un, .un, .un, .un, .un, .un, .un, .un, .un, .un, .un, .un, .un, .un, .un, .un, .un, .un, .un, .sh (.tup (vs.map .int)), .un, .un, .un, .un, .un, .un]) ∧ vs.length ≤ 10 := by
  obtain ⟨u0, u1, vs, hl, hr⟩ := rowf_ok s0 s1
  obtain ⟨q, t0, t1, q1, q2, hq⟩ := take_ok 27 u0 u1 4 (by omega) (by omega)
  have hq' : cfL 28 "_law_take" [.lst [.int u0, .int u1], .int 4] = _ := hq
  have hm : binD .mul (.tup [.int 0]) (.int q) = some (.val (.tup ((List.replicate q.toNat (0 : Int)).map .int))) := by
    have : q = 0 ∨ q = 1 ∨ q = 2 ∨ q = 3 := by omega
    rcases this with rfl | rfl | rfl | rfl <;> rfl
  refine ⟨t0, t1, vs ++ List.replicate q.toNat 0, ?_, by simp; omega⟩
  have hs : small ((vs.map MP.D.int).length + ((List.replicate q.toNat (0 : Int)).map MP.D.int).length) = true := small_le (by simp; omega)
  generalize List.replicate q.toNat (0 : Int) = Z at hm hs ⊢
  rw [List.map_append]
  simp only [List.length_map] at hs
  show MP.exec [] ioL (cfL 28) 1000000 _ _ = _
  simp [startE, ev_var, rd_sh, rd_ow, rd_lk, ev_int, ev_bl, ev_non, ev_str, ev_gl, ev_ty, ev_bin, ev_neg, ev_cmp, ev_chain, ev_not, ev_and, ev_or, ev_ite, ev_tup, ev_lst, ev_ix, ev_sl, ev_call, ev_blt, ev_pm, evs_nil, evs_cons, evO_no, evO_yes, evC_no, evC_yes, evI_seq, evI_zip, asg_nm, asg_tup, asgs_nil, asgs_cons, tlen_nil, tlen_cons, ex_asg, ex_ret, ex_ite, ex_expr, exs_nil, exs_cons, bind_k, bind_bad, strict_k, derefs_nil, derefs_cons, deref_val, deref_own, slot_sh, slot_ow, slot_lk, arg_val, arg_fr, arg_own, testR_k, store_v, store_f, store_o, io_0, io_f, io_ff, io_fff, io_ffff, MP.finish, outsOf, frz_nil, frz_val, frz_own, frz1_val, frz1_own, toSh_ow, toSh_lk, toSh_sh, lockable_nil, lockable_val, lockable_own, isOw_ow, isOw_sh, isOw_lk, isOw_un, opt1_k, callGo_k, ioSlots_t, ioSlots_f, ioSlots_n, nonIo_t, nonIo_f, nonIo_n, setOuts_c, setOuts_n, len_tup, len_lst, len_fz, len_tf, list_tup, list_lst, list_tf, tuple_tup, tuple_lst, tuple_tf, tupleF_lst, int_int, int_bl, isi_int, isi_bl, isi_tup, isi_tf, isi_lst, isi_str, isi_non, ty_bool_bool, ty_bool_int, ty_bool_str, ty_bool_tuple, ty_bool_list, ty_bool_dict, ty_int_bool, ty_int_int, ty_int_str, ty_int_tuple, ty_int_list, ty_int_dict, ty_str_bool, ty_str_int, ty_str_str, ty_str_tuple, ty_str_list, ty_str_dict, ty_tuple_bool, ty_tuple_int, ty_tuple_str, ty_tuple_tuple, ty_tuple_list, ty_tuple_dict, ty_list_bool, ty_list_int, ty_list_str, ty_list_tuple, ty_list_list, ty_list_dict, ty_NoneType_bool, ty_NoneType_int, ty_NoneType_str, ty_NoneType_tuple, ty_NoneType_list, ty_NoneType_dict, ty_dict_bool, ty_dict_int, ty_dict_str, ty_dict_tuple, ty_dict_list, ty_dict_dict, isN_int, omap_some, obind_some, oany_some, get_z, get_s, isN_tup, isN_non, cmp_lt, cmp_le, cmp_gt, cmp_ge, cmp_eq, cmp_ne, bin_add, bin_sub, bin_mod, bin_mul, bin_fdiv, bin_cat, bin_catL, ix_tup, ix_lst, ix_tf, small_0, small_1, small_2, small_3, io_row, io_take, hr, hq', hm, hs]
end K00
end
section
set_option Elab.async false
set_option linter.all false
set_option maxRecDepth 100000
set_option maxHeartbeats 2000000
/-! K00M: the law gives True. -/
namespace K00
open MP PySem
theorem law_mem : r_law ∈ rows := by simp [rows, rows_0]
theorem line_nil : ∀ k < 8, runB 19 3 [(7, .sh (.int (k : Nat))), (18, .sh (.tf []))] = true := by decide +kernel
abbrev go (j : Nat) (b : MP.Env) := exsL (ir_law.body.drop j) b
/-- a segment, as the chain needs it -/
theorem step {b a' : MP.Env} {j m : Nat} {l : List (Nat × MP.Slot)} (hb : EOk BB 30 b) (hl : Facts b l) (hav : avSs BB ((ir_law.body.drop j).take m) = true) (h : exsL ((ir_law.body.drop j).take m) (mkE 30 l) = .ok (.nx, a')) (hp : plainOut BB a' = true) :
    ∃ b', go j b = go (j + m) b' ∧ EOk BB 30 b' ∧ (∀ (i : Nat) (s : MP.Slot), a'[i]? = some s → isUn s = false → b'[i]? = some s) ∧ ∀ i : Nat, nocSs i ((ir_law.body.drop j).take m) = true → b'[i]? = b[i]? := segK hb hl hav h hp
theorem stepD {b : MP.Env} {j m : Nat} {l : List (Nat × MP.Slot)} (hb : EOk BB 30 b) (hl : Facts b l) (hav : avSs BB ((ir_law.body.drop j).take m) = true) (h : runB j m l = true) :
    ∃ b', go j b = go (j + m) b' ∧ EOk BB 30 b' ∧ ∀ i : Nat, nocSs i ((ir_law.body.drop j).take m) = true → b'[i]? = b[i]? := segD hb hl hav h
theorem f1 {b : MP.Env} {i : Nat} {s : MP.Slot} (h : b[i]? = some s) : Facts b [(i, s)] := fun p hp => by
  rw [List.mem_singleton] at hp
  subst hp; exact h
theorem f2 {b : MP.Env} {i j : Nat} {s t : MP.Slot} (h : b[i]? = some s) (h2 : b[j]? = some t) : Facts b [(i, s), (j, t)] := fun p hp => by
  rcases List.mem_cons.mp hp with rfl | hp
  · exact h
  · rw [List.mem_singleton] at hp
    subst hp; exact h2
theorem law_true (ns : List Int) (hl : ns.length ≤ 63) : callF (tabOf rows) 1000000 29 "law" [.fz (ns.map .int)] = .ok (.bl true, false, []) := by
  have e0 : mkE 30 [(0, .sh (.fz (ns.map .int)))] = startE [false] [.fz (ns.map .int)] 30 := rfl
  have hb0 : EOk BB 30 (mkE 30 [(0, .sh (.fz (ns.map .int)))]) := ⟨rfl, fun i hi _ => by
    have : ∀ i < 30, ((mkE 30 [(0, .sh (.fz (ns.map .int)))])[i]?).any plain = true := by
      intro i hi
      match i, hi with
      | 0, _ => rfl
      | i + 1, hi =>
        have e : mkE 30 [(0, .sh (.fz (ns.map .int)))] = .sh (.fz (ns.map .int)) :: List.replicate 29 .un := rfl
        rw [e, List.getElem?_cons_succ, List.getElem?_replicate, if_pos (by omega)]
        rfl
    exact this i hi⟩
  -- 0: the state
  obtain ⟨t0, t1, h⟩ := state_draw ns
  obtain ⟨b1, e1, k1, g, _⟩ := step (j := 0) (m := 1) hb0 (f1 (i := 0) rfl) (by decide +kernel) (exs_step h exs_nil) rfl
  have s1 := g 1 _ rfl rfl
  -- 1: a, b
  obtain ⟨t0, t1, a, b, h, ha, hb⟩ := ab_draw t0 t1
  obtain ⟨b2, e2, k2, g, _⟩ := step (j := 1) (m := 1) k1 (f1 s1) (by decide +kernel) (exs_step h exs_nil) rfl
  have s1 := g 1 _ rfl rfl
  have s2 := g 2 _ rfl rfl
  have s3 := g 3 _ rfl rfl
  -- 2, 3: the common divisor
  obtain ⟨b3, e3, k3, g, p⟩ := step (j := 2) (m := 2) k2 (f2 s2 s3) (by decide +kernel) (exs_step (both_ok a b ha hb) (exs_step (check_ok a b ha hb .un) exs_nil)) rfl
  have s1 := (p 1 (by decide +kernel)).trans s1
  have s2 := g 2 _ rfl rfl
  -- 4: the row
  obtain ⟨t0, t1, vs, h, hv, hv2⟩ := row_draw t0 t1
  obtain ⟨b4, e4, k4, g, p⟩ := step (j := 4) (m := 1) k3 (f1 s1) (by decide +kernel) (exs_step h exs_nil) rfl
  have s1 := g 1 _ rfl rfl
  have s6 := g 6 _ rfl rfl
  have s2 := (p 2 (by decide +kernel)).trans s2
  -- 5, 6: its common divisor
  have hr : ∀ c ∈ vs, c.natAbs ≤ 39 := fun c hc => by
    have := hv2 c hc
    simp [rowIts] at this
    omega
  obtain ⟨b5, e5, k5, _, p⟩ := step (j := 5) (m := 2) k4 (f1 s6) (by decide +kernel) (exs_step (shares_ok vs (by omega)) (exs_step (row_ok vs (by omega) hr) exs_nil)) rfl
  have s1 := (p 1 (by decide +kernel)).trans s1
  have s2 := (p 2 (by decide +kernel)).trans s2
  -- 7: n, k
  obtain ⟨t0, t1, n, k, h, hn, hk⟩ := nk_draw t0 t1
  obtain ⟨b6, e6, k6, g, p⟩ := step (j := 7) (m := 1) k5 (f1 s1) (by decide +kernel) (exs_step h exs_nil) rfl
  have s1 := g 1 _ rfl rfl
  have s10 := g 10 _ rfl rfl
  have s7 := g 7 _ rfl rfl
  have s2 := (p 2 (by decide +kernel)).trans s2
  -- 8, 9: the choices
  have hnk := nk_ok n.toNat (by omega) k.toNat (by omega)
  rw [show ((n.toNat : Nat) : Int) = n by omega, show ((k.toNat : Nat) : Int) = k by omega] at hnk
  obtain ⟨a7, hr7, hp7, hg7⟩ := runE_ok hnk
  obtain ⟨b7, e7, k7, g, p⟩ := step (j := 8) (m := 2) k6 (f2 s10 s7) (by decide +kernel) hr7 hp7
  have g10 := hg7 _ List.mem_cons_self
  have g7 := hg7 _ (List.mem_cons_of_mem _ List.mem_cons_self)
  have s1 := (p 1 (by decide +kernel)).trans s1
  have s2 := (p 2 (by decide +kernel)).trans s2
  have s10 := g 10 _ g10.1 g10.2
  have s7 := g 7 _ g7.1 g7.2
  -- 10: the items
  obtain ⟨t0, t1, us, h, hu, _⟩ := items_draw t0 t1
  obtain ⟨b8, e8, k8, g, p⟩ := step (j := 10) (m := 1) k7 (f1 s1) (by decide +kernel) (exs_step h exs_nil) rfl
  have s1 := g 1 _ rfl rfl
  have s12 := g 12 _ rfl rfl
  have s2 := (p 2 (by decide +kernel)).trans s2
  have s10 := (p 10 (by decide +kernel)).trans s10
  have s7 := (p 7 (by decide +kernel)).trans s7
  -- 11 to 14: the subsets
  have hit : (itemsOf us).length ≤ 4 := by
    unfold itemsOf
    rw [(sortI_perm _).length_eq, List.length_mapIdx]
    exact hu
  obtain ⟨b9, e9, k9, _, p⟩ := step (j := 11) (m := 4) k8 (f1 s12) (by decide +kernel) (it_ok _ hit) rfl
  have s1 := (p 1 (by decide +kernel)).trans s1
  have s2 := (p 2 (by decide +kernel)).trans s2
  have s10 := (p 10 (by decide +kernel)).trans s10
  have s7 := (p 7 (by decide +kernel)).trans s7
  -- 15: m
  obtain ⟨t0, t1, m, h, m1, m2⟩ := m_draw t0 t1
  obtain ⟨b10, e10, k10, g, p⟩ := step (j := 15) (m := 1) k9 (f1 s1) (by decide +kernel) (exs_step h exs_nil) rfl
  have s1 := g 1 _ rfl rfl
  have s17 := g 17 _ rfl rfl
  have s2 := (p 2 (by decide +kernel)).trans s2
  have s10 := (p 10 (by decide +kernel)).trans s10
  have s7 := (p 7 (by decide +kernel)).trans s7
  -- 16, 17: the orders
  have hm := m_ok m.toNat (by omega)
  rw [show ((m.toNat : Nat) : Int) = m by omega] at hm
  obtain ⟨b11, e11, k11, p⟩ := stepD (j := 16) (m := 2) k10 (f1 s17) (by decide +kernel) hm
  have s1 := (p 1 (by decide +kernel)).trans s1
  have s2 := (p 2 (by decide +kernel)).trans s2
  have s10 := (p 10 (by decide +kernel)).trans s10
  have s7 := (p 7 (by decide +kernel)).trans s7
  -- 18: the line
  obtain ⟨t0, t1, ws, h, hw, _⟩ := line_draw t0 t1
  obtain ⟨b12, e12, k12, g, p⟩ := step (j := 18) (m := 1) k11 (f1 s1) (by decide +kernel) (exs_step h exs_nil) rfl
  have s1 := g 1 _ rfl rfl
  have s18 := g 18 _ rfl rfl
  have s2 := (p 2 (by decide +kernel)).trans s2
  have s10 := (p 10 (by decide +kernel)).trans s10
  have s7 := (p 7 (by decide +kernel)).trans s7
  -- 19 to 21: its order
  obtain ⟨b13, e13, k13, p⟩ : ∃ b', go 19 b12 = go (19 + 3) b' ∧ EOk BB 30 b' ∧ ∀ i : Nat, nocSs i ((ir_law.body.drop 19).take 3) = true → b'[i]? = b12[i]? := by
    by_cases hw0 : ws = []
    · subst hw0
      have hz := line_nil k.toNat (by omega)
      rw [show ((k.toNat : Nat) : Int) = k by omega] at hz
      exact stepD (j := 19) (m := 3) k12 (f2 s7 s18) (by decide +kernel) hz
    · obtain ⟨b', e, kk, _, p⟩ := step (j := 19) (m := 3) k12 (f2 s7 s18) (by decide +kernel) (exs_step (falls_ok ws (by omega) _) (exs_step (sign_ok ws (by omega) _) (exs_step (line_ok ws (by omega) hw0 k) exs_nil))) rfl
      exact ⟨b', e, kk, p⟩
  have s1 := (p 1 (by decide +kernel)).trans s1
  have s2 := (p 2 (by decide +kernel)).trans s2
  have s10 := (p 10 (by decide +kernel)).trans s10
  -- 22: the row with zeros at its end
  obtain ⟨t0, t1, xs, h, hx⟩ := low_draw t0 t1
  obtain ⟨b14, e14, k14, g, p⟩ := step (j := 22) (m := 1) k13 (f1 s1) (by decide +kernel) (exs_step h exs_nil) rfl
  have s23 := g 23 _ rfl rfl
  have s2 := (p 2 (by decide +kernel)).trans s2
  have s10 := (p 10 (by decide +kernel)).trans s10
  -- 23, 24: trimmed
  obtain ⟨b15, e15, k15, _, p⟩ := step (j := 23) (m := 2) k14 (f1 s23) (by decide +kernel) (exs_step (last_ok xs (by omega)) (exs_step (low_ok xs (by omega)) exs_nil)) rfl
  have s2 := (p 2 (by decide +kernel)).trans s2
  have s10 := (p 10 (by decide +kernel)).trans s10
  -- 25: the values
  have hva := vals_ok a n.toNat (by omega)
  rw [show ((n.toNat : Nat) : Int) = n by omega] at hva
  obtain ⟨b16, e16, k16, _⟩ := stepD (j := 25) (m := 1) k15 (f2 s2 s10) (by decide +kernel) hva
  -- all
  have hall : exsL ir_law.body (startE [false] [.fz (ns.map .int)] 30) = .ok (.ret (.val (.bl true)), b16) := by
    have z0 : exsL ir_law.body (startE [false] [.fz (ns.map .int)] 30) = go 0 (mkE 30 [(0, .sh (.fz (ns.map .int)))]) := rfl
    rw [z0, e1, e2, e3, e4, e5, e6, e7, e8, e9, e10, e11, e12, e13, e14, e15, e16]
    exact exs_ret (by rw [ex_ret, ev_bl, bind_k])
  have : cfL 29 "law" [.fz (ns.map .int)] = .ok (.bl true, false, []) := by
    rw [cfL_eq (k := 28) (f := ir_law) rfl rfl]
    show MP.finish [false] (exsL ir_law.body (startE [false] [.fz (ns.map .int)] 30)) = _
    rw [hall]
    exact fin_val rfl
  exact this
end K00
end
set_option Elab.async false
set_option linter.all false
set_option maxRecDepth 100000
set_option maxHeartbeats 0
/-! K00Z: the law holds. -/
open PySem PySem.W PySem.Calls PyProof.Rows
theorem PySem.Challenge.cw_sheafroads_k00_whole_integers_and_choice_holds : PySem.Challenge.rw_sheafroads_k00_whole_integers_and_choice.Holds := by
  w_on; o_law
  refine HandSHeadRun.head_any (r := OpenLaw.row PySem.Challenge.rw_sheafroads_k00_whole_integers_and_choice) (q := view (OpenLaw.row PySem.Challenge.rw_sheafroads_k00_whole_integers_and_choice).prog [K00.lawAt]) (H := K00.hk) (ob := K00.ob) (M := 1000) (loose := K00.topNames) (d := HandSHeadRun.topDef (OpenLaw.row PySem.Challenge.rw_sheafroads_k00_whole_integers_and_choice).prog K00.lawAt) (kwd := []) K00.ob_eq
    (by kernel_rfl) (fun s => by kernel_rfl) K00.run (by kernel_rfl) (by kernel_rfl) (by kernel_rfl) (by rfl) (by first | assumption | decide +kernel) (by decide +kernel) ⟨rfl, rfl, rfl, rfl, rfl, by decide +kernel⟩ ?hw ?hc
  case hw => w_witness2
  case hc =>
    refine MP.walk_end (l := PySem.Challenge.rw_sheafroads_k00_whole_integers_and_choice) (m := 63) (k := 30) (x := "script") (CX := fun w => L2.CX (PySem.Challenge.rw_sheafroads_k00_whole_integers_and_choice).prog w) rfl (by decide) (by kernel_rfl) ⟨rfl, by decide, by decide⟩ ?F (fun _ => MP.cx_none)
    intro w mg fa h Y G hmg0
    obtain ⟨K, KX, c⟩ := Y
    have hmg : mg ("law" : PySem.Str) = some (.ref fa) := by
      have e : (HandSHeadRun.topDef (OpenLaw.row PySem.Challenge.rw_sheafroads_k00_whole_integers_and_choice).prog K00.lawAt).name = ("law" : PySem.Str) := by kernel_rfl
      rw [← e]
      exact hmg0
    obtain ⟨fd, hb, hF⟩ := MP.law_facts (P := (PySem.Challenge.rw_sheafroads_k00_whole_integers_and_choice).prog) (w := w) (rows := K00.rows) (top := K00.topS) 1000000 29 KX G hmg c K00.rows_ok K00.rows_bind K00.tab_ok (rL := K00.r_law) K00.law_mem rfl rfl rfl
    exact ⟨K, fd, MP.spL K (MP.tabOf K00.rows) 1000000 29, KX, hb, fun H a ns hl _ hS => ⟨a, ns, rfl, hS, K00.law_true ns hl, fun _ => rfl⟩, hF⟩
