import PyProof.Rows.All
import Wide.All
import OpenK.AllK
import Wide.FinOn
import PySem.Challenge.RW_switchsay_k72_no_net
import HandS.ForMost
import HandS.Exc
import HandS.ExcOwn
import HandS.WordsExc
import HandS.TupAny
import HandS.TupLe
import HandS.IsInst
import HandS.Style
import HandS.TryOnly
import HandS.Zip
import KE.DataCmp
import KE.SortData
import HandS.TupSets
import HandS.ExcInit
import HandS.ExcField
import HandS.ExcValue
import KE.KExcIs
import HandS.Deep
import HandS.Text
import HandS.Iter
import KE.GoesMore
import PyProof.Draws
import HandS.TupMul
import KE.KStrOpen
set_option Elab.async false
set_option linter.all false
set_option maxRecDepth 100000
set_option maxHeartbeats 4000000
namespace Sw
open PySem PySem.Spec PyProof.Rows L2

/-! ### deep values -/
inductive Tag where
  | tup | lst | scr | dic
  | ins (C : Addr) (fs : List Str)
  | exc (c : Str) (C : Addr) (fs : List Str)
  deriving DecidableEq
inductive D where
  | non
  | bl (b : Bool)
  | int (i : Int)
  | str (x : Str)
  | nd (t : Tag) (xs : List D)
abbrev D.tup (xs : List D) : D := .nd .tup xs
abbrev D.lst (xs : List D) : D := .nd .lst xs
inductive O where
  | lst (xs : List D)
inductive Sv where
  | no
  | d (x : D)
  | o (x : O)
  | l (x : O)
inductive Rv where
  | d (x : D)
  | o (x : O)
abbrev Ctx := List Sv
abbrev Zs := Addr → Prop
structure Ex where
  c : Str
  C : Addr
  fs : List (Str × D)

/-! ### how they stand in the heap -/
/-- the script: known to the object, or written -/
def ScL (K : PySem.W.Frag) (H : Hp) (a : Addr) (vs : List V) : Prop :=
  (∃ o, H a = some (.frz o (.lst vs))) ∨
    ∃ (o : Obj) (its : Array Value) (n : Nat), K.lookup a = some o ∧ o.cls = .type "list" ∧ o.dict = none ∧ o.data = .seq its n ∧ its.size ≤ sizeLine ∧ Vals vs its.toList
theorem ScL.sq {K : PySem.W.Frag} {H : Hp} {a : Addr} {vs : List V} (h : ScL K H a vs) : SqL K H a vs := by
  rcases h with ⟨o, h⟩ | h
  · exact .inl (.inr ⟨o, h⟩)
  · exact .inr h

/-- an exception object of the class at C, its dict d, told by its one object -/
def XcAt (H : Hp) (a C : Addr) (d : Option Addr) : Prop := ∃ φ : Heap → Prop, H a = some (.ext φ) ∧ ∀ h, φ h → ∃ (oe : Obj) (vs : Array Value), h.get? a = some oe ∧ Zc (.ref C) d oe ∧ oe.data = .fields vs

mutual
inductive Rp (K : PySem.W.Frag) (H : Hp) (Z : Zs) : D → V → Prop
  | non : Rp K H Z .non .non
  | bl (b : Bool) : Rp K H Z (.bl b) (.bl b)
  | int (i : Int) : Rp K H Z (.int i) (.int i)
  | str (x : Str) : Rp K H Z (.str x) (.str x)
  | tup {a : Addr} {vs : List V} {xs : List D} : SqT K H a vs → Rps K H Z xs vs → Rp K H Z (.nd .tup xs) (.ref a)
  | lst {a : Addr} {vs : List V} {xs : List D} : H a = some (.lst vs) → Z a → Rps K H Z xs vs → Rp K H Z (.nd .lst xs) (.ref a)
  | scr {a : Addr} {vs : List V} {xs : List D} : ScL K H a vs → Rps K H Z xs vs → Rp K H Z (.nd .scr xs) (.ref a)
  | exc0 {a C : Addr} {c : Str} : XcAt H a C none → Z a → Rp K H Z (.nd (.exc c C []) []) (.ref a)
  | exc1 {a C d : Addr} {c : Str} {fs : List Str} {kv : List (Str × V)} {vs : List V} {xs : List D} : XcAt H a C (some d) → Z a → Z d → H d = some (.xd kv) → kv.map (·.1) = fs → kv.map (·.2) = vs → Rps K H Z xs vs → Rp K H Z (.nd (.exc c C fs) xs) (.ref a)
inductive Rps (K : PySem.W.Frag) (H : Hp) (Z : Zs) : List D → List V → Prop
  | nil : Rps K H Z [] []
  | cons {x : D} {v : V} {xs : List D} {vs : List V} : Rp K H Z x v → Rps K H Z xs vs → Rps K H Z (x :: xs) (v :: vs)
end

/-- what stays of all that lasts -/
structure Ext (H : Hp) (Z : Zs) (H' : Hp) (Z' : Zs) : Prop where
  tp : ∀ a xs, H a = some (.tup xs) → H' a = some (.tup xs)
  fz : ∀ a o u, H a = some (.frz o u) → H' a = some (.frz o u)
  zk : ∀ a o, Z a → H a = some o → H' a = some o
  zi : ∀ a, Z a → Z' a
theorem Ext.refl {H : Hp} {Z : Zs} : Ext H Z H Z := ⟨fun _ _ h => h, fun _ _ _ h => h, fun _ _ _ h => h, fun _ h => h⟩
theorem Ext.trans {H H1 H2 : Hp} {Z Z1 Z2 : Zs} (a : Ext H Z H1 Z1) (b : Ext H1 Z1 H2 Z2) : Ext H Z H2 Z2 :=
  ⟨fun p xs h => b.tp p xs (a.tp p xs h), fun p o u h => b.fz p o u (a.fz p o u h), fun p o z h => b.zk p o (a.zi p z) (a.zk p o z h), fun p z => b.zi p (a.zi p z)⟩

section
variable {K : PySem.W.Frag} {H H' : Hp} {Z Z' : Zs}
theorem Ext.sqT {a : Addr} {vs : List V} (e : Ext H Z H' Z') (h : SqT K H a vs) : SqT K H' a vs := by
  rcases h with (h | ⟨o, h⟩) | h
  · exact .inl (.inl (e.tp _ _ h))
  · exact .inl (.inr ⟨o, e.fz _ _ _ h⟩)
  · exact .inr h
theorem Ext.scL {a : Addr} {vs : List V} (e : Ext H Z H' Z') (h : ScL K H a vs) : ScL K H' a vs := by
  rcases h with ⟨o, h⟩ | h
  · exact .inl ⟨o, e.fz _ _ _ h⟩
  · exact .inr h
theorem Ext.xc {a C : Addr} {d : Option Addr} (e : Ext H Z H' Z') (h : XcAt H a C d) (z : Z a) : XcAt H' a C d := by
  obtain ⟨φ, h1, h2⟩ := h
  exact ⟨φ, e.zk _ _ z h1, h2⟩
mutual
theorem Rp.ext (e : Ext H Z H' Z') : ∀ {x : D} {v : V}, Rp K H Z x v → Rp K H' Z' x v
  | _, _, .non => .non
  | _, _, .bl b => .bl b
  | _, _, .int i => .int i
  | _, _, .str x => .str x
  | _, _, .tup h r => .tup (e.sqT h) (Rps.ext e r)
  | _, _, .lst h z r => .lst (e.zk _ _ z h) (e.zi _ z) (Rps.ext e r)
  | _, _, .scr h r => .scr (e.scL h) (Rps.ext e r)
  | _, _, .exc0 h z => .exc0 (e.xc h z) (e.zi _ z)
  | _, _, .exc1 h z zd hd e1 e2 r => .exc1 (e.xc h z) (e.zi _ z) (e.zi _ zd) (e.zk _ _ zd hd) e1 e2 (Rps.ext e r)
theorem Rps.ext (e : Ext H Z H' Z') : ∀ {xs : List D} {vs : List V}, Rps K H Z xs vs → Rps K H' Z' xs vs
  | _, _, .nil => .nil
  | _, _, .cons h r => .cons (Rp.ext e h) (Rps.ext e r)
end
theorem Rps.length : ∀ {xs : List D} {vs : List V}, Rps K H Z xs vs → xs.length = vs.length
  | _, _, .nil => rfl
  | _, _, .cons _ r => congrArg (· + 1) (Rps.length r)
theorem Rps.get : ∀ {xs : List D} {vs : List V} {i : Nat} {v : V}, Rps K H Z xs vs → vs[i]? = some v → ∃ x, xs[i]? = some x ∧ Rp K H Z x v
  | _, _, _, _, .nil, h => by simp at h
  | _, _, 0, _, .cons r _, h => by simp at h; subst h; exact ⟨_, rfl, r⟩
  | _, _, i + 1, v, .cons _ t, h => by
    obtain ⟨x, h1, h2⟩ := Rps.get (i := i) t (by simpa using h)
    exact ⟨x, by simpa using h1, h2⟩
theorem Rps.get' : ∀ {xs : List D} {vs : List V} {i : Nat} {x : D}, Rps K H Z xs vs → xs[i]? = some x → ∃ v, vs[i]? = some v ∧ Rp K H Z x v
  | _, _, _, _, .nil, h => by simp at h
  | _, _, 0, _, .cons r _, h => by simp at h; subst h; exact ⟨_, rfl, r⟩
  | _, _, i + 1, x, .cons _ t, h => by
    obtain ⟨v, h1, h2⟩ := Rps.get' (i := i) t (by simpa using h)
    exact ⟨v, by simpa using h1, h2⟩
theorem Rps.append : ∀ {xs ys : List D} {vs us : List V}, Rps K H Z xs vs → Rps K H Z ys us → Rps K H Z (xs ++ ys) (vs ++ us)
  | _, _, _, _, .nil, s => s
  | _, _, _, _, .cons r t, s => .cons r (Rps.append t s)
theorem Rps.take : ∀ {xs : List D} {vs : List V} (n : Nat), Rps K H Z xs vs → Rps K H Z (xs.take n) (vs.take n)
  | _, _, 0, _ => .nil
  | _, _, _ + 1, .nil => .nil
  | _, _, n + 1, .cons r t => .cons r (Rps.take n t)
theorem Rps.drop : ∀ {xs : List D} {vs : List V} (n : Nat), Rps K H Z xs vs → Rps K H Z (xs.drop n) (vs.drop n)
  | _, _, 0, r => r
  | _, _, _ + 1, .nil => .nil
  | _, _, n + 1, .cons r t => Rps.drop n t
theorem Rps.set {x : D} {v : V} (r : Rp K H Z x v) : ∀ {xs : List D} {vs : List V} (i : Nat), Rps K H Z xs vs → Rps K H Z (xs.set i x) (vs.set i v)
  | _, _, _, .nil => .nil
  | _, _, 0, .cons _ t => .cons r t
  | _, _, i + 1, .cons q t => .cons q (Rps.set r i t)
theorem Rps.reverse : ∀ {xs : List D} {vs : List V}, Rps K H Z xs vs → Rps K H Z xs.reverse vs.reverse
  | _, _, .nil => .nil
  | _, _, .cons r t => by
    rw [List.reverse_cons, List.reverse_cons]
    exact (Rps.reverse t).append (.cons r .nil)
end

/-- an owned thing, and the addresses that it is made of -/
def RpO (K : PySem.W.Frag) (H : Hp) (Z : Zs) : O → V → List Addr → Prop
  | .lst xs, v, F => ∃ a vs, v = .ref a ∧ F = [a] ∧ H a = some (.lst vs) ∧ Rps K H Z xs vs
def RpS (K : PySem.W.Frag) (H : Hp) (Z : Zs) (la : Addr) : Sv → Option (Option V) → List Addr → Prop
  | .no, _, F => F = []
  | .d x, ov, F => ∃ v, ov = some (some v) ∧ Rp K H Z x v ∧ F = []
  | .o x, ov, F => ∃ v, ov = some (some v) ∧ RpO K H Z x v F
  | .l x, ov, F => ov = some (some (.ref la)) ∧ RpO K H Z x (.ref la) F
structure Sl (K : PySem.W.Frag) (ln : Nat → Addr) (H : Hp) (Z : Zs) (c : Ctx) (σ : L2.St) (Fs : Nat → List Addr) : Prop where
  len : c.length = σ.length
  rep : ∀ i, RpS K H Z (ln i) (c.getD i .no) σ[i]? (Fs i)
  dis : ∀ i j a, a ∈ Fs i → a ∈ Fs j → i = j
  nz : ∀ i a, a ∈ Fs i → ¬ Z a
  zl : ∀ a, Z a → H a ≠ none
abbrev Ow (Fs : Nat → List Addr) : Addr → Prop := fun a => ∃ i, a ∈ Fs i

structure Stp (H : Hp) (Z : Zs) (P : Addr → Prop) (H' : Hp) (Z' : Zs) (P' : Addr → Prop) : Prop where
  ext : Ext H Z H' Z'
  keep : ∀ a o, H a = some o → ¬ P a → H' a = some o
  live : ∀ a, H a ≠ none → H' a ≠ none
  out : ∀ a, P' a → P a ∨ H a = none
  zout : ∀ a, Z' a → Z a ∨ P a ∨ H a = none
theorem Stp.refl {H : Hp} {Z : Zs} {P : Addr → Prop} : Stp H Z P H Z P := ⟨.refl, fun _ _ h _ => h, fun _ h => h, fun _ h => .inl h, fun _ h => .inl h⟩
theorem Stp.trans {H H1 H2 : Hp} {Z Z1 Z2 : Zs} {P P1 P2 : Addr → Prop} (a : Stp H Z P H1 Z1 P1) (b : Stp H1 Z1 P1 H2 Z2 P2) : Stp H Z P H2 Z2 P2 where
  ext := a.ext.trans b.ext
  keep := fun p o h n => b.keep p o (a.keep p o h n) fun q => by
    rcases a.out p q with z | z
    · exact n z
    · rw [h] at z; cases z
  live := fun p h => b.live p (a.live p h)
  out := fun p q => by
    rcases b.out p q with z | z
    · exact a.out p z
    · refine .inr ?_
      cases e : H p with
      | none => rfl
      | some o => exact absurd z (a.live p (by rw [e]; simp))
  zout := fun p q => by
    rcases b.zout p q with z | z | z
    · exact a.zout p z
    · exact .inr (a.out p z)
    · refine .inr (.inr ?_)
      cases e : H p with
      | none => rfl
      | some o => exact absurd z (a.live p (by rw [e]; simp))
/-- a smaller part is left -/
theorem Stp.less {H H' : Hp} {Z Z' : Zs} {P P' P2 : Addr → Prop} (a : Stp H Z P H' Z' P') (h : ∀ p, P2 p → P' p) : Stp H Z P H' Z' P2 := ⟨a.ext, a.keep, a.live, fun p q => a.out p (h p q), a.zout⟩
/-- a greater part was there -/
theorem Stp.more {H H' : Hp} {Z Z' : Zs} {P P' P2 : Addr → Prop} (a : Stp H Z P H' Z' P') (h : ∀ p, P p → P2 p) : Stp H Z P2 H' Z' P' :=
  ⟨a.ext, fun p o e n => a.keep p o e fun q => n (h p q), a.live, fun p q => (a.out p q).imp (h p) id, fun p q => (a.zout p q).imp id (Or.imp (h p) id)⟩

/-- only new things -/
structure New (H : Hp) (Z : Zs) (H' : Hp) (Z' : Zs) : Prop where
  same : Same H H'
  zi : ∀ a, Z a → Z' a
  zo : ∀ a, Z' a → Z a ∨ (H a = none ∧ H' a ≠ none)
theorem New.refl {H : Hp} {Z : Zs} : New H Z H Z := ⟨Same.refl H, fun _ h => h, fun _ h => .inl h⟩
theorem live_of {H H' : Hp} (s : Same H H') {a : Addr} (h : H a ≠ none) : H' a ≠ none := by
  cases e : H a with
  | none => exact absurd e h
  | some o => rw [s a o e]; simp
theorem dead_of {H H' : Hp} (l : ∀ a, H a ≠ none → H' a ≠ none) {a : Addr} (h : H' a = none) : H a = none := by
  cases e : H a with
  | none => rfl
  | some o => exact absurd h (l a (by rw [e]; simp))
theorem New.trans {H H1 H2 : Hp} {Z Z1 Z2 : Zs} (a : New H Z H1 Z1) (b : New H1 Z1 H2 Z2) : New H Z H2 Z2 :=
  ⟨a.same.trans b.same, fun p z => b.zi p (a.zi p z), fun p z => by
    rcases b.zo p z with q | ⟨q, l⟩
    · rcases a.zo p q with r | ⟨r, l⟩
      · exact .inl r
      · exact .inr ⟨r, live_of b.same l⟩
    · exact .inr ⟨dead_of (a := p) (fun _ h => live_of a.same h) q, l⟩⟩
section
variable {K : PySem.W.Frag} {ln : Nat → Addr} {H H' : Hp} {Z Z' : Zs} {c : Ctx} {σ : L2.St} {Fs : Nat → List Addr}
theorem New.ext (n : New H Z H' Z') : Ext H Z H' Z' := ⟨fun a xs h => n.same a _ h, fun a o u h => n.same a _ h, fun a o _ h => n.same a o h, n.zi⟩
theorem New.stp {P : Addr → Prop} (n : New H Z H' Z') : Stp H Z P H' Z' P :=
  ⟨n.ext, fun a o h _ => n.same a o h, fun a h => live_of n.same h, fun a h => .inl h, fun a h => (n.zo a h).imp id fun q => .inr q.1⟩
theorem RpO.there {x : O} {v : V} {F : List Addr} (h : RpO K H Z x v F) : ∀ a ∈ F, ∃ xs, H a = some (.lst xs) := by
  cases x with
  | lst xs =>
    obtain ⟨a, vs, _, rfl, h1, _⟩ := h
    intro b hb
    rw [List.mem_singleton.mp hb]
    exact ⟨vs, h1⟩
theorem RpS.there {la : Addr} {s : Sv} {ov : Option (Option V)} {F : List Addr} (h : RpS K H Z la s ov F) : ∀ a ∈ F, ∃ xs, H a = some (.lst xs) := by
  cases s with
  | no => rw [show F = [] from h]; intro a ha; simp at ha
  | d x => obtain ⟨v, _, _, rfl⟩ := h; intro a ha; simp at ha
  | o x => obtain ⟨v, _, r⟩ := h; exact r.there
  | l x => exact h.2.there
theorem RpO.ext {x : O} {v : V} {F : List Addr} (e : Ext H Z H' Z') (k : ∀ a ∈ F, ∀ o, H a = some o → H' a = some o) (h : RpO K H Z x v F) : RpO K H' Z' x v F := by
  cases x with
  | lst xs =>
    obtain ⟨a, vs, rfl, rfl, h1, r⟩ := h
    exact ⟨a, vs, rfl, rfl, k a (by simp) _ h1, r.ext e⟩
theorem RpS.ext {la : Addr} {s : Sv} {ov : Option (Option V)} {F : List Addr} (e : Ext H Z H' Z') (k : ∀ a ∈ F, ∀ o, H a = some o → H' a = some o) (h : RpS K H Z la s ov F) : RpS K H' Z' la s ov F := by
  cases s with
  | no => exact h
  | d x => obtain ⟨v, h1, h2, h3⟩ := h; exact ⟨v, h1, h2.ext e, h3⟩
  | o x => obtain ⟨v, h1, h2⟩ := h; exact ⟨v, h1, h2.ext e k⟩
  | l x => exact ⟨h.1, h.2.ext e k⟩
theorem Sl.new (S : Sl K ln H Z c σ Fs) (n : New H Z H' Z') : Sl K ln H' Z' c σ Fs :=
  ⟨S.len, fun i => (S.rep i).ext n.ext fun a _ o h => n.same a o h, S.dis, fun i a h z => (n.zo a z).elim (S.nz i a h) (fun q => (by
    obtain ⟨xs, e⟩ := (S.rep i).there a h
    rw [q.1] at e
    cases e)),
   fun a z => (n.zo a z).elim (fun q => live_of n.same (S.zl a q)) fun q => q.2⟩
end
end Sw
set_option maxRecDepth 100000
set_option maxHeartbeats 4000000
namespace Sw
open PySem PySem.Spec L2

/-! ### what a piece of code does, by deep values -/
inductive Rs (α : Type) where
  | stk
  | ok (a : α) (c : Ctx)
  | er (e : Ex) (c : Ctx)
abbrev M (α : Type) := Ctx → Rs α
def mp {α : Type} (a : α) : M α := fun c => .ok a c
def mb {α β : Type} (m : M α) (f : α → M β) : M β := fun c => match m c with
  | .stk => .stk
  | .ok a c' => f a c'
  | .er e c' => .er e c'
def ml {α : Type} (o : Option α) : M α := fun c => match o with
  | some a => .ok a c
  | none => .stk
/-- nothing is raised -/
def mq {α : Type} (m : M α) : M α := fun c => match m c with
  | .ok a c' => .ok a c'
  | _ => .stk

def ErR (K : PySem.W.Frag) (H : Hp) (Z : Zs) (e : Ex) (cls : Value) (d : Option Addr) : Prop :=
  cls = .ref e.C ∧ ((e.fs = [] ∧ d = none) ∨ ∃ da vs, d = some da ∧ Z da ∧ H da = some (.xd vs) ∧ vs.map (·.1) = e.fs.map (·.1) ∧ Rps K H Z (e.fs.map (·.2)) (vs.map (·.2)))

/-- m, run from such a state -/
def Run (K : PySem.W.Frag) (W : WX) {α : Type} (m : M α) (σ : L2.St) (ln : Nat → Addr) (c : Ctx) (H : Hp) (Z : Zs) (Fs : Nat → List Addr) (k : α → Ctx → Hp → Zs → (Nat → List Addr) → Prop) : Prop :=
  match m c with
  | .stk => False
  | .ok a c' => ∀ H' Z' Fs', Sl K ln H' Z' c' σ Fs' → Stp H Z (Ow Fs) H' Z' (Ow Fs') → k a c' H' Z' Fs'
  | .er e c' => ∀ cls d H' Z' Fs', Sl K ln H' Z' c' σ Fs' → Stp H Z (Ow Fs) H' Z' (Ow Fs') → ErR K H' Z' e cls d → W cls d σ H'
section
variable {K : PySem.W.Frag} {W : WX} {α β : Type} {σ : L2.St} {ln : Nat → Addr} {c : Ctx} {H : Hp} {Z : Zs} {Fs : Nat → List Addr}
theorem Run.mono {m : M α} {k k' : α → Ctx → Hp → Zs → (Nat → List Addr) → Prop} (h : Run K W m σ ln c H Z Fs k) (i : ∀ a c' H' Z' Fs', k a c' H' Z' Fs' → k' a c' H' Z' Fs') : Run K W m σ ln c H Z Fs k' := by
  unfold Run at *
  cases e : m c with
  | stk => rw [e] at h; exact h
  | ok a c' => rw [e] at h; exact fun H' Z' Fs' S T => i _ _ _ _ _ (h H' Z' Fs' S T)
  | er x c' => rw [e] at h; exact h
theorem Run.bind {m : M α} {f : α → M β} {k : β → Ctx → Hp → Zs → (Nat → List Addr) → Prop} (h : Run K W (mb m f) σ ln c H Z Fs k) :
    Run K W m σ ln c H Z Fs fun a c1 H1 Z1 F1 => Sl K ln H1 Z1 c1 σ F1 ∧ Stp H Z (Ow Fs) H1 Z1 (Ow F1) ∧ Run K W (f a) σ ln c1 H1 Z1 F1 k := by
  unfold Run at *
  unfold mb at h
  cases e : m c with
  | stk => rw [e] at h; exact h
  | er x c' => rw [e] at h; exact h
  | ok a c' =>
    rw [e] at h
    intro H1 Z1 F1 S1 T1
    refine ⟨S1, T1, ?_⟩
    simp only at h
    cases e2 : f a c' with
    | stk => rw [e2] at h; exact h
    | er x c2 => rw [e2] at h; exact fun cls d H' Z' F' S T r => h cls d H' Z' F' S (T1.trans T) r
    | ok b c2 => rw [e2] at h; exact fun H' Z' F' S T => h H' Z' F' S (T1.trans T)
theorem Run.pure {a : α} {k : α → Ctx → Hp → Zs → (Nat → List Addr) → Prop} (h : Run K W (mp a) σ ln c H Z Fs k) (S : Sl K ln H Z c σ Fs) : k a c H Z Fs := h H Z Fs S .refl
/-- a value, at what is newly made -/
theorem Run.lift {o : Option α} {k : α → Ctx → Hp → Zs → (Nat → List Addr) → Prop} (h : Run K W (ml o) σ ln c H Z Fs k) : ∃ a, o = some a ∧ ∀ H' Z' Fs', Sl K ln H' Z' c σ Fs' → Stp H Z (Ow Fs) H' Z' (Ow Fs') → k a c H' Z' Fs' := by
  unfold Run ml at h
  cases o with
  | none => exact False.elim h
  | some a => exact ⟨a, rfl, h⟩
theorem Run.quiet {m : M α} {W' : WX} {k : α → Ctx → Hp → Zs → (Nat → List Addr) → Prop} (h : Run K W (mq m) σ ln c H Z Fs k) : Run K W' m σ ln c H Z Fs k := by
  unfold Run at *
  unfold mq at h
  cases e : m c with
  | stk => rw [e] at h; exact h.elim
  | er x c' => rw [e] at h; exact h.elim
  | ok a c' => rw [e] at h; exact h
end

/-- an expression's reading, its value lasting; owned; a test's; a list of arguments' -/
def tD (K : PySem.W.Frag) (W : WX) (m : M D) : TE := fun σ H Q => ∃ ln c Z Fs, Sl K ln H Z c σ Fs ∧ Run K W m σ ln c H Z Fs fun x c' H' Z' Fs' => ∀ v, Rp K H' Z' x v → Q v H'
def tO (K : PySem.W.Frag) (W : WX) (m : M O) : TE := fun σ H Q => ∃ ln c Z Fs, Sl K ln H Z c σ Fs ∧ Run K W m σ ln c H Z Fs fun x c' H' Z' Fs' => ∀ v F, RpO K H' Z' x v F → (∀ a ∈ F, Ow Fs a ∨ H a = none) → (∀ a ∈ F, ∀ i, a ∉ Fs' i) → (∀ a ∈ F, ¬ Z' a) → Q v H'
def tT (K : PySem.W.Frag) (W : WX) (m : M Bool) : TT := fun σ H Q => ∃ ln c Z Fs, Sl K ln H Z c σ Fs ∧ Run K W m σ ln c H Z Fs fun b c' H' Z' Fs' => Q b H'
def tA (K : PySem.W.Frag) (W : WX) (m : M (List D)) : TA := fun σ H Q => ∃ ln c Z Fs, Sl K ln H Z c σ Fs ∧ Run K W m σ ln c H Z Fs fun xs c' H' Z' Fs' => ∀ vs, Rps K H' Z' xs vs → Q vs H'

theorem peImp {X : Cx} {e : Expr} {t t' : TE} (h : PE X e t) (i : ∀ σ H Q, t' σ H Q → t σ H Q) : PE X e t' := ⟨fun pins s σ H Q I q => h.run pins s σ H Q I (i σ H Q q)⟩
theorem ptImp {X : Cx} {e : Expr} {t t' : TT} (h : PT X e t) (i : ∀ σ H Q, t' σ H Q → t σ H Q) : PT X e t' := ⟨fun pins s σ H Q I q => h.run pins s σ H Q I (i σ H Q q)⟩
theorem pwImp {X : Cx} {e : Expr} {t t' : TT} (h : PW X e t) (i : ∀ σ H Q, t' σ H Q → t σ H Q) : PW X e t' := ⟨fun wh pins s σ H Q I q => h.run wh pins s σ H Q I (i σ H Q q)⟩
theorem paImp {X : Cx} {e : List Expr} {t t' : TA} (h : PA X e t) (i : ∀ σ H Q, t' σ H Q → t σ H Q) : PA X e t' := ⟨fun p pins s σ H Q I q => h.run p pins s σ H Q I (i σ H Q q)⟩

structure ED (X : Cx) (W : WX) (e : Expr) (m : M D) : Prop where
  pe : PE X e (tD X.K W m)
structure EO (X : Cx) (W : WX) (e : Expr) (m : M O) : Prop where
  pe : PE X e (tO X.K W m)
structure ET (X : Cx) (W : WX) (e : Expr) (m : M Bool) : Prop where
  pt : PT X e (tT X.K W m)
structure EW (X : Cx) (W : WX) (e : Expr) (m : M Bool) : Prop where
  pw : PW X e (tT X.K W m)
structure EA (X : Cx) (W : WX) (es : List Expr) (m : M (List D)) : Prop where
  pa : PA X es (tA X.K W m)

/-! ### names, constants -/
def mVar (i : Nat) : M D := fun c => match c.getD i .no with
  | .d x => .ok x c
  | _ => .stk
theorem Run.same {K : PySem.W.Frag} {W : WX} {α : Type} {m : M α} {σ : L2.St} {ln : Nat → Addr} {c : Ctx} {H : Hp} {Z : Zs} {Fs : Nat → List Addr} {k : α → Ctx → Hp → Zs → (Nat → List Addr) → Prop} {a : α}
    (h : Run K W m σ ln c H Z Fs k) (e : m c = .ok a c) (S : Sl K ln H Z c σ Fs) : k a c H Z Fs := by
  unfold Run at h
  rw [e] at h
  exact h H Z Fs S .refl
section
variable {X : Cx} {W : WX} {pos : Pos}
theorem ed_var {i : Nat} {x : Str} (h : PE X (.Name x pos) (tVar i)) : ED X W (.Name x pos) (mVar i) := by
  refine ⟨peImp h fun σ H Q q => ?_⟩
  obtain ⟨ln, c, Z, Fs, S, r⟩ := q
  have rep := S.rep i
  cases e : c.getD i .no with
  | d x =>
    have em : mVar i c = .ok x c := by unfold mVar; rw [e]
    rw [e] at rep
    obtain ⟨v, h1, h2, _⟩ := rep
    exact ⟨v, h1, Run.same r em S v h2⟩
  | no => exact (by unfold Run mVar at r; rw [e] at r; exact r.elim)
  | o x => exact (by unfold Run mVar at r; rw [e] at r; exact r.elim)
  | l x => exact (by unfold Run mVar at r; rw [e] at r; exact r.elim)
theorem ed_c {e : Expr} {v : V} {d : D} (h : PE X e (tC v)) (r : ∀ K H Z, Rp K H Z d v) : ED X W e (mp d) := by
  refine ⟨peImp h fun σ H Q q => ?_⟩
  obtain ⟨ln, c, Z, Fs, S, q⟩ := q
  exact q.pure S v (r _ _ _)
theorem ed_int {i j} : ED X W (.Constant (.int i) j pos) (mp (.int i)) := ed_c pe_int fun _ _ _ => .int i
theorem ed_bl {b j} : ED X W (.Constant (.bool b) j pos) (mp (.bl b)) := ed_c pe_bl fun _ _ _ => .bl b
theorem ed_non {j} : ED X W (.Constant .none j pos) (mp .non) := ed_c pe_non fun _ _ _ => .non
theorem ed_str {x j} : ED X W (.Constant (.str x) j pos) (mp (.str x)) := ed_c pe_str fun _ _ _ => .str x
end


/-! ### what is read late: a name's thing as it stands when it is used -/
abbrev LV := Ctx → Option D
def RpV (K : PySem.W.Frag) (H : Hp) (Z : Zs) (x : D) (v : V) : Prop := Rp K H Z x v ∨ ∃ a vs xs, x = .nd .lst xs ∧ v = .ref a ∧ H a = some (.lst vs) ∧ Rps K H Z xs vs
def Late (K : PySem.W.Frag) (σ : L2.St) (ln : Nat → Addr) (H : Hp) (Z : Zs) (Fs : Nat → List Addr) (p : LV) (v : V) : Prop :=
  ∀ c2 H2 Z2 Fs2 x, Sl K ln H2 Z2 c2 σ Fs2 → Stp H Z (Ow Fs) H2 Z2 (Ow Fs2) → p c2 = some x → RpV K H2 Z2 x v
def tL (K : PySem.W.Frag) (W : WX) (m : M LV) : TE := fun σ H Q => ∃ ln c Z Fs, Sl K ln H Z c σ Fs ∧ Run K W m σ ln c H Z Fs fun p c' H' Z' Fs' => ∀ v, Late K σ ln H' Z' Fs' p v → Q v H'
structure EL (X : Cx) (W : WX) (e : Expr) (m : M LV) : Prop where
  pe : PE X e (tL X.K W m)
theorem Late.next {K : PySem.W.Frag} {σ : L2.St} {ln : Nat → Addr} {H H' : Hp} {Z Z' : Zs} {Fs Fs' : Nat → List Addr} {p : LV} {v : V} (h : Late K σ ln H Z Fs p v) (T : Stp H Z (Ow Fs) H' Z' (Ow Fs')) : Late K σ ln H' Z' Fs' p v :=
  fun c2 H2 Z2 F2 x S T2 e => h c2 H2 Z2 F2 x S (T.trans T2) e
def lv (m : M D) : M LV := mb m fun x => mp fun _ => some x
theorem el_of {X : Cx} {W : WX} {e : Expr} {m : M D} (h : ED X W e m) : EL X W e (lv m) := by
  refine ⟨peImp h.pe fun σ H Q q => ?_⟩
  obtain ⟨ln, c, Z, Fs, S, q⟩ := q
  refine ⟨ln, c, Z, Fs, S, q.bind.mono ?_⟩
  rintro x c1 H1 Z1 F1 ⟨S1, T1, h1⟩ v rv
  refine h1.pure S1 v fun c2 H2 Z2 F2 y S2 T2 e => ?_
  cases e
  exact .inl (rv.ext T2.ext)
def peek : Sv → Option D
  | .no => none
  | .d x => some x
  | .o (.lst xs) => some (.nd .lst xs)
  | .l (.lst xs) => some (.nd .lst xs)
def lName (i : Nat) : M LV := fun c => match c.getD i .no with
  | .no => .stk
  | _ => .ok (fun c => peek (c.getD i .no)) c
theorem RpS.peek {K : PySem.W.Frag} {H : Hp} {Z : Zs} {la : Addr} {s : Sv} {v : V} {F : List Addr} {x : D} (h : RpS K H Z la s (some (some v)) F) (e : Sw.peek s = some x) : RpV K H Z x v := by
  cases s with
  | no => cases e
  | d y => cases e; obtain ⟨w, e, r, _⟩ := h; cases e; exact .inl r
  | o y =>
    cases y with
    | lst xs => cases e; obtain ⟨w, e, a, vs, e1, _, h1, r⟩ := h; cases e; exact .inr ⟨a, vs, xs, rfl, e1, h1, r⟩
  | l y =>
    cases y with
    | lst xs => cases e; obtain ⟨e, a, vs, e1, _, h1, r⟩ := h; cases e; exact .inr ⟨a, vs, xs, rfl, e1, h1, r⟩
theorem RpS.val {K : PySem.W.Frag} {H : Hp} {Z : Zs} {la : Addr} {s : Sv} {ov : Option (Option V)} {F : List Addr} (h : RpS K H Z la s ov F) (n : s ≠ .no) : ∃ v, ov = some (some v) := by
  cases s with
  | no => exact absurd rfl n
  | d y => obtain ⟨w, e, _⟩ := h; exact ⟨w, e⟩
  | o y => obtain ⟨w, e, _⟩ := h; exact ⟨w, e⟩
  | l y => exact ⟨_, h.1⟩
theorem el_name {X : Cx} {W : WX} {i : Nat} {x : Str} {pos : Pos} (h : PE X (.Name x pos) (tVar i)) : EL X W (.Name x pos) (lName i) := by
  refine ⟨peImp h fun σ H Q q => ?_⟩
  obtain ⟨ln, c, Z, Fs, S, r⟩ := q
  by_cases n : c.getD i .no = .no
  · unfold Run lName at r
    rw [n] at r
    exact r.elim
  · obtain ⟨v, ev⟩ := (S.rep i).val n
    have em : lName i c = .ok (fun c => peek (c.getD i .no)) c := by
      unfold lName
      cases e : c.getD i .no with
      | no => exact absurd e n
      | _ => rfl
    refine ⟨v, ev, Run.same r em S v fun c2 H2 Z2 F2 y S2 T2 e => ?_⟩
    have rep := S2.rep i
    rw [ev] at rep
    exact rep.peek e

/-! ### operators -/
def DOp (K : PySem.W.Frag) (r : R2) (g : D → D → Option D) : Prop := ∀ (H : Hp) (Z : Zs) (x y : V) (dx dy dz : D), RpV K H Z dx x → RpV K H Z dy y → (∀ a, Z a → H a ≠ none) → g dx dy = some dz → ∀ Q : VK, (∀ v H' Z', New H Z H' Z' → Rp K H' Z' dz v → Q v H') → r x y H Q
def rd2 (g : D → D → Option D) (p q : LV) : M D := fun c => match p c with
  | none => .stk
  | some x => match q c with
    | none => .stk
    | some y => ml (g x y) c
def m2 (g : D → D → Option D) (ma mb' : M LV) : M D := mb ma fun p => mb mb' fun q => rd2 g p q
section
variable {X : Cx} {W : WX} {pos : Pos} {a b : Expr} {ma mb' : M LV} {g : D → D → Option D} {r : R2}
theorem rd2_run {K : PySem.W.Frag} {p q : LV} {σ : L2.St} {ln : Nat → Addr} {c : Ctx} {H : Hp} {Z : Zs} {Fs : Nat → List Addr} {k : D → Ctx → Hp → Zs → (Nat → List Addr) → Prop} (h : Run K W (rd2 g p q) σ ln c H Z Fs k) :
    ∃ x y z, p c = some x ∧ q c = some y ∧ g x y = some z ∧ ∀ H' Z' Fs', Sl K ln H' Z' c σ Fs' → Stp H Z (Ow Fs) H' Z' (Ow Fs') → k z c H' Z' Fs' := by
  unfold Run rd2 at h
  cases e1 : p c with
  | none => rw [e1] at h; exact h.elim
  | some x =>
    rw [e1] at h
    cases e2 : q c with
    | none => rw [e2] at h; exact h.elim
    | some y =>
      rw [e2] at h
      obtain ⟨z, ez, h⟩ := Run.lift (K := K) (W := W) (o := g x y) (c := c) h
      exact ⟨x, y, z, rfl, rfl, ez, h⟩
theorem op_core (hg : DOp X.K r g) {σ : L2.St} {H : Hp} {Q : VK} (h : tD X.K W (m2 g ma mb') σ H Q) : tOp r (tL X.K W ma) (tL X.K W mb') σ H Q := by
  obtain ⟨ln, c, Z, Fs, S, h⟩ := h
  refine ⟨ln, c, Z, Fs, S, h.bind.mono ?_⟩
  rintro p c1 H1 Z1 F1 ⟨S1, T1, h1⟩ v rv
  refine ⟨ln, c1, Z1, F1, S1, h1.bind.mono ?_⟩
  rintro q c2 H2 Z2 F2 ⟨S2, T2, h2⟩ u ru
  obtain ⟨x, y, z, ex, ey, ez, h3⟩ := rd2_run h2
  exact hg H2 Z2 v u x y z (rv c2 H2 Z2 F2 x S2 T2 ex) (ru c2 H2 Z2 F2 y S2 .refl ey) S2.zl ez Q fun w H' Z' n rw' => h3 H' Z' F2 (S2.new n) n.stp w rw'
theorem ed_op {op : Operator} (ho : OpR X (binaryOp op) r) (hg : DOp X.K r g) (ha : EL X W a ma) (hb : EL X W b mb') : ED X W (.BinOp a op b pos) (m2 g ma mb') :=
  ⟨peImp (pe_op ho ha.pe hb.pe) fun _ _ _ h => op_core hg h⟩
theorem ed_cmp {op : CmpOp} (ho : OpR X (compareOp op) r) (hg : DOp X.K r g) (ha : EL X W a ma) (hb : EL X W b mb') (h1 : behindInMarks op b = false) : ED X W (.Compare a [op] [b] pos) (m2 g ma mb') :=
  ⟨peImp (pe_cmpR ho ha.pe hb.pe h1) fun _ _ _ h => op_core hg h⟩
theorem ed_ix (ho : IxR X r) (hg : DOp X.K r g) (ha : EL X W a ma) (hb : EL X W b mb') (hs : PlainIx b) : ED X W (.Subscript a b pos) (m2 g ma mb') :=
  ⟨peImp (pe_ix ho ha.pe hb.pe hs) fun _ _ _ h => op_core hg h⟩
end
/-- a value of one kind -/
def toB : D → Option Bool | .bl b => some b | _ => none
def mT (m : M D) : M Bool := mb m fun x => ml (toB x)
theorem mT_run {K : PySem.W.Frag} {W : WX} {m : M D} {σ : L2.St} {H : Hp} {Q : Bool → Hp → Prop} (q : tT K W (mT m) σ H Q) : tD K W m σ H fun x H1 => ∃ c, x = .bl c ∧ Q c H1 := by
  obtain ⟨ln, c, Z, Fs, S, q⟩ := q
  refine ⟨ln, c, Z, Fs, S, q.bind.mono ?_⟩
  rintro x c1 H1 Z1 F1 ⟨S1, T1, h1⟩ v rv
  obtain ⟨b, eb, h2⟩ := h1.lift
  cases x with
  | bl k =>
    cases eb
    cases rv
    exact ⟨_, rfl, h2 H1 Z1 F1 S1 .refl⟩
  | _ => cases eb
theorem et_val {X : Cx} {W : WX} {e : Expr} {m : M D} (h : ED X W e m) (he : ∀ whole, isTrue e X.env whole = (do let v ← whole; standAt e.pos; holding [v] (truthy v)) := by intro _; rfl) : ET X W e (mT m) :=
  ⟨ptImp (pt_val h.pe he) fun σ H Q q => mT_run q⟩
theorem et_cmp {X : Cx} {W : WX} {pos : Pos} {a b : Expr} {ma mb' : M LV} {g : D → D → Option D} {r : R2} {op : CmpOp} (ho : OpR X (compareOp op) r) (hg : DOp X.K r g) (ha : EL X W a ma) (hb : EL X W b mb') (h1 : behindInMarks op b = false) :
    ET X W (.Compare a [op] [b] pos) (mT (m2 g ma mb')) :=
  ⟨ptImp (pt_cmpR ho ha.pe hb.pe h1) fun σ H Q q => op_core hg (mT_run q)⟩

/-! ### and, or, not; a if t else b -/
def mIf {α : Type} (mt : M Bool) (ma mb' : M α) : M α := mb mt fun b => if b = true then ma else mb'
def mAnd (ma mb' : M Bool) : M Bool := mb ma fun b => if b = true then mb' else mp false
def mOr (ma mb' : M Bool) : M Bool := mb ma fun b => if b = true then mp true else mb'
def mNot (ma : M Bool) : M Bool := mb ma fun b => mp (!b)
section
variable {X : Cx} {W : WX} {pos : Pos} {a b c : Expr} {rest : List Expr} {ma mb' mt : M Bool} {da db : M D}
theorem EW.et (h : EW X W a ma) : ET X W a ma := ⟨h.pw.pt⟩
theorem ew_and1 (ha : ET X W a ma) : EW X W (.BoolOp .And [a] pos) ma := ⟨pw_and1 ha.pt⟩
theorem ew_or1 (ha : ET X W a ma) : EW X W (.BoolOp .Or [a] pos) ma := ⟨pw_or1 ha.pt⟩
theorem ew_and (ha : ET X W a ma) (hb : EW X W (.BoolOp .And (b :: rest) pos) mb') : EW X W (.BoolOp .And (a :: b :: rest) pos) (mAnd ma mb') := by
  refine ⟨pwImp (pw_and ha.pt hb.pw) fun σ H Q q => ?_⟩
  obtain ⟨ln, c, Z, Fs, S, q⟩ := q
  refine ⟨ln, c, Z, Fs, S, q.bind.mono ?_⟩
  rintro k c1 H1 Z1 F1 ⟨S1, T1, h1⟩
  cases k with
  | true => exact ⟨ln, c1, Z1, F1, S1, h1⟩
  | false => exact h1.pure S1
theorem ew_or (ha : ET X W a ma) (hb : EW X W (.BoolOp .Or (b :: rest) pos) mb') : EW X W (.BoolOp .Or (a :: b :: rest) pos) (mOr ma mb') := by
  refine ⟨pwImp (pw_or ha.pt hb.pw) fun σ H Q q => ?_⟩
  obtain ⟨ln, c, Z, Fs, S, q⟩ := q
  refine ⟨ln, c, Z, Fs, S, q.bind.mono ?_⟩
  rintro k c1 H1 Z1 F1 ⟨S1, T1, h1⟩
  cases k with
  | false => exact ⟨ln, c1, Z1, F1, S1, h1⟩
  | true => exact h1.pure S1
theorem et_not (ha : ET X W a ma) : ET X W (.UnaryOp .Not a pos) (mNot ma) := by
  refine ⟨ptImp (pt_not ha.pt) fun σ H Q q => ?_⟩
  obtain ⟨ln, c, Z, Fs, S, q⟩ := q
  refine ⟨ln, c, Z, Fs, S, q.bind.mono ?_⟩
  rintro k c1 H1 Z1 F1 ⟨S1, T1, h1⟩
  exact h1.pure S1
theorem ed_ifExp (hc : ET X W c mt) (ha : ED X W a da) (hb : ED X W b db) : ED X W (.IfExp c a b pos) (mIf mt da db) := by
  refine ⟨peImp (pe_ifExp hc.pt ha.pe hb.pe) fun σ H Q q => ?_⟩
  obtain ⟨ln, c, Z, Fs, S, q⟩ := q
  refine ⟨ln, c, Z, Fs, S, q.bind.mono ?_⟩
  rintro k c1 H1 Z1 F1 ⟨S1, T1, h1⟩
  cases k with
  | true => exact ⟨ln, c1, Z1, F1, S1, h1⟩
  | false => exact ⟨ln, c1, Z1, F1, S1, h1⟩
/-- .. as values that are bools -/
def vAnd (da db : M D) : M D := mb da fun x => match x with
  | .bl true => db
  | .bl false => mp (.bl false)
  | _ => fun _ => .stk
def vOr (da db : M D) : M D := mb da fun x => match x with
  | .bl true => mp (.bl true)
  | .bl false => db
  | _ => fun _ => .stk
def vNot (da : M D) : M D := mb da fun x => match x with
  | .bl b => mp (.bl (!b))
  | _ => fun _ => .stk
theorem ed_one {op} (ha : ED X W a da) : ED X W (.BoolOp op [a] pos) da := ⟨pe_one ha.pe⟩
theorem Run.stuck {K : PySem.W.Frag} {W : WX} {α : Type} {σ : L2.St} {ln : Nat → Addr} {c : Ctx} {H : Hp} {Z : Zs} {Fs : Nat → List Addr} {k : α → Ctx → Hp → Zs → (Nat → List Addr) → Prop} (h : Run K W (fun _ => Rs.stk) σ ln c H Z Fs k) : False := h
theorem ed_and (ha : ED X W a da) (hb : ED X W (.BoolOp .And (b :: rest) pos) db) : ED X W (.BoolOp .And (a :: b :: rest) pos) (vAnd da db) := by
  refine ⟨peImp (pe_and ha.pe hb.pe) fun σ H Q q => ?_⟩
  obtain ⟨ln, c, Z, Fs, S, q⟩ := q
  refine ⟨ln, c, Z, Fs, S, q.bind.mono ?_⟩
  rintro x c1 H1 Z1 F1 ⟨S1, T1, h1⟩ v rv
  cases rv with
  | bl k =>
    cases k with
    | true => exact ⟨true, rfl, ln, c1, Z1, F1, S1, h1⟩
    | false => exact ⟨false, rfl, h1.pure S1 _ (.bl false)⟩
  | _ => exact h1.stuck.elim
theorem ed_or (ha : ED X W a da) (hb : ED X W (.BoolOp .Or (b :: rest) pos) db) : ED X W (.BoolOp .Or (a :: b :: rest) pos) (vOr da db) := by
  refine ⟨peImp (pe_or ha.pe hb.pe) fun σ H Q q => ?_⟩
  obtain ⟨ln, c, Z, Fs, S, q⟩ := q
  refine ⟨ln, c, Z, Fs, S, q.bind.mono ?_⟩
  rintro x c1 H1 Z1 F1 ⟨S1, T1, h1⟩ v rv
  cases rv with
  | bl k =>
    cases k with
    | false => exact ⟨false, rfl, ln, c1, Z1, F1, S1, h1⟩
    | true => exact ⟨true, rfl, h1.pure S1 _ (.bl true)⟩
  | _ => exact h1.stuck.elim
theorem ed_not (ha : ED X W a da) : ED X W (.UnaryOp .Not a pos) (vNot da) := by
  refine ⟨peImp (pe_not ha.pe) fun σ H Q q => ?_⟩
  obtain ⟨ln, c, Z, Fs, S, q⟩ := q
  refine ⟨ln, c, Z, Fs, S, q.bind.mono ?_⟩
  rintro x c1 H1 Z1 F1 ⟨S1, T1, h1⟩ v rv
  cases rv with
  | bl k => exact ⟨k, rfl, h1.pure S1 _ (.bl _)⟩
  | _ => exact h1.stuck.elim
end

/-! ### lists of arguments -/
def mCons (ma : M D) (mr : M (List D)) : M (List D) := mb ma fun x => mb mr fun xs => mp (x :: xs)
structure EAL (X : Cx) (W : WX) (es : List Expr) (m : M (List LV)) : Prop where
  pa : PA X es fun σ H Q => ∃ ln c Z Fs, Sl X.K ln H Z c σ Fs ∧ Run X.K W m σ ln c H Z Fs fun ps c' H' Z' Fs' => ∀ vs, Paired (Late X.K σ ln H' Z' Fs') ps vs → Q vs H'
def lCons (ma : M LV) (mr : M (List LV)) : M (List LV) := mb ma fun x => mb mr fun xs => mp (x :: xs)
section
variable {X : Cx} {W : WX} {e : Expr} {es : List Expr} {ma : M D} {mr : M (List D)} {la : M LV} {lr : M (List LV)}
theorem ea_nil : EA X W [] (mp []) := by
  refine ⟨paImp pa_nil fun σ H Q q => ?_⟩
  obtain ⟨ln, c, Z, Fs, S, q⟩ := q
  exact q.pure S [] .nil
theorem ea_cons (ha : ED X W e ma) (hr : EA X W es mr) (hs : starEach (e :: es) X.env = (false, eval e X.env) :: starEach es X.env := by rfl) : EA X W (e :: es) (mCons ma mr) := by
  refine ⟨paImp (pa_cons ha.pe hr.pa hs) fun σ H Q q => ?_⟩
  obtain ⟨ln, c, Z, Fs, S, q⟩ := q
  refine ⟨ln, c, Z, Fs, S, q.bind.mono ?_⟩
  rintro x c1 H1 Z1 F1 ⟨S1, T1, h1⟩ v rv
  refine ⟨ln, c1, Z1, F1, S1, h1.bind.mono ?_⟩
  rintro xs c2 H2 Z2 F2 ⟨S2, T2, h2⟩ vs rvs
  exact h2.pure S2 _ (.cons (rv.ext T2.ext) rvs)
theorem eal_nil : EAL X W [] (mp []) := by
  refine ⟨paImp pa_nil fun σ H Q q => ?_⟩
  obtain ⟨ln, c, Z, Fs, S, q⟩ := q
  exact q.pure S [] .nil
theorem eal_cons (ha : EL X W e la) (hr : EAL X W es lr) (hs : starEach (e :: es) X.env = (false, eval e X.env) :: starEach es X.env := by rfl) : EAL X W (e :: es) (lCons la lr) := by
  refine ⟨paImp (pa_cons ha.pe hr.pa hs) fun σ H Q q => ?_⟩
  obtain ⟨ln, c, Z, Fs, S, q⟩ := q
  refine ⟨ln, c, Z, Fs, S, q.bind.mono ?_⟩
  rintro x c1 H1 Z1 F1 ⟨S1, T1, h1⟩ v rv
  refine ⟨ln, c1, Z1, F1, S1, h1.bind.mono ?_⟩
  rintro xs c2 H2 Z2 F2 ⟨S2, T2, h2⟩ vs rvs
  exact h2.pure S2 _ (.cons (rv.next T2) rvs)
end
end Sw
set_option maxRecDepth 100000
set_option maxHeartbeats 4000000
namespace Sw
open PySem PySem.Spec L2

/-! ### new things -/
section
variable {K : PySem.W.Frag} {H : Hp} {Z : Zs} {p : Addr} {o : HO}
theorem newTup (h : H p = none) (o : HO) : New H Z (upd H p o) Z :=
  ⟨fun b x e => by rw [upd_ne (ne_of_none e h)]; exact e, fun _ z => z, fun _ z => .inl z⟩
/-- .. known to last -/
def zAdd (Z : Zs) (p : Addr) : Zs := fun a => Z a ∨ a = p
theorem newLst (h : H p = none) (o : HO) : New H Z (upd H p o) (zAdd Z p) :=
  ⟨fun b x e => by rw [upd_ne (ne_of_none e h)]; exact e, fun _ z => .inl z, fun a z => by
    rcases z with z | z
    · exact .inl z
    · subst z
      exact .inr ⟨h, by rw [upd_same]; simp⟩⟩
theorem rp_tup {xs : List D} {vs : List V} {H' : Hp} (h : H' p = some (.tup vs)) (r : Rps K H' Z xs vs) : Rp K H' Z (.nd .tup xs) (.ref p) := .tup (.inl (.inl h)) r
end

/-! ### views -/
def lstOf : D → Option (List D) | .nd .lst xs => some xs | _ => none
theorem lstOf_eq {x : D} {xs : List D} (h : lstOf x = some xs) : x = .nd .lst xs := by
  cases x with
  | nd t ys => cases t <;> first | (cases h; rfl) | cases h
  | _ => cases h
section
variable {K : PySem.W.Frag} {H : Hp} {Z : Zs} {x : D} {v : V}
theorem RpV.lst {xs : List D} (h : RpV K H Z x v) (e : lstOf x = some xs) : ∃ a vs, x = .nd .lst xs ∧ v = .ref a ∧ H a = some (.lst vs) ∧ Rps K H Z xs vs := by
  cases lstOf_eq e
  rcases h with h | ⟨a, vs, ys, e1, e2, h1, r⟩
  · cases h with
    | lst h z r => exact ⟨_, _, rfl, rfl, h, r⟩
  · cases e1
    exact ⟨a, vs, rfl, e2, h1, r⟩
theorem RpV.notL (h : RpV K H Z x v) (e : lstOf x = none) : Rp K H Z x v := by
  rcases h with h | ⟨a, vs, ys, e1, e2, h1, r⟩
  · exact h
  · rw [e1] at e; cases e
theorem RpV.i {i : Int} (h : RpV K H Z (.int i) v) : v = .int i := by
  have h := h.notL rfl
  cases h
  rfl
end

/-! ### operators by deep values -/
def gAdd : D → D → Option D
  | .int i, .int j => some (.int (i + j))
  | .str a, .str b => if a.length + b.length ≤ sizeLine then some (.str (a ++ b)) else none
  | .nd .tup xs, .nd .tup ys => if xs.length + ys.length ≤ sizeLine then some (.nd .tup (xs ++ ys)) else none
  | .nd .lst xs, .nd .lst ys => if xs.length + ys.length ≤ sizeLine then some (.nd .lst (xs ++ ys)) else none
  | _, _ => none
section
variable {X : Cx}
abbrev rAdd (K : PySem.W.Frag) : R2 := fun x y H Q => rI0 (fun i j => .int (i + j)) x y H Q ∨ ((∃ i j, x = .str i ∧ y = .str j ∧ i.length + j.length ≤ sizeLine ∧ Q (.str (i ++ j)) H) ∨ (rCatA K x y H Q ∨ rCat x y H Q))
theorem opr_add : OpR X (binaryOp .Add) (rAdd X.K) := op_add.or (op_add_str.or (op_catA.or op_cat))
theorem dop_add (K : PySem.W.Frag) : DOp K (rAdd K) gAdd := by
  intro H Z x y dx dy dz rx ry zl e Q q
  cases hl : lstOf dx with
  | some xs =>
    obtain ⟨a, vs, rfl, rfl, h1, r1⟩ := rx.lst hl
    cases hm : lstOf dy with
    | none =>
      cases dy with
      | nd t zs => cases t <;> first | (cases e; done) | (cases hm; done)
      | _ => cases e
    | some ys =>
      obtain ⟨b, us, rfl, rfl, h2, r2⟩ := ry.lst hm
      have e : (if xs.length + ys.length ≤ sizeLine then some (D.nd .lst (xs ++ ys)) else none) = some dz := e
      split at e
      · rename_i h
        cases e
        refine .inr (.inr (.inr ⟨a, b, vs, us, rfl, rfl, h1, h2, by rw [← r1.length, ← r2.length]; exact h, fun p hp => ?_⟩))
        have n := newLst (Z := Z) hp (.lst (vs ++ us))
        exact q _ _ _ n (.lst upd_same (.inr rfl) ((r1.ext n.ext).append (r2.ext n.ext)))
      · cases e
  | none =>
  have rx := rx.notL hl
  have ry : Rp K H Z dy y := by
    cases hm : lstOf dy with
    | none => exact ry.notL hm
    | some ys =>
      cases lstOf_eq hm
      cases dx with
      | nd t zs => cases t <;> first | (cases e; done) | (cases hl; done)
      | _ => cases e
  cases rx with
  | int i =>
    cases ry with
    | int j => cases e; exact .inl ⟨i, j, rfl, rfl, q _ H Z .refl (.int _)⟩
    | _ => cases e
  | str i =>
    cases ry with
    | str j =>
      have e : (if i.length + j.length ≤ sizeLine then some (D.str (i ++ j)) else none) = some dz := e
      split at e
      · rename_i h
        cases e
        exact .inr (.inl ⟨i, j, rfl, rfl, h, q _ H Z .refl (.str _)⟩)
      · cases e
    | _ => cases e
  | @tup a vs xs h1 r1 =>
    cases ry with
    | @tup b us ys h2 r2 =>
      have e : (if xs.length + ys.length ≤ sizeLine then some (D.nd .tup (xs ++ ys)) else none) = some dz := e
      split at e
      · rename_i h
        cases e
        refine .inr (.inr (.inl ⟨a, b, vs, us, rfl, rfl, h1, h2, by rw [← r1.length, ← r2.length]; exact h, fun z => ?_, fun _ z => ?_, fun _ _ p hp => ?_⟩))
        · subst z
          cases r1
          exact q _ H Z .refl (.tup h2 r2)
        · subst z
          cases r2
          rw [List.append_nil] at q
          exact q _ H Z .refl (.tup h1 r1)
        · have n := newTup (Z := Z) hp (.tup (vs ++ us))
          exact q _ _ Z n (rp_tup upd_same ((r1.ext n.ext).append (r2.ext n.ext)))
      · cases e
    | _ => cases e
  | lst h1 z1 r1 => cases hl
  | _ => cases e

/-- an operator on two ints -/
theorem dop_I {C : Int → Int → Prop} [hC : ∀ i j, Decidable (C i j)] {g : Int → Int → Int} (K : PySem.W.Frag) : DOp K (rI C fun i j => .int (g i j)) (fun x y => match x, y with
    | .int i, .int j => if C i j then some (.int (g i j)) else none
    | _, _ => none) := by
  intro H Z x y dx dy dz rx ry zl e Q q
  cases dx with
  | int i =>
    cases dy with
    | int j =>
      cases rx.i
      cases ry.i
      have e : (if C i j then some (D.int (g i j)) else none) = some dz := e
      split at e
      · rename_i h
        cases e
        exact ⟨i, j, rfl, rfl, h, q _ H Z .refl (.int _)⟩
      · cases e
    | _ => cases e
  | _ => cases e
theorem dop_I0 {g : Int → Int → Int} (K : PySem.W.Frag) : DOp K (rI0 fun i j => .int (g i j)) (fun x y => match x, y with
    | .int i, .int j => some (.int (g i j))
    | _, _ => none) := by
  intro H Z x y dx dy dz rx ry zl e Q q
  cases dx with
  | int i =>
    cases dy with
    | int j =>
      cases rx.i
      cases ry.i
      cases e
      exact ⟨i, j, rfl, rfl, q _ H Z .refl (.int _)⟩
    | _ => cases e
  | _ => cases e
theorem dop_B0 {g : Int → Int → Bool} (K : PySem.W.Frag) : DOp K (rI0 fun i j => .bl (g i j)) (fun x y => match x, y with
    | .int i, .int j => some (.bl (g i j))
    | _, _ => none) := by
  intro H Z x y dx dy dz rx ry zl e Q q
  cases dx with
  | int i =>
    cases dy with
    | int j =>
      cases rx.i
      cases ry.i
      cases e
      exact ⟨i, j, rfl, rfl, q _ H Z .refl (.bl _)⟩
    | _ => cases e
  | _ => cases e
instance (i j : Int) : Decidable (CMul i j) := inferInstanceAs (Decidable (_ ∨ _))
instance (i j : Int) : Decidable (CDiv i j) := inferInstanceAs (Decidable (_ ∧ _))
def gSub : D → D → Option D | .int i, .int j => some (.int (i - j)) | _, _ => none
def gMul : D → D → Option D | .int i, .int j => if CMul i j then some (.int (i * j)) else none | _, _ => none
def gDiv : D → D → Option D | .int i, .int j => if CDiv i j then some (.int (i / j)) else none | _, _ => none
def gMod : D → D → Option D | .int i, .int j => if 0 < j then some (.int (i % j)) else none | _, _ => none
def gLt : D → D → Option D | .int i, .int j => some (.bl (decide (i < j))) | _, _ => none
def gLe : D → D → Option D | .int i, .int j => some (.bl (decide (i ≤ j))) | _, _ => none
def gGt : D → D → Option D | .int i, .int j => some (.bl (decide (j < i))) | _, _ => none
def gGe : D → D → Option D | .int i, .int j => some (.bl (decide (j ≤ i))) | _, _ => none
theorem DOp.of {K : PySem.W.Frag} {r : R2} {g g' : D → D → Option D} (h : DOp K r g) (e : ∀ x y z, g' x y = some z → g x y = some z) : DOp K r g' :=
  fun H Z x y dx dy dz rx ry zl q => h H Z x y dx dy dz rx ry zl (e _ _ _ q)
theorem dop_sub (K : PySem.W.Frag) : DOp K (rI0 fun i j => .int (i - j)) gSub := (dop_I0 K).of fun x y z h => by
  cases x <;> cases y <;> first | exact h | (cases h)
theorem dop_mul (K : PySem.W.Frag) : DOp K (rI CMul fun i j => .int (i * j)) gMul := (dop_I K).of fun x y z h => by
  cases x <;> cases y <;> first | exact h | (cases h)
theorem dop_div (K : PySem.W.Frag) : DOp K (rI CDiv fun i j => .int (i / j)) gDiv := (dop_I K).of fun x y z h => by
  cases x <;> cases y <;> first | exact h | (cases h)
theorem dop_mod (K : PySem.W.Frag) : DOp K (rI (fun _ j => 0 < j) fun i j => .int (i % j)) gMod := (dop_I (C := fun _ j => 0 < j) K).of fun x y z h => by
  cases x <;> cases y <;> first | exact h | (cases h)
theorem dop_lt (K : PySem.W.Frag) : DOp K (rI0 fun i j => .bl (decide (i < j))) gLt := (dop_B0 K).of fun x y z h => by
  cases x <;> cases y <;> first | exact h | (cases h)
theorem dop_le (K : PySem.W.Frag) : DOp K (rI0 fun i j => .bl (decide (i ≤ j))) gLe := (dop_B0 K).of fun x y z h => by
  cases x <;> cases y <;> first | exact h | (cases h)
theorem dop_gt (K : PySem.W.Frag) : DOp K (rI0 fun i j => .bl (decide (j < i))) gGt := (dop_B0 K).of fun x y z h => by
  cases x <;> cases y <;> first | exact h | (cases h)
theorem dop_ge (K : PySem.W.Frag) : DOp K (rI0 fun i j => .bl (decide (j ≤ i))) gGe := (dop_B0 K).of fun x y z h => by
  cases x <;> cases y <;> first | exact h | (cases h)
end

/-! ### == -/
mutual
def D.py : D → PyData
  | .non => .none
  | .bl b => .bool b
  | .int i => .int i
  | .str x => .str x
  | .nd .tup xs => .tuple (D.pys xs)
  | .nd .lst xs => .list (D.pys xs)
  | .nd .scr xs => .list (D.pys xs)
  | .nd _ _ => .dict []
def D.pys : List D → List PyData
  | [] => []
  | x :: xs => D.py x :: D.pys xs
end
/-- no dicts, no instances -/
def Tag.flat : Tag → Bool | .tup => true | .lst => true | .scr => true | _ => false
mutual
def D.plain : D → Bool
  | .nd t xs => t.flat && D.plains xs
  | _ => true
def D.plains : List D → Bool
  | [] => true
  | x :: xs => D.plain x && D.plains xs
end
section
variable {K : PySem.W.Frag} {H : Hp} {Z : Zs}
theorem plain_nd {t : Tag} {xs : List D} (p : D.plain (.nd t xs) = true) : t.flat = true ∧ D.plains xs = true := by
  rw [D.plain, Bool.and_eq_true] at p
  exact p
mutual
theorem Rp.dp : ∀ {x : D} {v : V}, Rp K H Z x v → x.plain = true → Dp K H v x.py
  | _, _, .non, _ => .non
  | _, _, .bl b, _ => .bl b
  | _, _, .int i, _ => .int i
  | _, _, .str x, _ => .str x
  | _, _, .tup h r, p => .tup h (Rps.dp r (plain_nd p).2)
  | _, _, .lst h z r, p => .lst (.inl (.inl h)) (Rps.dp r (plain_nd p).2)
  | _, _, .scr h r, p => .lst h.sq (Rps.dp r (plain_nd p).2)
  | _, _, .exc0 h _, p => nomatch (plain_nd p).1
  | _, _, .exc1 _ _ _ _ _ _ _, p => nomatch (plain_nd p).1
theorem Rps.dp : ∀ {xs : List D} {vs : List V}, Rps K H Z xs vs → D.plains xs = true → DpAll K H vs (D.pys xs)
  | _, _, .nil, _ => .nil
  | _, _, .cons h r, p => by
    rw [D.plains, Bool.and_eq_true] at p
    exact .cons (Rp.dp h p.1) (Rps.dp r p.2)
end
end
theorem RpV.dpv {K : PySem.W.Frag} {H : Hp} {Z : Zs} {x : D} {v : V} (h : RpV K H Z x v) (p : x.plain = true) : Dp K H v x.py := by
  rcases h with h | ⟨a, vs, ys, rfl, rfl, h1, r⟩
  · exact h.dp p
  · exact .lst (.inl (.inl h1)) (r.dp (plain_nd p).2)
mutual
theorem D.plain_lay : ∀ {x : D}, x.py.canLay0 = true → x.plain = true
  | .non, _ => rfl
  | .bl _, _ => rfl
  | .int _, _ => rfl
  | .str _, _ => rfl
  | .nd t xs, h => by
    cases t with
    | tup => exact D.plains_lay (xs := xs) (by simpa [D.py, PyData.canLay0] using h)
    | lst => exact D.plains_lay (xs := xs) (by simpa [D.py, PyData.canLay0] using h)
    | scr => exact D.plains_lay (xs := xs) (by simpa [D.py, PyData.canLay0] using h)
    | _ => cases h
theorem D.plains_lay : ∀ {xs : List D}, PyData.canLayAll0 (D.pys xs) = true → D.plains xs = true
  | [], _ => rfl
  | x :: xs, h => by
    rw [D.pys, PyData.canLayAll0, Bool.and_eq_true] at h
    rw [D.plains, D.plain_lay h.1, D.plains_lay h.2]
    rfl
end
end Sw
set_option maxRecDepth 100000
set_option maxHeartbeats 4000000
namespace Sw
open PySem PySem.Spec L2

section
variable {K : PySem.W.Frag} {H : Hp} {Z : Zs}
theorem Rps.atI {xs : List D} {vs : List V} {i : Int} {x : D} (r : Rps K H Z xs vs) (h : L2.atI xs i = some x) : ∃ v, L2.atI vs i = some v ∧ Rp K H Z x v := by
  unfold L2.atI at h ⊢
  rw [← r.length]
  cases e : ixN xs.length i with
  | none => rw [e] at h; cases h
  | some j =>
    rw [e] at h
    exact r.get' h
theorem RpV.sq {t : Tag} {xs : List D} {v : V} (h : RpV K H Z (.nd t xs) v) (ht : t = .lst ∨ t = .scr) : ∃ a vs, v = .ref a ∧ SqL K H a vs ∧ Rps K H Z xs vs := by
  rcases h with h | ⟨a, vs, ys, e1, e2, h1, r⟩
  · cases h with
    | tup h r => rcases ht with h | h <;> cases h
    | lst h z r => exact ⟨_, _, rfl, .inl (.inl h), r⟩
    | scr h r => exact ⟨_, _, rfl, h.sq, r⟩
    | exc0 _ _ => rcases ht with h | h <;> cases h
    | exc1 _ _ _ _ _ _ _ => rcases ht with h | h <;> cases h
  · cases e1
    exact ⟨a, vs, e2, .inl (.inl h1), r⟩
theorem RpV.tp {xs : List D} {v : V} (h : RpV K H Z (.nd .tup xs) v) : ∃ a vs, v = .ref a ∧ SqT K H a vs ∧ Rps K H Z xs vs := by
  have h' := h.notL rfl
  cases h' with
  | tup h1 r => exact ⟨_, _, rfl, h1, r⟩
theorem RpV.s {x : Str} {v : V} (h : RpV K H Z (.str x) v) : v = .str x := by
  have h := h.notL rfl
  cases h
  rfl
theorem RpV.b {b : Bool} {v : V} (h : RpV K H Z (.bl b) v) : v = .bl b := by
  have h := h.notL rfl
  cases h
  rfl
theorem RpV.n {v : V} (h : RpV K H Z .non v) : v = .non := by
  have h := h.notL rfl
  cases h
  rfl
end

/-! ### subscripts -/
def gIx : D → D → Option D
  | .nd .tup xs, .int i => L2.atI xs i
  | .nd .lst xs, .int i => L2.atI xs i
  | .nd .scr xs, .int i => L2.atI xs i
  | .str z, .int i => if z.length ≤ sizeLine then (L2.atI z.cps.toList i).map fun c => .str ⟨#[c]⟩ else none
  | _, _ => none
theorem dop_ix (K : PySem.W.Frag) : DOp K (rIx K) gIx := by
  intro H Z x y dx dy dz rx ry zl e Q q
  cases dy with
  | int i =>
    cases ry.i
    cases dx with
    | str z =>
      cases rx.s
      have e : (if z.length ≤ sizeLine then (L2.atI z.cps.toList i).map fun c => D.str ⟨#[c]⟩ else none) = some dz := e
      split at e
      · rename_i h
        obtain ⟨c, e1, e2⟩ := Option.map_eq_some_iff.mp e
        cases e2
        exact .inr (.inr ⟨z, i, c, rfl, rfl, h, e1, q _ H Z .refl (.str _)⟩)
      · cases e
    | nd t xs =>
      cases t with
      | tup =>
        obtain ⟨a, vs, rfl, h, r⟩ := rx.tp
        obtain ⟨v, e1, rv⟩ := r.atI e
        exact .inr (.inl ⟨a, vs, i, v, rfl, rfl, h, e1, q _ H Z .refl rv⟩)
      | lst =>
        obtain ⟨a, vs, rfl, h, r⟩ := rx.sq (.inl rfl)
        obtain ⟨v, e1, rv⟩ := r.atI e
        exact .inl ⟨a, vs, i, v, rfl, rfl, h, e1, q _ H Z .refl rv⟩
      | scr =>
        obtain ⟨a, vs, rfl, h, r⟩ := rx.sq (.inr rfl)
        obtain ⟨v, e1, rv⟩ := r.atI e
        exact .inl ⟨a, vs, i, v, rfl, rfl, h, e1, q _ H Z .refl rv⟩
      | _ => cases e
    | _ => cases e
  | _ => cases dx <;> first | (cases e; done) | (rename_i t xs; cases t <;> cases e)

/-! ### slices -/
def cutD (xs : List D) (lo hi : Option Int) : List D := (xs.drop (HT.sIx xs.length 0 lo)).take (HT.sIx xs.length xs.length hi - HT.sIx xs.length 0 lo)
theorem Rps.cut {K : PySem.W.Frag} {H : Hp} {Z : Zs} {xs : List D} {vs : List V} (r : Rps K H Z xs vs) (lo hi : Option Int) : Rps K H Z (cutD xs lo hi) (cutV vs lo hi) := by
  unfold cutD cutV
  rw [← r.length]
  exact (r.drop _).take _
def rSlice (K : PySem.W.Frag) : V → Option Int → Option Int → Hp → VK → Prop := fun x lo hi H Q => rSlA K x lo hi H Q ∨ (rSlL K x lo hi H Q ∨ rSlS x lo hi H Q)
theorem sl_any {X : Cx} : SlR X (rSlice X.K) := sl_tupA.or (sl_list.or sl_str)
def DSl (K : PySem.W.Frag) (r : V → Option Int → Option Int → Hp → VK → Prop) (g : D → Option Int → Option Int → Option D) : Prop := ∀ (H : Hp) (Z : Zs) (x : V) (dx dz : D) (lo hi : Option Int), RpV K H Z dx x → g dx lo hi = some dz → ∀ Q : VK, (∀ v H' Z', New H Z H' Z' → Rp K H' Z' dz v → Q v H') → r x lo hi H Q
def gSl : D → Option Int → Option Int → Option D
  | .nd .tup xs, lo, hi => some (.nd .tup (cutD xs lo hi))
  | .nd .lst xs, lo, hi => some (.nd .lst (cutD xs lo hi))
  | .nd .scr xs, lo, hi => some (.nd .lst (cutD xs lo hi))
  | .str z, lo, hi => if z.length ≤ sizeLine then some (.str (cutS z lo hi)) else none
  | _, _, _ => none
theorem whole_cut {xs : List D} {lo hi : Option Int} (h : HT.sIx xs.length 0 lo = 0 ∧ HT.sIx xs.length xs.length hi = xs.length) : cutD xs lo hi = xs := by
  unfold cutD
  rw [h.1, h.2, List.drop_zero, Nat.sub_zero, List.take_length]
theorem dsl_any (K : PySem.W.Frag) : DSl K (rSlice K) gSl := by
  intro H Z x dx dz lo hi rx e Q q
  cases dx with
  | str z =>
    cases rx.s
    have e : (if z.length ≤ sizeLine then some (D.str (cutS z lo hi)) else none) = some dz := e
    split at e
    · rename_i h
      cases e
      exact .inr (.inr ⟨z, rfl, h, q _ H Z .refl (.str _)⟩)
    · cases e
  | nd t xs =>
    cases t with
    | tup =>
      cases e
      obtain ⟨a, vs, rfl, h, r⟩ := rx.tp
      refine .inl ⟨a, vs, rfl, h, fun w => ?_, fun w p hp => ?_⟩
      · rw [← r.length] at w
        rw [whole_cut w] at q
        exact q _ H Z .refl (.tup h r)
      · have n := newTup (Z := Z) hp (.tup (cutV vs lo hi))
        exact q _ _ _ n (rp_tup upd_same ((r.ext n.ext).cut lo hi))
    | lst =>
      cases e
      obtain ⟨a, vs, rfl, h, r⟩ := rx.sq (.inl rfl)
      refine .inr (.inl ⟨a, vs, rfl, h, fun p hp => ?_⟩)
      have n := newLst (Z := Z) hp (.lst (cutV vs lo hi))
      exact q _ _ _ n (.lst upd_same (.inr rfl) ((r.ext n.ext).cut lo hi))
    | scr =>
      cases e
      obtain ⟨a, vs, rfl, h, r⟩ := rx.sq (.inr rfl)
      refine .inr (.inl ⟨a, vs, rfl, h, fun p hp => ?_⟩)
      have n := newLst (Z := Z) hp (.lst (cutV vs lo hi))
      exact q _ _ _ n (.lst upd_same (.inr rfl) ((r.ext n.ext).cut lo hi))
    | _ => cases e
  | _ => cases e
/-- a part of a slice -/
structure EP' (X : Cx) (W : WX) (e : Option Expr) (m : M (Option Int)) : Prop where
  po : PO X e fun σ H Q => ∃ ln c Z Fs, Sl X.K ln H Z c σ Fs ∧ Run X.K W m σ ln c H Z Fs fun o c' H' Z' Fs' => Q o H'
def toI : D → Option Int | .int i => some i | _ => none
def mPart (m : M D) : M (Option Int) := mb m fun x => mb (ml (toI x)) fun i => mp (some i)
theorem poImp {X : Cx} {e : Option Expr} {t t' : L2.TO} (h : PO X e t) (i : ∀ σ H Q, t' σ H Q → t σ H Q) : PO X e t' := ⟨fun pins s σ H Q I q => h.run pins s σ H Q I (i σ H Q q)⟩
def mSl (g : D → Option Int → Option Int → Option D) (ma : M LV) (lo hi : M (Option Int)) : M D := mb ma fun p => mb lo fun l => mb hi fun h => fun c => match p c with
  | none => .stk
  | some x => ml (g x l h) c
section
variable {X : Cx} {W : WX} {e : Expr} {me : M D} {lo hi : Option Expr} {ml' mh : M (Option Int)} {ma : M LV} {pos p2 : Pos}
theorem ep_none : EP' X W none (mp none) := by
  refine ⟨poImp po_none fun σ H Q q => ?_⟩
  obtain ⟨ln, c, Z, Fs, S, q⟩ := q
  exact q.pure S
theorem ep_some (h : ED X W e me) : EP' X W (some e) (mPart me) := by
  refine ⟨poImp (po_some h.pe) fun σ H Q q => ?_⟩
  obtain ⟨ln, c, Z, Fs, S, q⟩ := q
  refine ⟨ln, c, Z, Fs, S, q.bind.mono ?_⟩
  rintro x c1 H1 Z1 F1 ⟨S1, T1, h1⟩ v rv
  obtain ⟨i, ei, h2⟩ := h1.bind.lift
  obtain ⟨S2, T2, h3⟩ := h2 H1 Z1 F1 S1 .refl
  cases x with
  | int j =>
    cases ei
    cases rv
    exact ⟨_, rfl, h3.pure S2⟩
  | _ => cases ei
theorem ed_sl {r : V → Option Int → Option Int → Hp → VK → Prop} {g : D → Option Int → Option Int → Option D} (hr : SlR X r) (hg : DSl X.K r g) (ha : EL X W e ma) (hl : EP' X W lo ml') (hh : EP' X W hi mh) : ED X W (.Subscript e (.Slice lo hi none p2) pos) (mSl g ma ml' mh) := by
  refine ⟨peImp (pe_slice hr ha.pe hl.po hh.po) fun σ H Q q => ?_⟩
  obtain ⟨ln, c, Z, Fs, S, q⟩ := q
  refine ⟨ln, c, Z, Fs, S, q.bind.mono ?_⟩
  rintro p c1 H1 Z1 F1 ⟨S1, T1, h1⟩ v rv
  refine ⟨ln, c1, Z1, F1, S1, h1.bind.mono ?_⟩
  rintro l c2 H2 Z2 F2 ⟨S2, T2, h2⟩
  refine ⟨ln, c2, Z2, F2, S2, h2.bind.mono ?_⟩
  rintro h c3 H3 Z3 F3 ⟨S3, T3, h3⟩
  unfold Run at h3
  cases ep : p c3 with
  | none => simp only [ep] at h3
  | some x =>
    simp only [ep] at h3
    obtain ⟨z, ez, h4⟩ := Run.lift (K := X.K) (W := W) (o := g x l h) (c := c3) h3
    exact hg H3 Z3 v x z l h (rv c3 H3 Z3 F3 x S3 (T2.trans T3) ep) ez Q fun w H' Z' n rw' => h4 H' Z' F3 (S3.new n) n.stp w rw'
end

/-! ### displays -/
def lim (xs : List D) : Option (List D) := if xs.length ≤ sizeLine then some xs else none
def mTup (m : M (List D)) : M D := mb m fun xs => mb (ml (lim xs)) fun xs => mp (.nd .tup xs)
def mLst (m : M (List D)) : M O := mb m fun xs => mb (ml (lim xs)) fun xs => mp (.lst xs)
theorem lim_some {xs ys : List D} (h : lim xs = some ys) : ys = xs ∧ xs.length ≤ sizeLine := by
  unfold lim at h
  split at h
  · rename_i q
    cases h
    exact ⟨rfl, q⟩
  · cases h
def frz : O → D
  | .lst xs => .nd .lst xs
def mFz (m : M O) : M D := mb m fun x => mp (frz x)
section
variable {X : Cx} {W : WX} {es : List Expr} {m : M (List D)} {pos : Pos}
theorem ed_tup {k} (h : EA X W es m) : ED X W (.Tuple es k pos) (mTup m) := by
  refine ⟨peImp (pe_tup h.pa) fun σ H Q q => ?_⟩
  obtain ⟨ln, c, Z, Fs, S, q⟩ := q
  refine ⟨ln, c, Z, Fs, S, q.bind.mono ?_⟩
  rintro xs c1 H1 Z1 F1 ⟨S1, T1, h1⟩ vs rvs
  obtain ⟨ys, ey, h2⟩ := h1.bind.lift
  obtain ⟨rfl, hz⟩ := lim_some ey
  refine ⟨by rw [← rvs.length]; exact hz, fun p hp => ?_⟩
  have n := newTup (Z := Z1) hp (.tup vs)
  obtain ⟨S2, T2, h3⟩ := h2 _ _ _ (S1.new n) n.stp
  exact h3.pure S2 _ (rp_tup upd_same (rvs.ext n.ext))
/-- a new list, owned -/
theorem own_new {K : PySem.W.Frag} {W : WX} {xs : List D} {vs : List V} {σ : L2.St} {ln : Nat → Addr} {c : Ctx} {H : Hp} {Z : Zs} {Fs : Nat → List Addr} {p : Addr} (S : Sl K ln H Z c σ Fs) (hp : H p = none) (r : Rps K H Z xs vs) :
    New H Z (upd H p (.lst vs)) Z ∧ RpO K (upd H p (.lst vs)) Z (.lst xs) (.ref p) [p] ∧ (∀ i, p ∉ Fs i) ∧ ¬ Z p := by
  have n := newTup (Z := Z) hp (.lst vs)
  refine ⟨n, ⟨p, vs, rfl, rfl, upd_same, r.ext n.ext⟩, fun i hi => ?_, fun z => S.zl p z hp⟩
  obtain ⟨xs, e⟩ := (S.rep i).there p hi
  rw [hp] at e; cases e
theorem eo_lst (h : EA X W es m) : EO X W (.List es pos) (mLst m) := by
  refine ⟨peImp (pe_lst h.pa) fun σ H Q q => ?_⟩
  obtain ⟨ln, c, Z, Fs, S, q⟩ := q
  refine ⟨ln, c, Z, Fs, S, q.bind.mono ?_⟩
  rintro xs c1 H1 Z1 F1 ⟨S1, T1, h1⟩ vs rvs
  obtain ⟨ys, ey, h2⟩ := h1.bind.lift
  obtain ⟨rfl, hz⟩ := lim_some ey
  refine ⟨by rw [← rvs.length]; exact hz, fun p hp => ?_⟩
  obtain ⟨n, ro, nF, nZ⟩ := own_new (W := W) S1 hp rvs
  obtain ⟨S2, T2, h3⟩ := h2 _ _ _ (S1.new n) n.stp
  refine h3.pure S2 _ _ ro (fun a ha => ?_) (fun a ha => ?_) fun a ha => ?_
  · rw [List.mem_singleton.mp ha]
    exact .inr (dead_of T1.live hp)
  · rw [List.mem_singleton.mp ha]
    exact nF
  · rw [List.mem_singleton.mp ha]
    exact nZ
/-- what is owned lasts from here on -/
def zF (Z : Zs) (F : List Addr) : Zs := fun a => Z a ∨ a ∈ F
theorem RpO.frz {K : PySem.W.Frag} {H : Hp} {Z : Zs} {x : O} {v : V} {F : List Addr} (h : RpO K H Z x v F) : Rp K H (zF Z F) (Sw.frz x) v := by
  have e : Ext H Z H (zF Z F) := ⟨fun _ _ q => q, fun _ _ _ q => q, fun _ _ _ q => q, fun _ q => .inl q⟩
  cases x with
  | lst xs =>
    obtain ⟨a, vs, rfl, rfl, h2, r⟩ := h
    exact .lst h2 (.inr (by simp)) (r.ext e)
theorem zF_ext {H : Hp} {Z : Zs} {F : List Addr} : Ext H Z H (zF Z F) := ⟨fun _ _ q => q, fun _ _ _ q => q, fun _ _ _ q => q, fun _ q => .inl q⟩
theorem Sl.zF {K : PySem.W.Frag} {σ : L2.St} {ln : Nat → Addr} {c : Ctx} {H : Hp} {Z : Zs} {Fs : Nat → List Addr} {F : List Addr} (S : Sl K ln H Z c σ Fs) (f : ∀ a ∈ F, ∀ i, a ∉ Fs i) (l : ∀ a ∈ F, H a ≠ none) : Sl K ln H (Sw.zF Z F) c σ Fs :=
  ⟨S.len, fun i => (S.rep i).ext zF_ext fun _ _ _ q => q, S.dis, fun i b hb z => z.elim (S.nz i b hb) fun z => f b z i hb, fun b z => z.elim (S.zl b) (l b)⟩
theorem RpO.live {K : PySem.W.Frag} {H : Hp} {Z : Zs} {x : O} {v : V} {F : List Addr} (h : RpO K H Z x v F) : ∀ a ∈ F, H a ≠ none := fun a ha => by
  obtain ⟨xs, e⟩ := h.there a ha
  rw [e]; simp
theorem Run.fz {K : PySem.W.Frag} {W : WX} {m : M O} {σ : L2.St} {ln : Nat → Addr} {c : Ctx} {H : Hp} {Z : Zs} {Fs : Nat → List Addr} {Q : VK} (q : Run K W (mFz m) σ ln c H Z Fs fun x c' H' Z' Fs' => ∀ v, Rp K H' Z' x v → Q v H') :
    Run K W m σ ln c H Z Fs fun x c' H' Z' Fs' => ∀ v F, RpO K H' Z' x v F → (∀ a ∈ F, Ow Fs a ∨ H a = none) → (∀ a ∈ F, ∀ i, a ∉ Fs' i) → (∀ a ∈ F, ¬ Z' a) → Q v H' := by
  unfold Run mFz mb mp at q
  unfold Run
  cases e : m c with
  | stk => rw [e] at q; exact q
  | er x c' => rw [e] at q; exact q
  | ok x c1 =>
    rw [e] at q
    intro H1 Z1 F1 S1 T1 v F ro f1 f2 f3
    refine q H1 (zF Z1 F) F1 (S1.zF f2 ro.live) ⟨T1.ext.trans zF_ext, T1.keep, T1.live, T1.out, fun b z => ?_⟩ v ro.frz
    rcases z with z | z
    · exact T1.zout b z
    · exact (f1 b z).elim (fun q => .inr (.inl q)) fun q => .inr (.inr q)
theorem ed_fz {e : Expr} {mo : M O} (h : EO X W e mo) : ED X W e (mFz mo) := by
  refine ⟨peImp h.pe fun σ H Q q => ?_⟩
  obtain ⟨ln, c, Z, Fs, S, q⟩ := q
  exact ⟨ln, c, Z, Fs, S, q.fz⟩
end
end Sw
set_option maxRecDepth 100000
set_option maxHeartbeats 4000000
namespace Sw
open PySem PySem.Spec L2

/-! ### built-in calls -/
def DCl (K : PySem.W.Frag) (r : List V → Hp → VK → Prop) (g : List D → Option D) : Prop := ∀ (H : Hp) (Z : Zs) (vs : List V) (xs : List D) (dz : D), Paired (RpV K H Z) xs vs → (∀ a, Z a → H a ≠ none) → g xs = some dz → ∀ Q : VK, (∀ v H' Z', New H Z H' Z' → Rp K H' Z' dz v → Q v H') → r vs H Q
/-- one that makes a thing, owned -/
def OCl (K : PySem.W.Frag) (r : List V → Hp → VK → Prop) (g : List D → Option O) : Prop := ∀ (H : Hp) (Z : Zs) (vs : List V) (xs : List D) (z : O), Paired (RpV K H Z) xs vs → (∀ a, Z a → H a ≠ none) → g xs = some z → ∀ Q : VK, (∀ v F H' Z', New H Z H' Z' → RpO K H' Z' z v F → (∀ a ∈ F, H a = none) → (∀ a ∈ F, ¬ Z' a) → Q v H') → r vs H Q
def rdAll : List LV → Ctx → Option (List D)
  | [], _ => some []
  | p :: ps, c => match p c, rdAll ps c with
    | some x, some xs => some (x :: xs)
    | _, _ => none
def mCl {α : Type} (g : List D → Option α) (m : M (List LV)) : M α := mb m fun ps => fun c => match rdAll ps c with
  | some xs => ml (g xs) c
  | none => .stk
theorem rdAll_rep {K : PySem.W.Frag} {σ : L2.St} {ln : Nat → Addr} {c : Ctx} {H : Hp} {Z : Zs} {Fs : Nat → List Addr} (S : Sl K ln H Z c σ Fs) : ∀ {ps : List LV} {vs : List V} {xs : List D}, Paired (Late K σ ln H Z Fs) ps vs → rdAll ps c = some xs → Paired (RpV K H Z) xs vs
  | [], [], _, .nil, e => by cases e; exact .nil
  | p :: ps, v :: vs, xs, .cons h t, e => by
    unfold rdAll at e
    cases e1 : p c with
    | none => rw [e1] at e; cases e
    | some x =>
      cases e2 : rdAll ps c with
      | none => rw [e1, e2] at e; cases e
      | some ys =>
        rw [e1, e2] at e
        cases e
        exact .cons (h c H Z Fs x S .refl e1) (rdAll_rep S t e2)
section
variable {X : Cx} {W : WX} {x : Str} {p pos : Pos} {e : Expr} {es : List Expr} {m : M (List LV)} {id : String} {r : List V → Hp → VK → Prop}
theorem call_core {K : PySem.W.Frag} {α : Type} {g : List D → Option α} {σ : L2.St} {ln : Nat → Addr} {c : Ctx} {H : Hp} {Z : Zs} {Fs : Nat → List Addr} {k : α → Ctx → Hp → Zs → (Nat → List Addr) → Prop} (q : Run K W (mCl g m) σ ln c H Z Fs k) :
    Run K W m σ ln c H Z Fs fun ps c1 H1 Z1 F1 => Sl K ln H1 Z1 c1 σ F1 ∧ Stp H Z (Ow Fs) H1 Z1 (Ow F1) ∧ ∃ xs z, rdAll ps c1 = some xs ∧ g xs = some z ∧ ∀ H' Z' Fs', Sl K ln H' Z' c1 σ Fs' → Stp H1 Z1 (Ow F1) H' Z' (Ow Fs') → k z c1 H' Z' Fs' := by
  refine q.bind.mono ?_
  rintro ps c1 H1 Z1 F1 ⟨S1, T1, h1⟩
  refine ⟨S1, T1, ?_⟩
  unfold Run at h1
  cases e1 : rdAll ps c1 with
  | none => simp only [e1] at h1
  | some xs =>
    simp only [e1] at h1
    obtain ⟨z, ez, h2⟩ := Run.lift (K := K) (W := W) (o := g xs) (c := c1) h1
    exact ⟨xs, z, rfl, ez, h2⟩
theorem tCB_D {g : List D → Option D} (hg : DCl X.K r g) (h : EAL X W (e :: es) m) {σ : L2.St} {H : Hp} {Q : VK} (q : tD X.K W (mCl g m) σ H Q) :
    tCB r (fun σ H Q => ∃ ln c Z Fs, Sl X.K ln H Z c σ Fs ∧ Run X.K W m σ ln c H Z Fs fun ps c' H' Z' Fs' => ∀ vs, Paired (Late X.K σ ln H' Z' Fs') ps vs → Q vs H') σ H Q := by
  obtain ⟨ln, c, Z, Fs, S, q⟩ := q
  refine ⟨ln, c, Z, Fs, S, (call_core q).mono ?_⟩
  rintro ps c1 H1 Z1 F1 ⟨S1, T1, xs, z, e1, e2, h2⟩ vs hvs
  exact hg H1 Z1 vs xs z (rdAll_rep S1 hvs e1) S1.zl e2 Q fun v H' Z' n rv => h2 H' Z' F1 (S1.new n) n.stp v rv
theorem tCB_O {g : List D → Option O} (hg : OCl X.K r g) (h : EAL X W (e :: es) m) {σ : L2.St} {H : Hp} {Q : VK} (q : tO X.K W (mCl g m) σ H Q) :
    tCB r (fun σ H Q => ∃ ln c Z Fs, Sl X.K ln H Z c σ Fs ∧ Run X.K W m σ ln c H Z Fs fun ps c' H' Z' Fs' => ∀ vs, Paired (Late X.K σ ln H' Z' Fs') ps vs → Q vs H') σ H Q := by
  obtain ⟨ln, c, Z, Fs, S, q⟩ := q
  refine ⟨ln, c, Z, Fs, S, (call_core q).mono ?_⟩
  rintro ps c1 H1 Z1 F1 ⟨S1, T1, xs, z, e1, e2, h2⟩ vs hvs
  refine hg H1 Z1 vs xs z (rdAll_rep S1 hvs e1) S1.zl e2 Q fun v F H' Z' n rv fr fz => h2 H' Z' F1 (S1.new n) n.stp v F rv (fun a ha => .inr (dead_of T1.live (fr a ha))) (fun a ha i hi => ?_) fz
  obtain ⟨xs, e3⟩ := (S1.rep i).there a hi
  rw [fr a ha] at e3; cases e3
theorem ed_callB {g : List D → Option D} (hc : CallR X (.builtin id) r) (hg : DCl X.K r g) (gl : Gl X x) (hm : X.mg x = none) (hv : bootBuiltins x = some (.builtin id)) (ha : EAL X W (e :: es) m) (hn : x ≠ "__name__" := by decide) (hdb : (x == ("__debug__" : Str)) = false := by decide)
    (he : starEach (e :: es) X.env = (false, eval e X.env) :: starEach es X.env := by rfl) (hpl : (backTo pos (starEach es X.env)).any (·.1) = false := by rfl) : ED X W (.Call (.Name x p) (e :: es) [] pos) (mCl g m) :=
  ⟨peImp (pe_callB hc gl hm hv ha.pa hn hdb he hpl) fun _ _ _ q => tCB_D hg ha q⟩
theorem ed_callTy {T : String} {g : List D → Option D} (hc : CallR X (.type T) r) (hg : DCl X.K r g) (gl : Gl X x) (hm : X.mg x = none) (hv : bootBuiltins x = some (.type T)) (ha : EAL X W (e :: es) m) (hn : x ≠ "__name__" := by decide) (hdb : (x == ("__debug__" : Str)) = false := by decide)
    (he : starEach (e :: es) X.env = (false, eval e X.env) :: starEach es X.env := by rfl) (hpl : (backTo pos (starEach es X.env)).any (·.1) = false := by rfl) : ED X W (.Call (.Name x p) (e :: es) [] pos) (mCl g m) :=
  ⟨peImp (pe_callTy hc gl hm hv ha.pa hn hdb he hpl) fun _ _ _ q => tCB_D hg ha q⟩
theorem eo_callTy {T : String} {g : List D → Option O} (hc : CallR X (.type T) r) (hg : OCl X.K r g) (gl : Gl X x) (hm : X.mg x = none) (hv : bootBuiltins x = some (.type T)) (ha : EAL X W (e :: es) m) (hn : x ≠ "__name__" := by decide) (hdb : (x == ("__debug__" : Str)) = false := by decide)
    (he : starEach (e :: es) X.env = (false, eval e X.env) :: starEach es X.env := by rfl) (hpl : (backTo pos (starEach es X.env)).any (·.1) = false := by rfl) : EO X W (.Call (.Name x p) (e :: es) [] pos) (mCl g m) :=
  ⟨peImp (pe_callTy hc gl hm hv ha.pa hn hdb he hpl) fun _ _ _ q => tCB_O hg ha q⟩
theorem eo_callB {g : List D → Option O} (hc : CallR X (.builtin id) r) (hg : OCl X.K r g) (gl : Gl X x) (hm : X.mg x = none) (hv : bootBuiltins x = some (.builtin id)) (ha : EAL X W (e :: es) m) (hn : x ≠ "__name__" := by decide) (hdb : (x == ("__debug__" : Str)) = false := by decide)
    (he : starEach (e :: es) X.env = (false, eval e X.env) :: starEach es X.env := by rfl) (hpl : (backTo pos (starEach es X.env)).any (·.1) = false := by rfl) : EO X W (.Call (.Name x p) (e :: es) [] pos) (mCl g m) :=
  ⟨peImp (pe_callB hc gl hm hv ha.pa hn hdb he hpl) fun _ _ _ q => tCB_O hg ha q⟩
end
section
variable {K : PySem.W.Frag}
def gLen : List D → Option D
  | [.nd .tup xs] => some (.int xs.length)
  | [.nd .lst xs] => some (.int xs.length)
  | [.nd .scr xs] => some (.int xs.length)
  | _ => none
theorem pair1 {H : Hp} {Z : Zs} {x : D} {vs : List V} (h : Paired (RpV K H Z) [x] vs) : ∃ v, vs = [v] ∧ RpV K H Z x v := by
  cases h with
  | cons a b => cases b; exact ⟨_, rfl, a⟩
theorem pair2 {H : Hp} {Z : Zs} {x y : D} {vs : List V} (h : Paired (RpV K H Z) [x, y] vs) : ∃ v u, vs = [v, u] ∧ RpV K H Z x v ∧ RpV K H Z y u := by
  cases h with
  | cons a b => cases b with | cons c d => cases d; exact ⟨_, _, rfl, a, c⟩
abbrev rLen (K : PySem.W.Frag) : List V → Hp → VK → Prop := fun xs H Q => ∃ p ys, xs = [.ref p] ∧ (SqL K H p ys ∨ SqT K H p ys) ∧ Q (.int ys.length) H
theorem dcl_len : DCl K (rLen K) gLen := by
  intro H Z vs xs dz rs zl e Q q
  match xs, e with
  | [.nd .tup ys], e =>
    cases e
    obtain ⟨v, rfl, r⟩ := pair1 rs
    obtain ⟨a, us, rfl, h, r⟩ := r.tp
    exact ⟨a, us, rfl, .inr h, q _ H Z .refl (by rw [← r.length]; exact .int _)⟩
  | [.nd .lst ys], e =>
    cases e
    obtain ⟨v, rfl, r⟩ := pair1 rs
    obtain ⟨a, us, rfl, h, r⟩ := r.sq (.inl rfl)
    exact ⟨a, us, rfl, .inl h, q _ H Z .refl (by rw [← r.length]; exact .int _)⟩
  | [.nd .scr ys], e =>
    cases e
    obtain ⟨v, rfl, r⟩ := pair1 rs
    obtain ⟨a, us, rfl, h, r⟩ := r.sq (.inr rfl)
    exact ⟨a, us, rfl, .inl h, q _ H Z .refl (by rw [← r.length]; exact .int _)⟩
def gAbs : List D → Option D
  | [.int i] => some (.int (if i < 0 then -i else i))
  | _ => none
theorem dcl_abs : DCl K (fun xs H Q => ∃ i, xs = [.int i] ∧ Q (.int (if i < 0 then -i else i)) H) gAbs := by
  intro H Z vs xs dz rs zl e Q q
  match xs, e with
  | [.int i], e =>
    cases e
    obtain ⟨v, rfl, r⟩ := pair1 rs
    cases r.i
    exact ⟨i, rfl, q _ H Z .refl (.int _)⟩
def gInt : List D → Option D
  | [.int i] => some (.int i)
  | [.bl k] => some (.int (if k then 1 else 0))
  | _ => none
theorem dcl_int : DCl K (fun xs H Q => (∃ i, xs = [.int i] ∧ Q (.int i) H) ∨ ∃ k, xs = [.bl k] ∧ Q (.int (if k then 1 else 0)) H) gInt := by
  intro H Z vs xs dz rs zl e Q q
  match xs, e with
  | [.int i], e =>
    cases e
    obtain ⟨v, rfl, r⟩ := pair1 rs
    cases r.i
    exact .inl ⟨i, rfl, q _ H Z .refl (.int _)⟩
  | [.bl i], e =>
    cases e
    obtain ⟨v, rfl, r⟩ := pair1 rs
    cases r.b
    exact .inr ⟨i, rfl, q _ H Z .refl (.int _)⟩
def gMax : List D → Option D
  | [.int i, .int j] => some (.int (if j > i then j else i))
  | _ => none
def gMin : List D → Option D
  | [.int i, .int j] => some (.int (if j < i then j else i))
  | _ => none
theorem dcl_max : DCl K (fun xs H Q => ∃ i j, xs = [.int i, .int j] ∧ Q (.int (if j > i then j else i)) H) gMax := by
  intro H Z vs xs dz rs zl e Q q
  match xs, e with
  | [.int i, .int j], e =>
    cases e
    obtain ⟨v, u, rfl, r1, r2⟩ := pair2 rs
    cases r1.i
    cases r2.i
    exact ⟨i, j, rfl, q _ H Z .refl (.int _)⟩
theorem dcl_min : DCl K (fun xs H Q => ∃ i j, xs = [.int i, .int j] ∧ Q (.int (if j < i then j else i)) H) gMin := by
  intro H Z vs xs dz rs zl e Q q
  match xs, e with
  | [.int i, .int j], e =>
    cases e
    obtain ⟨v, u, rfl, r1, r2⟩ := pair2 rs
    cases r1.i
    cases r2.i
    exact ⟨i, j, rfl, q _ H Z .refl (.int _)⟩
def gList : List D → Option O
  | [.nd .tup xs] => some (.lst xs)
  | [.nd .lst xs] => some (.lst xs)
  | [.nd .scr xs] => some (.lst xs)
  | _ => none
abbrev rList (K : PySem.W.Frag) : List V → Hp → VK → Prop := fun xs H Q => ∃ p ys, xs = [.ref p] ∧ (SqL K H p ys ∨ SqT K H p ys) ∧ ∀ l, H l = none → Q (.ref l) (upd H l (.lst ys))
theorem own_new' {xs : List D} {vs : List V} {H : Hp} {Z : Zs} {p : Addr} (zl : ∀ a, Z a → H a ≠ none) (hp : H p = none) (r : Rps K H Z xs vs) :
    New H Z (upd H p (.lst vs)) Z ∧ RpO K (upd H p (.lst vs)) Z (.lst xs) (.ref p) [p] ∧ (∀ a ∈ [p], H a = none) ∧ ∀ a ∈ [p], ¬ Z a := by
  have n := newTup (Z := Z) hp (.lst vs)
  refine ⟨n, ⟨p, vs, rfl, rfl, upd_same, r.ext n.ext⟩, fun a ha => ?_, fun a ha z => ?_⟩
  · rw [List.mem_singleton.mp ha]; exact hp
  · rw [List.mem_singleton.mp ha] at z
    exact zl p z hp
theorem ocl_list : OCl K (rList K) gList := by
  intro H Z vs xs z rs zl e Q q
  match xs, e with
  | [.nd .tup ys], e =>
    cases e
    obtain ⟨v, rfl, r⟩ := pair1 rs
    obtain ⟨a, us, rfl, h, r⟩ := r.tp
    refine ⟨a, us, rfl, .inr h, fun l hl => ?_⟩
    obtain ⟨n, ro, f1, f2⟩ := own_new' zl hl r
    exact q _ _ _ _ n ro f1 f2
  | [.nd .lst ys], e =>
    cases e
    obtain ⟨v, rfl, r⟩ := pair1 rs
    obtain ⟨a, us, rfl, h, r⟩ := r.sq (.inl rfl)
    refine ⟨a, us, rfl, .inl h, fun l hl => ?_⟩
    obtain ⟨n, ro, f1, f2⟩ := own_new' zl hl r
    exact q _ _ _ _ n ro f1 f2
  | [.nd .scr ys], e =>
    cases e
    obtain ⟨v, rfl, r⟩ := pair1 rs
    obtain ⟨a, us, rfl, h, r⟩ := r.sq (.inr rfl)
    refine ⟨a, us, rfl, .inl h, fun l hl => ?_⟩
    obtain ⟨n, ro, f1, f2⟩ := own_new' zl hl r
    exact q _ _ _ _ n ro f1 f2
def gTuple : List D → Option D
  | [.nd .tup xs] => some (.nd .tup xs)
  | [.nd .lst xs] => some (.nd .tup xs)
  | [.nd .scr xs] => some (.nd .tup xs)
  | _ => none
theorem dcl_tuple : DCl K (fun xs H Q => ∃ p ys, xs = [.ref p] ∧ ((SqL K H p ys ∧ ∀ l, H l = none → Q (.ref l) (upd H l (.tup ys))) ∨ (SqT K H p ys ∧ Q (.ref p) H))) gTuple := by
  intro H Z vs xs dz rs zl e Q q
  match xs, e with
  | [.nd .tup ys], e =>
    cases e
    obtain ⟨v, rfl, r⟩ := pair1 rs
    obtain ⟨a, us, rfl, h, r⟩ := r.tp
    exact ⟨a, us, rfl, .inr ⟨h, q _ H Z .refl (.tup h r)⟩⟩
  | [.nd .lst ys], e =>
    cases e
    obtain ⟨v, rfl, r⟩ := pair1 rs
    obtain ⟨a, us, rfl, h, r⟩ := r.sq (.inl rfl)
    refine ⟨a, us, rfl, .inl ⟨h, fun l hl => ?_⟩⟩
    have n := newTup (Z := Z) hl (.tup us)
    exact q _ _ _ n (rp_tup upd_same (r.ext n.ext))
  | [.nd .scr ys], e =>
    cases e
    obtain ⟨v, rfl, r⟩ := pair1 rs
    obtain ⟨a, us, rfl, h, r⟩ := r.sq (.inr rfl)
    refine ⟨a, us, rfl, .inl ⟨h, fun l hl => ?_⟩⟩
    have n := newTup (Z := Z) hl (.tup us)
    exact q _ _ _ n (rp_tup upd_same (r.ext n.ext))
end
end Sw
set_option maxRecDepth 100000
set_option maxHeartbeats 4000000
namespace Sw
open PySem PySem.Spec L2

/-! ### statements -/
inductive Out where
  | nx | bk | ct
  | rt (r : Rv)
def RpR (K : PySem.W.Frag) (H : Hp) (Z : Zs) : Rv → V → List Addr → Prop
  | .d x, v, F => Rp K H Z x v ∧ F = []
  | .o x, v, F => RpO K H Z x v F
/-- what a value that is handed out is made of: it was this frame's, or is new; it is nobody else's -/
structure Loose (H : Hp) (Fs : Nat → List Addr) (Z' : Zs) (Fs' : Nat → List Addr) (F : List Addr) : Prop where
  out : ∀ a ∈ F, Ow Fs a ∨ H a = none
  dis : ∀ a ∈ F, ∀ i, a ∉ Fs' i
  nz : ∀ a ∈ F, ¬ Z' a
theorem Loose.back {H H1 : Hp} {Z Z1 Z' : Zs} {Fs F1 Fs' : Nat → List Addr} {F : List Addr} (T : Stp H Z (Ow Fs) H1 Z1 (Ow F1)) (h : Loose H1 F1 Z' Fs' F) : Loose H Fs Z' Fs' F :=
  ⟨fun a ha => (h.out a ha).elim (T.out a) fun q => .inr (dead_of T.live q), h.dis, h.nz⟩
def EndOf (K : PySem.W.Frag) (H : Hp) (Fs : Nat → List Addr) (E : Ends) (o : Out) (σ' : L2.St) (H' : Hp) (Z' : Zs) (Fs' : Nat → List Addr) : Prop := match o with
  | .nx => E.nx σ' H'
  | .bk => E.bk σ' H'
  | .ct => E.ct σ' H'
  | .rt r => ∀ v F, RpR K H' Z' r v F → Loose H Fs Z' Fs' F → E.rt v H'
def RunS (K : PySem.W.Frag) (W : WX) (m : M Out) (σ : L2.St) (ln : Nat → Addr) (c : Ctx) (H : Hp) (Z : Zs) (Fs : Nat → List Addr) (E : Ends) : Prop :=
  match m c with
  | .stk => False
  | .ok o c' => ∀ σ' H' Z' Fs', Sl K ln H' Z' c' σ' Fs' → Stp H Z (Ow Fs) H' Z' (Ow Fs') → EndOf K H Fs E o σ' H' Z' Fs'
  | .er e c' => ∀ cls d σ' H' Z' Fs', Sl K ln H' Z' c' σ' Fs' → Stp H Z (Ow Fs) H' Z' (Ow Fs') → ErR K H' Z' e cls d → W cls d σ' H'
theorem EndOf.back {K : PySem.W.Frag} {H H1 : Hp} {Z Z1 : Zs} {Fs F1 : Nat → List Addr} {E : Ends} {o : Out} {σ' : L2.St} {H' : Hp} {Z' : Zs} {Fs' : Nat → List Addr} (T : Stp H Z (Ow Fs) H1 Z1 (Ow F1)) (h : EndOf K H Fs E o σ' H' Z' Fs') : EndOf K H1 F1 E o σ' H' Z' Fs' := by
  cases o with
  | rt r => exact fun v F rv l => h v F rv (l.back T)
  | _ => exact h
section
variable {K : PySem.W.Frag} {W : WX} {α : Type} {σ : L2.St} {ln : Nat → Addr} {c : Ctx} {H : Hp} {Z : Zs} {Fs : Nat → List Addr} {E : Ends}
theorem RunS.bindE {m : M α} {f : α → M Out} (h : RunS K W (mb m f) σ ln c H Z Fs E) : Run K W m σ ln c H Z Fs fun a c1 H1 Z1 F1 => Sl K ln H1 Z1 c1 σ F1 ∧ Stp H Z (Ow Fs) H1 Z1 (Ow F1) ∧ RunS K W (f a) σ ln c1 H1 Z1 F1 E := by
  unfold RunS mb at h
  unfold Run
  cases e : m c with
  | stk => rw [e] at h; exact h
  | er x c' => rw [e] at h; exact fun cls d H' Z' F' S T r => h cls d σ H' Z' F' S T r
  | ok a c1 =>
    rw [e] at h
    intro H1 Z1 F1 S1 T1
    refine ⟨S1, T1, ?_⟩
    unfold RunS
    simp only at h
    cases e2 : f a c1 with
    | stk => rw [e2] at h; exact h
    | er x c2 => rw [e2] at h; exact fun cls d σ' H' Z' F' S T r => h cls d σ' H' Z' F' S (T1.trans T) r
    | ok o c2 => rw [e2] at h; exact fun σ' H' Z' F' S T => (h σ' H' Z' F' S (T1.trans T)).back T1
theorem RunS.pure {o : Out} (h : RunS K W (mp o) σ ln c H Z Fs E) (S : Sl K ln H Z c σ Fs) : EndOf K H Fs E o σ H Z Fs := h σ H Z Fs S .refl
theorem RunS.quiet {m : M Out} {W' : WX} (h : RunS K W (mq m) σ ln c H Z Fs E) : RunS K W' m σ ln c H Z Fs E := by
  unfold RunS at *
  unfold mq at h
  cases e : m c with
  | stk => rw [e] at h; exact h.elim
  | er x c' => rw [e] at h; exact h.elim
  | ok a c' => rw [e] at h; exact h
end
def tSt (K : PySem.W.Frag) (W : WX) (m : M Out) : TS := fun E σ H => ∃ ln c Z Fs, Sl K ln H Z c σ Fs ∧ RunS K W m σ ln c H Z Fs E
theorem psImp {X : Cx} {e : Stmt} {t t' : TS} (h : PS X e t) (i : ∀ E σ H, t' E σ H → t E σ H) : PS X e t' := ⟨fun pins s σ H E I q => h.run pins s σ H E I (i E σ H q)⟩
theorem pssImp {X : Cx} {e : List Stmt} {t t' : TS} (h : PSs X e t) (i : ∀ E σ H, t' E σ H → t E σ H) : PSs X e t' := ⟨fun pins s σ H E I q => h.run pins s σ H E I (i E σ H q)⟩
structure SS (X : Cx) (W : WX) (st : Stmt) (m : M Out) : Prop where
  ps : PS X st (tSt X.K W m)
structure SSs (X : Cx) (W : WX) (st : List Stmt) (m : M Out) : Prop where
  ps : PSs X st (tSt X.K W m)
def mSeq (a b : M Out) : M Out := mb a fun o => match o with
  | .nx => b
  | o => mp o

/-! ### the slots -/
def upF (Fs : Nat → List Addr) (i : Nat) (F : List Addr) : Nat → List Addr := fun j => if j = i then F else Fs j
theorem upF_same {Fs : Nat → List Addr} {i : Nat} {F : List Addr} : upF Fs i F i = F := if_pos rfl
theorem upF_ne {Fs : Nat → List Addr} {i j : Nat} {F : List Addr} (h : j ≠ i) : upF Fs i F j = Fs j := if_neg h
theorem getD_set {c : Ctx} {i j : Nat} {s : Sv} (hi : i < c.length) : (c.set i s).getD j .no = if j = i then s else c.getD j .no := by
  rw [List.getD_eq_getElem?_getD, List.getD_eq_getElem?_getD, List.getElem?_set]
  by_cases h : j = i
  · subst h
    rw [if_pos rfl, if_pos hi, if_pos rfl]
    rfl
  · rw [if_neg (Ne.symm h), if_neg h]
theorem Sl.put {K : PySem.W.Frag} {σ : L2.St} {ln : Nat → Addr} {c : Ctx} {H : Hp} {Z : Zs} {Fs : Nat → List Addr} {i : Nat} {s : Sv} {ov : Option V} {F : List Addr} (S : Sl K ln H Z c σ Fs) (hi : i < c.length) (new : RpS K H Z (ln i) s (some ov) F)
    (f : ∀ a ∈ F, ∀ j, j ≠ i → a ∉ Fs j) (z : ∀ a ∈ F, ¬ Z a) : Sl K ln H Z (c.set i s) (σ.set i ov) (upF Fs i F) := by
  refine ⟨by rw [List.length_set, List.length_set]; exact S.len, fun j => ?_, fun j k a h1 h2 => ?_, fun j a h => ?_, S.zl⟩
  · rw [getD_set hi]
    by_cases h : j = i
    · subst h
      rw [if_pos rfl, upF_same, List.getElem?_set_self (by rw [← S.len]; exact hi)]
      exact new
    · rw [if_neg h, upF_ne h, List.getElem?_set_ne (Ne.symm h)]
      exact S.rep j
  · by_cases hj : j = i
    · subst hj
      rw [upF_same] at h1
      by_cases hk : k = j
      · exact hk.symm
      · rw [upF_ne hk] at h2
        exact absurd h2 (f a h1 k hk)
    · rw [upF_ne hj] at h1
      by_cases hk : k = i
      · subst hk
        rw [upF_same] at h2
        exact absurd h1 (f a h2 j hj)
      · rw [upF_ne hk] at h2
        exact S.dis j k a h1 h2
  · by_cases hj : j = i
    · subst hj
      rw [upF_same] at h
      exact z a h
    · rw [upF_ne hj] at h
      exact S.nz j a h
def putS (i : Nat) (s : Sv) : M Out := fun c => if i < c.length then .ok .nx (c.set i s) else .stk
theorem putS_run {K : PySem.W.Frag} {W : WX} {σ : L2.St} {ln : Nat → Addr} {c : Ctx} {H : Hp} {Z : Zs} {Fs : Nat → List Addr} {E : Ends} {i : Nat} {s : Sv} {ov : Option V} {F : List Addr} (q : RunS K W (putS i s) σ ln c H Z Fs E) (S : Sl K ln H Z c σ Fs)
    (new : RpS K H Z (ln i) s (some ov) F) (f : ∀ a ∈ F, ∀ j, j ≠ i → a ∉ Fs j) (z : ∀ a ∈ F, ¬ Z a) (T : Stp H Z (Ow Fs) H Z (Ow (upF Fs i F))) : E.nx (σ.set i ov) H := by
  unfold RunS putS at q
  by_cases hi : i < c.length
  · rw [if_pos hi] at q
    exact q _ H Z _ (S.put hi new f z) T
  · rw [if_neg hi] at q
    exact q.elim
theorem upF_less {H : Hp} {Z : Zs} {Fs : Nat → List Addr} {i : Nat} {F : List Addr} (h : ∀ a ∈ F, Ow Fs a ∨ H a = none) : Stp H Z (Ow Fs) H Z (Ow (upF Fs i F)) :=
  ⟨.refl, fun _ _ q _ => q, fun _ q => q, fun a ⟨j, hj⟩ => by
    by_cases e : j = i
    · subst e; rw [upF_same] at hj; exact h a hj
    · rw [upF_ne e] at hj; exact .inl ⟨j, hj⟩, fun _ q => .inl q⟩

section
variable {X : Cx} {W : WX} {st : Stmt} {rest : List Stmt} {e : Expr} {pos pos' : Pos} {ms mr : M Out} {me : M D} {mo : M O} {mt : M Bool}
theorem sss_nil : SSs X W [] (mp .nx) := by
  refine ⟨pssImp pss_nil fun E σ H q => ?_⟩
  obtain ⟨ln, c, Z, Fs, S, q⟩ := q
  exact q.pure S
theorem sss_cons (h1 : SS X W st ms) (h2 : SSs X W rest mr) : SSs X W (st :: rest) (mSeq ms mr) := by
  refine ⟨pssImp (pss_cons h1.ps h2.ps) fun E σ H q => ?_⟩
  obtain ⟨ln, c, Z, Fs, S, q⟩ := q
  refine ⟨ln, c, Z, Fs, S, ?_⟩
  unfold RunS mSeq mb at q
  unfold RunS
  cases e : ms c with
  | stk => rw [e] at q; exact q
  | er x c' => rw [e] at q; exact q
  | ok o c1 =>
    rw [e] at q
    intro σ1 H1 Z1 F1 S1 T1
    simp only at q
    cases o with
    | nx =>
      refine ⟨ln, c1, Z1, F1, S1, ?_⟩
      simp only at q
      unfold RunS
      cases e2 : mr c1 with
      | stk => rw [e2] at q; exact q
      | er x c2 => rw [e2] at q; exact fun cls d σ' H' Z' F' S T r => q cls d σ' H' Z' F' S (T1.trans T) r
      | ok o c2 => rw [e2] at q; exact fun σ' H' Z' F' S T => (q σ' H' Z' F' S (T1.trans T)).back T1
    | bk => exact q σ1 H1 Z1 F1 S1 T1
    | ct => exact q σ1 H1 Z1 F1 S1 T1
    | rt r => exact q σ1 H1 Z1 F1 S1 T1
theorem sss_one (h1 : SS X W st ms) : SSs X W [st] ms := ⟨pss_one h1.ps⟩
theorem ss_pass : SS X W (.Pass pos) (mp .nx) := by
  refine ⟨psImp ps_pass fun E σ H q => ?_⟩
  obtain ⟨ln, c, Z, Fs, S, q⟩ := q
  exact q.pure S
theorem ss_brk : SS X W (.Break pos) (mp .bk) := by
  refine ⟨psImp ps_break fun E σ H q => ?_⟩
  obtain ⟨ln, c, Z, Fs, S, q⟩ := q
  exact q.pure S
theorem ss_doc {x j} : SS X W (.Expr (.Constant (.str x) j pos) pos') (mp .nx) := by
  refine ⟨psImp ps_doc fun E σ H q => ?_⟩
  obtain ⟨ln, c, Z, Fs, S, q⟩ := q
  exact q.pure S
def mRet (me : M D) : M Out := mb me fun x => mp (.rt (.d x))
def mRetO (mo : M O) : M Out := mb mo fun x => mp (.rt (.o x))
theorem ss_ret (he : ED X W e me) : SS X W (.Return (some e) pos) (mRet me) := by
  refine ⟨psImp (ps_ret he.pe) fun E σ H q => ?_⟩
  obtain ⟨ln, c, Z, Fs, S, q⟩ := q
  refine ⟨ln, c, Z, Fs, S, q.bindE.mono ?_⟩
  rintro x c1 H1 Z1 F1 ⟨S1, T1, h1⟩ v rv
  exact h1.pure S1 v [] ⟨rv, rfl⟩ ⟨fun a h => (by simp at h), fun a h => (by simp at h), fun a h => (by simp at h)⟩
theorem ss_retO (he : EO X W e mo) : SS X W (.Return (some e) pos) (mRetO mo) := by
  refine ⟨psImp (ps_ret he.pe) fun E σ H q => ?_⟩
  obtain ⟨ln, c, Z, Fs, S, q⟩ := q
  refine ⟨ln, c, Z, Fs, S, ?_⟩
  unfold RunS mRetO mb mp at q
  unfold Run
  cases e : mo c with
  | stk => rw [e] at q; exact q
  | er x c' => rw [e] at q; exact fun cls d H' Z' F' S T r => q cls d σ H' Z' F' S T r
  | ok x c1 =>
    rw [e] at q
    intro H1 Z1 F1 S1 T1 v F ro f1 f2 f3
    exact q σ H1 Z1 F1 S1 T1 v F ro ⟨f1, f2, f3⟩
theorem ss_retN : SS X W (.Return none pos) (mp (.rt (.d .non))) := by
  refine ⟨psImp ps_retN fun E σ H q => ?_⟩
  obtain ⟨ln, c, Z, Fs, S, q⟩ := q
  exact q.pure S .non [] ⟨.non, rfl⟩ ⟨fun a h => (by simp at h), fun a h => (by simp at h), fun a h => (by simp at h)⟩
/-- return x, x a name whose thing is this frame's own -/
def mTake (i : Nat) : M O := fun c => match c.getD i .no with
  | .o x => .ok x (c.set i .no)
  | _ => .stk
theorem eo_take {i : Nat} {x : Str} (h : PE X (.Name x pos) (tVar i)) : EO X W (.Name x pos) (mTake i) := by
  refine ⟨peImp h fun σ H Q q => ?_⟩
  obtain ⟨ln, c, Z, Fs, S, r⟩ := q
  unfold Run mTake at r
  have rep := S.rep i
  cases e : c.getD i .no with
  | o x =>
    rw [e] at rep
    simp only [e] at r
    obtain ⟨v, ev, ro⟩ := rep
    have hi : i < c.length := by
      rw [S.len]
      exact (List.getElem?_eq_some_iff.mp ev).1
    have ev' : σ.set i (some v) = σ := by
      obtain ⟨h1, h2⟩ := List.getElem?_eq_some_iff.mp ev
      rw [← h2, List.set_getElem_self]
    have S2 := S.put (s := .no) (ov := some v) (F := []) hi rfl (fun a h => by simp at h) fun a h => by simp at h
    rw [ev'] at S2
    refine ⟨v, ev, r H Z _ S2 (upF_less fun a h => by simp at h) v (Fs i) ro (fun a h => .inl ⟨i, h⟩) (fun a h j hj => ?_) fun a h => S.nz i a h⟩
    by_cases z : j = i
    · subst z
      rw [upF_same] at hj
      simp at hj
    · rw [upF_ne z] at hj
      exact z (S.dis j i a hj h)
  | no => rw [e] at r; exact r.elim
  | d x => rw [e] at r; exact r.elim
  | l x => rw [e] at r; exact r.elim
/-- a name whose thing is this frame's own, that lasts from here on -/
def mFreeze (i : Nat) : M D := fun c => match c.getD i .no with
  | .o x => if i < c.length then .ok (frz x) (c.set i (.d (frz x))) else .stk
  | .d x => .ok x c
  | _ => .stk
theorem ed_freeze {i : Nat} {x : Str} (h : PE X (.Name x pos) (tVar i)) : ED X W (.Name x pos) (mFreeze i) := by
  refine ⟨peImp h fun σ H Q q => ?_⟩
  obtain ⟨ln, c, Z, Fs, S, r⟩ := q
  unfold Run mFreeze at r
  have rep := S.rep i
  cases e : c.getD i .no with
  | o x =>
    rw [e] at rep
    simp only [e] at r
    obtain ⟨v, ev, ro⟩ := rep
    have hi : i < c.length := by
      rw [S.len]
      exact (List.getElem?_eq_some_iff.mp ev).1
    rw [if_pos hi] at r
    have ev' : σ.set i (some v) = σ := by
      obtain ⟨h1, h2⟩ := List.getElem?_eq_some_iff.mp ev
      rw [← h2, List.set_getElem_self]
    have S1 := S.put (s := .no) (ov := some v) (F := []) hi rfl (fun a h => by simp at h) fun a h => by simp at h
    have S2 := S1.zF (F := Fs i) (fun a h j hj => by
      by_cases z : j = i
      · subst z
        rw [upF_same] at hj
        simp at hj
      · rw [upF_ne z] at hj
        exact z (S.dis j i a hj h)) ro.live
    have S3 := S2.put (i := i) (s := .d (frz x)) (ov := some v) (F := []) (by rw [List.length_set]; exact hi) ⟨v, rfl, ro.frz, rfl⟩ (fun a h => by simp at h) fun a h => by simp at h
    rw [ev', ev', List.set_set] at S3
    have T : Stp H Z (Ow Fs) H (zF Z (Fs i)) (Ow (upF (upF Fs i []) i [])) := ⟨zF_ext, fun _ _ q _ => q, fun _ q => q, fun a ⟨j, hj⟩ => by
      by_cases z : j = i
      · subst z; rw [upF_same] at hj; simp at hj
      · rw [upF_ne z, upF_ne z] at hj; exact .inl ⟨j, hj⟩, fun a z => z.elim .inl fun z => .inr (.inl ⟨i, z⟩)⟩
    exact ⟨v, ev, r H _ _ S3 T v ro.frz⟩
  | d x =>
    rw [e] at rep
    simp only [e] at r
    obtain ⟨v, ev, rv, _⟩ := rep
    exact ⟨v, ev, r H Z Fs S .refl v rv⟩
  | no => rw [e] at r; exact r.elim
  | l x => rw [e] at r; exact r.elim
def mIfS (mt : M Bool) (a b : M Out) : M Out := mb mt fun k => if k = true then a else b
theorem ss_if {c : Expr} {a b : List Stmt} (hc : ET X W c mt) (ha : SSs X W a ms) (hb : SSs X W b mr) : SS X W (.If c a b pos) (mIfS mt ms mr) := by
  refine ⟨psImp (ps_if hc.pt ha.ps hb.ps) fun E σ H q => ?_⟩
  obtain ⟨ln, c, Z, Fs, S, q⟩ := q
  refine ⟨ln, c, Z, Fs, S, q.bindE.mono ?_⟩
  rintro k c1 H1 Z1 F1 ⟨S1, T1, h1⟩
  cases k with
  | true => exact ⟨ln, c1, Z1, F1, S1, h1⟩
  | false => exact ⟨ln, c1, Z1, F1, S1, h1⟩
def mDrop {α : Type} (m : M α) : M Out := mb m fun _ => mp .nx
theorem ss_expr (he : ED X W e me) (hs : swapsWith e none pos.line X.env = pure false := by rfl) : SS X W (.Expr e pos) (mDrop me) := by
  refine ⟨psImp (ps_expr he.pe hs) fun E σ H q => ?_⟩
  obtain ⟨ln, c, Z, Fs, S, q⟩ := q
  refine ⟨ln, c, Z, Fs, S, q.bindE.mono ?_⟩
  rintro x c1 H1 Z1 F1 ⟨S1, T1, h1⟩ v rv
  exact h1.pure S1
/-- x = e -/
def mSet (i : Nat) (me : M D) : M Out := mb me fun x => putS i (.d x)
def mSetO (i : Nat) (mo : M O) : M Out := mb mo fun x => putS i (.o x)
theorem setO_run {K : PySem.W.Frag} {W : WX} {mo : M O} {i : Nat} {σ : L2.St} {ln : Nat → Addr} {c : Ctx} {H : Hp} {Z : Zs} {Fs : Nat → List Addr} {E : Ends} (q : RunS K W (mSetO i mo) σ ln c H Z Fs E) :
    Run K W mo σ ln c H Z Fs fun x c' H' Z' Fs' => ∀ v F, RpO K H' Z' x v F → (∀ a ∈ F, Ow Fs a ∨ H a = none) → (∀ a ∈ F, ∀ i, a ∉ Fs' i) → (∀ a ∈ F, ¬ Z' a) → E.nx (σ.set i (some v)) H' := by
  unfold RunS mSetO mb at q
  unfold Run
  cases e : mo c with
  | stk => rw [e] at q; exact q
  | er x c' => rw [e] at q; exact fun cls d H' Z' F' S T r => q cls d σ H' Z' F' S T r
  | ok x c1 =>
    rw [e] at q
    intro H1 Z1 F1 S1 T1 v F ro f1 f2 f3
    simp only [putS] at q
    by_cases hl : i < c1.length
    · rw [if_pos hl] at q
      have S2 := S1.put (s := .o x) (ov := some v) (F := F) hl ⟨v, rfl, ro⟩ (fun a h j _ => f2 a h j) f3
      refine q _ H1 Z1 _ S2 ⟨T1.ext, T1.keep, T1.live, fun a ⟨j, hj⟩ => ?_, T1.zout⟩
      by_cases z : j = i
      · subst z
        rw [upF_same] at hj
        exact f1 a hj
      · rw [upF_ne z] at hj
        exact T1.out a ⟨j, hj⟩
    · rw [if_neg hl] at q
      exact q.elim
theorem ss_set {i : Nat} {x : Str} (hN : X.N.Nodup) (hi : X.N[i]? = some x) (hx : Loc X.env.scope x) (he : ED X W e me) (hs : swapsWith e (some (.Name x pos')) pos.line X.env = pure false := by rfl) (hf : X.fn x = true ∨ X.env.scope.names.lookup x = some .local := by first | exact .inl rfl | exact .inr rfl | assumption) :
    SS X W (.Assign [.Name x pos'] e pos) (mSet i me) := by
  refine ⟨psImp (ps_set hN hi hx he.pe hs hf) fun E σ H q => ?_⟩
  obtain ⟨ln, c, Z, Fs, S, q⟩ := q
  refine ⟨ln, c, Z, Fs, S, q.bindE.mono ?_⟩
  rintro x c1 H1 Z1 F1 ⟨S1, T1, h1⟩ v rv
  exact putS_run (F := []) h1 S1 ⟨v, rfl, rv, rfl⟩ (fun a h => by simp at h) (fun a h => by simp at h) (upF_less fun a h => by simp at h)
theorem ss_setO {i : Nat} {x : Str} (hN : X.N.Nodup) (hi : X.N[i]? = some x) (hx : Loc X.env.scope x) (he : EO X W e mo) (hs : swapsWith e (some (.Name x pos')) pos.line X.env = pure false := by rfl) (hf : X.fn x = true ∨ X.env.scope.names.lookup x = some .local := by first | exact .inl rfl | exact .inr rfl | assumption) :
    SS X W (.Assign [.Name x pos'] e pos) (mSetO i mo) := by
  refine ⟨psImp (ps_set hN hi hx he.pe hs hf) fun E σ H q => ?_⟩
  obtain ⟨ln, c, Z, Fs, S, q⟩ := q
  exact ⟨ln, c, Z, Fs, S, setO_run q⟩
end
end Sw
set_option maxRecDepth 100000
set_option maxHeartbeats 4000000
namespace Sw
open PySem PySem.Spec L2

/-! ### a thing of one's own, changed -/
/-- f of what stands at i, which this frame owns (or was lent) -/
def modO {α : Type} (i : Nat) (f : O → Option (α × O)) : M α := fun c => match c.getD i .no with
  | .o x => match f x with
    | some (a, y) => .ok a (c.set i (.o y))
    | none => .stk
  | .l x => match f x with
    | some (a, y) => .ok a (c.set i (.l y))
    | none => .stk
  | _ => .stk
/-- it is a list, of one's own -/
def isL (i : Nat) : M Unit := fun c => match c.getD i .no with
  | .o (.lst _) => .ok () c
  | .l (.lst _) => .ok () c
  | _ => .stk
section
variable {K : PySem.W.Frag} {W : WX} {σ : L2.St} {ln : Nat → Addr} {c : Ctx} {H : Hp} {Z : Zs} {Fs : Nat → List Addr} {i : Nat}
/-- an own list -/
def OwnL (c : Ctx) (i : Nat) (xs : List D) : Prop := c.getD i .no = .o (.lst xs) ∨ c.getD i .no = .l (.lst xs)
theorem Sl.ownL {xs : List D} (S : Sl K ln H Z c σ Fs) (h : OwnL c i xs) : ∃ a vs, σ[i]? = some (some (.ref a)) ∧ H a = some (.lst vs) ∧ Rps K H Z xs vs ∧ Fs i = [a] := by
  have rep := S.rep i
  rcases h with e | e
  · rw [e] at rep
    obtain ⟨v, ev, a, vs, rfl, hF, h1, r⟩ := rep
    exact ⟨a, vs, ev, h1, r, hF⟩
  · rw [e] at rep
    obtain ⟨ev, a, vs, ea, hF, h1, r⟩ := rep
    cases ea
    exact ⟨_, vs, ev, h1, r, hF⟩
/-- the list at i is now ys -/
theorem Sl.lstUpd {xs ys : List D} {a : Addr} {vs us : List V} {k : O → Sv} (S : Sl K ln H Z c σ Fs) (h : c.getD i .no = k (.lst xs)) (hk : k = Sv.o ∨ k = Sv.l) (ea : σ[i]? = some (some (.ref a))) (ha : H a = some (.lst vs)) (hF : Fs i = [a]) (r : Rps K H Z ys us) :
    Sl K ln (upd H a (.lst us)) Z (c.set i (k (.lst ys))) σ Fs ∧ Stp H Z (Ow Fs) (upd H a (.lst us)) Z (Ow Fs) := by
  have nz : ¬ Z a := S.nz i a (by rw [hF]; simp)
  have e : Ext H Z (upd H a (.lst us)) Z := ⟨fun b xs h => by rw [upd_ne (ne_of h ha (by intro z; cases z))]; exact h, fun b o u h => by rw [upd_ne (ne_of h ha (by intro z; cases z))]; exact h, fun b o z h => by
    rw [upd_ne]
    · exact h
    · rintro rfl; exact nz z, fun _ z => z⟩
  have hi : i < c.length := by
    rw [S.len]
    exact (List.getElem?_eq_some_iff.mp ea).1
  refine ⟨⟨by rw [List.length_set]; exact S.len, fun j => ?_, S.dis, S.nz, fun b z => ?_⟩, ⟨e, fun b o h n => ?_, fun b h => ?_, fun _ q => .inl q, fun _ q => .inl q⟩⟩
  · rw [getD_set hi]
    by_cases hj : j = i
    · subst hj
      rw [if_pos rfl, hF, ea]
      have ro : RpO K (upd H a (.lst us)) Z (.lst ys) (.ref a) [a] := ⟨a, us, rfl, rfl, upd_same, r.ext e⟩
      rcases hk with rfl | rfl
      · exact ⟨_, rfl, ro⟩
      · have rep := S.rep j
        rw [h, ea] at rep
        obtain ⟨ev, _⟩ := rep
        cases ev
        exact ⟨rfl, ro⟩
    · rw [if_neg hj]
      refine (S.rep j).ext e fun b hb o ho => ?_
      rw [upd_ne]
      · exact ho
      · rintro rfl
        exact hj (S.dis j i b hb (by rw [hF]; simp))
  · by_cases hb : b = a
    · subst hb; rw [upd_same]; simp
    · rw [upd_ne hb]; exact S.zl b z
  · rw [upd_ne]
    · exact h
    · rintro rfl
      exact n ⟨i, by rw [hF]; simp⟩
  · by_cases hb : b = a
    · subst hb; rw [upd_same]; simp
    · rw [upd_ne hb]; exact h
/-- .. within a run -/
theorem modO_run {α : Type} {f : O → Option (α × O)} {k : α → Ctx → Hp → Zs → (Nat → List Addr) → Prop} (q : Run K W (modO i f) σ ln c H Z Fs k) :
    ∃ x a y kd, c.getD i .no = kd x ∧ (kd = Sv.o ∨ kd = Sv.l) ∧ f x = some (a, y) ∧ ∀ H' Z' Fs', Sl K ln H' Z' (c.set i (kd y)) σ Fs' → Stp H Z (Ow Fs) H' Z' (Ow Fs') → k a (c.set i (kd y)) H' Z' Fs' := by
  unfold Run modO at q
  cases e : c.getD i .no with
  | no => rw [e] at q; exact q.elim
  | d x => rw [e] at q; exact q.elim
  | o x =>
    simp only [e] at q
    cases e2 : f x with
    | none => rw [e2] at q; exact q.elim
    | some p =>
      obtain ⟨a, y⟩ := p
      simp only [e2] at q
      exact ⟨x, a, y, Sv.o, rfl, .inl rfl, e2, q⟩
  | l x =>
    simp only [e] at q
    cases e2 : f x with
    | none => rw [e2] at q; exact q.elim
    | some p =>
      obtain ⟨a, y⟩ := p
      simp only [e2] at q
      exact ⟨x, a, y, Sv.l, rfl, .inr rfl, e2, q⟩
theorem isL_run {k : Unit → Ctx → Hp → Zs → (Nat → List Addr) → Prop} (q : Run K W (isL i) σ ln c H Z Fs k) (S : Sl K ln H Z c σ Fs) : (∃ xs, OwnL c i xs) ∧ k () c H Z Fs := by
  unfold Run isL at q
  cases e : c.getD i .no with
  | no => rw [e] at q; exact q.elim
  | d x => rw [e] at q; exact q.elim
  | o x =>
    cases x with
    | lst xs => simp only [e] at q; exact ⟨⟨xs, .inl e⟩, q H Z Fs S .refl⟩
  | l x =>
    cases x with
    | lst xs => simp only [e] at q; exact ⟨⟨xs, .inr e⟩, q H Z Fs S .refl⟩
theorem ownL_of {kd : O → Sv} {xs : List D} (h : c.getD i .no = kd (.lst xs)) (hk : kd = Sv.o ∨ kd = Sv.l) : OwnL c i xs := by
  rcases hk with rfl | rfl
  · exact .inl h
  · exact .inr h
end
def lApp (x : D) : O → Option (D × O)
  | .lst xs => if xs.length < sizeLine then some (.non, .lst (xs ++ [x])) else none
def lClr : O → Option (D × O)
  | .lst _ => some (.non, .lst [])
def lPop : O → Option (D × O)
  | .lst xs => match xs.getLast? with
    | some x => some (x, .lst xs.dropLast)
    | none => none
def lExt (y : D) : O → Option (Unit × O) := fun o => match o, y with
  | .lst xs, .nd .lst ys => if xs.length + ys.length ≤ sizeLine then some ((), .lst (xs ++ ys)) else none
  | _, _ => none
def lPut (x k : D) : O → Option (Unit × O) := fun o => match o, k with
  | .lst xs, .int k => (ixN xs.length k).map fun j => ((), .lst (xs.set j x))
  | _, _ => none
def mApp (i : Nat) (me : M D) : M D := mb (isL i) fun _ => mb me fun x => modO i (lApp x)
def mM0 (i : Nat) (f : O → Option (D × O)) : M D := mb (isL i) fun _ => modO i f
section
variable {X : Cx} {W : WX} {i : Nat} {x : Str} {e : Expr} {me : M D} {pos apos cpos npos : Pos}
theorem ed_app (h : PE X (.Name x npos) (tVar i)) (he : ED X W e me)
    (hbase : attributeBase (.Name x npos) "append" X.env (eval (.Name x npos) X.env) = eval (.Name x npos) X.env := by rfl)
    (hfew : ((backTo cpos (starEach [e] X.env)).all (fun x => !x.1) && (backToKw cpos (keywordEach [] X.env)).all (fun x => x.1.isSome)
      && decide (([e] : List Expr).length + ([] : List Keyword).length + (if ([] : List Keyword).isEmpty then 0 else 1) < 30)) = true := by rfl)
    (hline : (apos.endLine == cpos.line) = true := by rfl) (hs : starEach [e] X.env = (false, eval e X.env) :: starEach [] X.env := by rfl) (hplain : (backTo cpos (starEach [] X.env)).any (·.1) = false := by rfl) :
    ED X W (.Call (.Attribute (.Name x npos) "append" apos) [e] [] cpos) (mApp i me) := by
  refine ⟨peImp (pe_bm PySem.F.plainAttrs_list PySem.F.slot_list_append PySem.F.type_list_append mt_append h (ea_cons he ea_nil hs).pa hbase hfew hline hs hplain) fun σ H Q q => ?_⟩
  obtain ⟨ln, c, Z, Fs, S, q⟩ := q
  obtain ⟨⟨xs, ow⟩, _, _, q⟩ := isL_run q.bind S
  obtain ⟨a, vs, ea, ha, r, hF⟩ := S.ownL ow
  refine ⟨.ref a, ea, .inl ⟨rfl, vs, .inl (.inl ha)⟩, ln, c, Z, Fs, S, ?_⟩
  show Run X.K W (mCons me (mp [])) σ ln c H Z Fs _
  unfold Run mCons mb mp
  unfold Run mb at q
  cases e1 : me c with
  | stk => rw [e1] at q; exact q
  | er y c' => rw [e1] at q; exact q
  | ok y c1 =>
    rw [e1] at q
    intro H1 Z1 F1 S1 T1 us hus
    cases hus with
    | cons ru t =>
    cases t
    have q1 : Run X.K W (modO i (lApp y)) σ ln c1 H1 Z1 F1 fun x c' H' Z' Fs' => ∀ v, Rp X.K H' Z' x v → Q v H' := by
      unfold Run
      simp only at q
      cases e2 : modO i (lApp y) c1 with
      | stk => rw [e2] at q; exact q
      | er y c' => rw [e2] at q; exact fun cls d H' Z' F' S T r => q cls d H' Z' F' S (T1.trans T) r
      | ok y c2 => rw [e2] at q; exact fun H' Z' F' S T => q H' Z' F' S (T1.trans T)
    obtain ⟨ox, ax, oy, kd, ec, hk, ef, q2⟩ := modO_run q1
    cases ox with
    | lst xs1 =>
      have ef : (if xs1.length < sizeLine then some (D.non, O.lst (xs1 ++ [y])) else none) = some (ax, oy) := ef
      split at ef
      · rename_i hz
        cases ef
        obtain ⟨b, us, eb, hb, r1, hF1⟩ := S1.ownL (ownL_of ec hk)
        rw [ea] at eb
        cases eb
        obtain ⟨S2, T2⟩ := S1.lstUpd ec hk ea hb hF1 (r1.append (.cons ru .nil))
        exact ⟨a, us, _, rfl, rfl, hb, by rw [← r1.length]; exact hz, q2 _ _ _ S2 T2 _ .non⟩
      · cases ef
theorem ed_m0 {name : Str} {id : String} {r : V → List V → Hp → VK → Prop} {f : O → Option (D × O)} (slot : Slot "list" name id) (hty : typeOf (.builtin id) = pure (.type "method_descriptor")) (hm : MtR X id r)
    (hf : ∀ {H : Hp} {Z : Zs} {a : Addr} {vs : List V} {xs : List D} {y : D} {o : O} {Q : VK}, H a = some (.lst vs) → Rps X.K H Z xs vs → f (.lst xs) = some (y, o) →
      (∃ ys us v, o = .lst ys ∧ Rps X.K H Z ys us ∧ Rp X.K H Z y v ∧ (Q v (upd H a (.lst us)) → r (.ref a) [] H Q)))
    (h : PE X (.Name x npos) (tVar i)) (hbase : attributeBase (.Name x npos) name X.env (eval (.Name x npos) X.env) = eval (.Name x npos) X.env := by rfl) (hline : (apos.endLine == cpos.line) = true := by rfl) :
    ED X W (.Call (.Attribute (.Name x npos) name apos) [] [] cpos) (mM0 i f) := by
  refine ⟨peImp (pe_bm0 PySem.F.plainAttrs_list slot hty hm h hbase hline) fun σ H Q q => ?_⟩
  obtain ⟨ln, c, Z, Fs, S, q⟩ := q
  obtain ⟨⟨xs, ow⟩, _, _, q⟩ := isL_run q.bind S
  obtain ⟨a, vs, ea, ha, rv, hF⟩ := S.ownL ow
  refine ⟨.ref a, ea, .inl ⟨rfl, vs, .inl (.inl ha)⟩, ?_⟩
  obtain ⟨ox, ax, oy, kd, ec, hk, ef, q2⟩ := modO_run q
  cases ox with
  | lst xs1 =>
    obtain ⟨b, us, eb, hb, r1, hF1⟩ := S.ownL (ownL_of ec hk)
    rw [ea] at eb
    cases eb
    obtain ⟨ys, ws, v, rfl, r2, ry, fin⟩ := hf (Q := Q) hb r1 ef
    obtain ⟨S2, T2⟩ := S.lstUpd ec hk ea hb hF1 r2
    exact fin (q2 _ _ _ S2 T2 v (ry.ext T2.ext))
theorem ed_clear (h : PE X (.Name x npos) (tVar i)) (hbase : attributeBase (.Name x npos) "clear" X.env (eval (.Name x npos) X.env) = eval (.Name x npos) X.env := by rfl) (hline : (apos.endLine == cpos.line) = true := by rfl) :
    ED X W (.Call (.Attribute (.Name x npos) "clear" apos) [] [] cpos) (mM0 i lClr) :=
  ed_m0 PySem.F.slot_list_clear PySem.F.type_list_clear mt_clear (fun {H Z a vs xs y o Q} ha r e => by
    cases e
    exact ⟨[], [], .non, rfl, .nil, .non, fun q => ⟨a, vs, rfl, rfl, ha, q⟩⟩) h hbase hline
theorem Rps.dropLast {K : PySem.W.Frag} {H : Hp} {Z : Zs} {xs : List D} {vs : List V} (r : Rps K H Z xs vs) : Rps K H Z xs.dropLast vs.dropLast := by
  rw [List.dropLast_eq_take, List.dropLast_eq_take, r.length]
  exact r.take _
theorem ed_pop (h : PE X (.Name x npos) (tVar i)) (hbase : attributeBase (.Name x npos) "pop" X.env (eval (.Name x npos) X.env) = eval (.Name x npos) X.env := by rfl) (hline : (apos.endLine == cpos.line) = true := by rfl) :
    ED X W (.Call (.Attribute (.Name x npos) "pop" apos) [] [] cpos) (mM0 i lPop) :=
  ed_m0 PySem.F.slot_list_pop PySem.F.type_list_pop mt_pop (fun {H Z a vs xs y o Q} ha r e => by
    unfold lPop at e
    cases e1 : xs.getLast? with
    | none => simp only [e1] at e; cases e
    | some z =>
      simp only [e1] at e
      cases e
      rw [List.getLast?_eq_getElem?] at e1
      obtain ⟨v, hv, rv⟩ := r.get' e1
      rw [r.length] at hv
      exact ⟨_, _, v, rfl, r.dropLast, rv, fun q => ⟨a, vs, v, rfl, rfl, ha, hv, q⟩⟩) h hbase hline
/-- x += e, lists -/
def mAugL (i : Nat) (me : M D) : M Out := mb (isL i) fun _ => mb me fun y => mb (modO i (lExt y)) fun _ => mp .nx
theorem Run.shift {K : PySem.W.Frag} {W : WX} {α : Type} {m : M α} {σ : L2.St} {ln : Nat → Addr} {c : Ctx} {H : Hp} {Z : Zs} {Fs : Nat → List Addr} {k : α → Ctx → Hp → Zs → (Nat → List Addr) → Prop} (q : Run K W m σ ln c H Z Fs k) (k' : α → Ctx → Hp → Zs → (Nat → List Addr) → Prop)
    (h : ∀ a c' H' Z' F', k a c' H' Z' F' → k' a c' H' Z' F') : Run K W m σ ln c H Z Fs k' := q.mono h
theorem ss_augL (hN : X.N.Nodup) (hi : X.N[i]? = some x) (hx : Loc X.env.scope x) (he : ED X W e me) (hf : X.fn x = true ∨ X.env.scope.names.lookup x = some .local := by first | exact .inl rfl | exact .inr rfl | assumption) :
    SS X W (.AugAssign (.Name x npos) .Add e pos) (mAugL i me) := by
  refine ⟨psImp (ps_aug hN hi hx he.pe (ti := rExt2) (fun pins s σ H x y v u Q I rx ry h => iop_ext pins s σ H x y v u Q I rx ry h) hf) fun E σ H q => ?_⟩
  obtain ⟨ln, c, Z, Fs, S, q⟩ := q
  obtain ⟨⟨xs, ow⟩, _, _, q⟩ := isL_run q.bindE S
  obtain ⟨a, vs, ea, ha, rv, hF⟩ := S.ownL ow
  refine ⟨.ref a, ea, ln, c, Z, Fs, S, q.bindE.mono ?_⟩
  rintro y c1 H1 Z1 F1 ⟨S1, T1, h1⟩ v ry
  obtain ⟨ox, ax, oy, kd, ec, hk, ef, q2⟩ := modO_run h1.bindE
  cases ox with
  | lst xs1 =>
    cases y with
    | nd t ys =>
      cases t with
      | lst =>
        have ef : (if xs1.length + ys.length ≤ sizeLine then some ((), O.lst (xs1 ++ ys)) else none) = some (ax, oy) := ef
        split at ef
        · rename_i hz
          cases ef
          obtain ⟨b, us, eb, hb, r1, hF1⟩ := S1.ownL (ownL_of ec hk)
          rw [ea] at eb
          cases eb
          cases ry with
          | lst h2 z2 r2 =>
            obtain ⟨S2, T2⟩ := S1.lstUpd ec hk ea hb hF1 (r1.append r2)
            refine ⟨a, _, us, _, rfl, rfl, hb, h2, by rw [← r1.length, ← r2.length]; exact hz, ?_⟩
            have ev' : σ.set i (some (.ref a)) = σ := by
              obtain ⟨h1, h2⟩ := List.getElem?_eq_some_iff.mp ea
              rw [← h2, List.set_getElem_self]
            show E.nx (σ.set i (some (.ref a))) _
            rw [ev']
            obtain ⟨S3, T3, q3⟩ := q2 _ _ _ S2 T2
            exact q3.pure S3
        · cases ef
      | _ => cases ef
    | _ => cases ef
/-- x[k] = e, an own list -/
def mPut (i : Nat) (me mk : M D) : M Out := mb me fun y => mb (isL i) fun _ => mb mk fun k => mb (modO i (lPut y k)) fun _ => mp .nx
theorem ss_put {k : Expr} {mk : M D} {spos : Pos} (h : PE X (.Name x npos) (tVar i)) (he : ED X W e me) (hk : ED X W k mk)
    (ha : ∀ v, assign (.Subscript (.Name x npos) k spos) X.env v = (do
      let ov ← holding [v] (eval (.Name x npos) X.env)
      let iv ← holding [v, ov] (eval k X.env)
      standAt spos
      holding [v, ov, iv] (setItem ov iv v)
      release [v, ov, iv] []) := by intro _; rfl)
    (hs : swapsWithSole [.Subscript (.Name x npos) k spos] e pos.line X.env = pure false := by rfl) (hw : swappedStores [.Subscript (.Name x npos) k spos] e X.env = pure none := by rfl)
    (h1 : (assignEach [.Subscript (.Name x npos) k spos] X.env).map (·.2) = [assign (.Subscript (.Name x npos) k spos) X.env] := by rfl) :
    SS X W (.Assign [.Subscript (.Name x npos) k spos] e pos) (mPut i me mk) := by
  refine ⟨psImp (ps_asg he.pe (pg_sub h hk.pe set_list ha) hs hw h1) fun E σ H q => ?_⟩
  obtain ⟨ln, c, Z, Fs, S, q⟩ := q
  refine ⟨ln, c, Z, Fs, S, q.bindE.mono ?_⟩
  rintro y c1 H1 Z1 F1 ⟨S1, T1, h1⟩ v ry
  obtain ⟨⟨xs, ow⟩, _, _, q⟩ := isL_run h1.bindE S1
  obtain ⟨a, vs, ea, ha, rv, hF⟩ := S1.ownL ow
  refine ⟨.ref a, ea, ln, c1, Z1, F1, S1, q.bindE.mono ?_⟩
  rintro kx c2 H2 Z2 F2 ⟨S2, T2, h2⟩ u rk
  obtain ⟨ox, ax, oy, kd, ec, hk, ef, q2⟩ := modO_run h2.bindE
  cases ox with
  | lst xs1 =>
    cases rk with
    | int j =>
      obtain ⟨n, en, e2⟩ := Option.map_eq_some_iff.mp (show (ixN xs1.length j).map _ = some (ax, oy) from ef)
      cases e2
      obtain ⟨b, us, eb, hb, r1, hF1⟩ := S2.ownL (ownL_of ec hk)
      rw [ea] at eb
      cases eb
      obtain ⟨S3, T3⟩ := S2.lstUpd ec hk ea hb hF1 (Rps.set (ry.ext T2.ext) n r1)
      refine ⟨a, us, j, n, rfl, rfl, hb, by rw [← r1.length]; exact en, ?_⟩
      obtain ⟨S4, T4, q3⟩ := q2 _ _ _ S3 T3
      exact q3.pure S4
    | _ => cases ef
end
end Sw
set_option maxRecDepth 100000
set_option maxHeartbeats 4000000
namespace Sw
open PySem PySem.Spec L2

/-! ### targets -/
def TgEnd (K : PySem.W.Frag) (is : List Nat) (r : Rs Out) (σ : L2.St) (ln : Nat → Addr) (H : Hp) (Z : Zs) (Fs : Nat → List Addr) (Q : L2.St → Hp → Prop) : Prop := match r with
  | .ok .nx c' => ∀ σ' H' Z' Fs', Sl K ln H' Z' c' σ' Fs' → Stp H Z (Ow Fs) H' Z' (Ow Fs') → (∀ j, j ∉ is → σ'[j]? = σ[j]?) ∧ σ'.length = σ.length → Q σ' H'
  | _ => False
structure EG (X : Cx) (tg : Expr) (is : List Nat) (g : D → M Out) : Prop where
  pg : PG X tg fun v σ H Q => ∃ ln c Z Fs x, Sl X.K ln H Z c σ Fs ∧ Rp X.K H Z x v ∧ TgEnd X.K is (g x c) σ ln H Z Fs Q
structure EGs (X : Cx) (ts : List Expr) (is : List Nat) (g : List D → M Out) : Prop where
  pg : PGs X ts fun vs σ H Q => ∃ ln c Z Fs xs, Sl X.K ln H Z c σ Fs ∧ Rps X.K H Z xs vs ∧ TgEnd X.K is (g xs c) σ ln H Z Fs Q
theorem pgImp {X : Cx} {e : Expr} {t t' : TG} (h : PG X e t) (i : ∀ v σ H Q, t' v σ H Q → t v σ H Q) : PG X e t' := ⟨fun pins s σ H v u Q I r q => h.run pins s σ H v u Q I r (i v σ H Q q)⟩
theorem pgsImp {X : Cx} {e : List Expr} {t t' : TGs} (h : PGs X e t) (i : ∀ v σ H Q, t' v σ H Q → t v σ H Q) : PGs X e t' := ⟨fun pins s σ H v u Q I r q => h.run pins s σ H v u Q I r (i v σ H Q q)⟩
def gN (i : Nat) : D → M Out := fun x => putS i (.d x)
def gNil' : List D → M Out
  | [] => mp .nx
  | _ => fun _ => .stk
def gCons' (g : D → M Out) (gs : List D → M Out) : List D → M Out
  | [] => fun _ => .stk
  | x :: xs => mSeq (g x) (gs xs)
def gT (n : Nat) (gs : List D → M Out) : D → M Out
  | .nd .tup xs => if xs.length = n then gs xs else fun _ => .stk
  | _ => fun _ => .stk
def gL (n : Nat) (gs : List D → M Out) : D → M Out
  | .nd .lst xs => if xs.length = n then gs xs else fun _ => .stk
  | _ => fun _ => .stk
section
variable {X : Cx} {pos : Pos} {i n : Nat} {x : Str} {is js : List Nat} {e : Expr} {es : List Expr} {g : D → M Out} {gs : List D → M Out}
theorem eg_name (h : PG X (.Name x pos) (gName i)) : EG X (.Name x pos) [i] (gN i) := by
  refine ⟨pgImp h fun v σ H Q q => ?_⟩
  obtain ⟨ln, c, Z, Fs, d, S, rv, q⟩ := q
  unfold TgEnd gN putS at q
  by_cases hi : i < c.length
  · rw [if_pos hi] at q
    refine q _ H Z _ (S.put (s := .d d) (ov := some v) (F := []) hi ⟨v, rfl, rv, rfl⟩ (fun a h => by simp at h) fun a h => by simp at h) (upF_less fun a h => by simp at h) ⟨fun j hj => ?_, List.length_set⟩
    rw [List.getElem?_set_ne]
    intro e
    exact hj (by simp [e])
  · rw [if_neg hi] at q
    exact q.elim
theorem egs_nil : EGs X [] [] gNil' := by
  refine ⟨pgsImp pgs_nil fun vs σ H Q q => ?_⟩
  obtain ⟨ln, c, Z, Fs, xs, S, rv, q⟩ := q
  cases rv with
  | nil => exact ⟨rfl, q σ H Z Fs S .refl ⟨fun _ _ => rfl, rfl⟩⟩
  | cons _ _ => exact q.elim
theorem egs_cons (h1 : EG X e is g) (h2 : EGs X es js gs) (hs : (assignEach (e :: es) X.env).map (·.2) = assign e X.env :: (assignEach es X.env).map (·.2) := by rfl) : EGs X (e :: es) (is ++ js) (gCons' g gs) := by
  refine ⟨pgsImp (pgs_cons h1.pg h2.pg hs) fun vs σ H Q q => ?_⟩
  obtain ⟨ln, c, Z, Fs, xs, S, rv, q⟩ := q
  cases rv with
  | nil => exact q.elim
  | @cons d v ds vs r rr =>
    refine ⟨v, vs, rfl, ln, c, Z, Fs, d, S, r, ?_⟩
    have q : TgEnd X.K (is ++ js) (mSeq (g d) (gs ds) c) σ ln H Z Fs Q := q
    unfold mSeq mb TgEnd at q
    unfold TgEnd
    cases e1 : g d c with
    | stk => rw [e1] at q; exact q
    | er _ _ => rw [e1] at q; exact q
    | ok o c1 =>
      rw [e1] at q
      cases o with
      | nx =>
        intro σ1 H1 Z1 F1 S1 T1 k1
        simp only at q
        refine ⟨ln, c1, Z1, F1, ds, S1, rr.ext T1.ext, ?_⟩
        show TgEnd X.K js (gs ds c1) σ1 ln H1 Z1 F1 Q
        unfold TgEnd
        cases e2 : gs ds c1 with
        | stk => rw [e2] at q; exact q
        | er _ _ => rw [e2] at q; exact q
        | ok o2 c2 =>
          rw [e2] at q
          cases o2 with
          | nx => exact fun σ2 H2 Z2 F2 S2 T2 k2 => q σ2 H2 Z2 F2 S2 (T1.trans T2) ⟨fun j hj => (k2.1 j fun z => hj (List.mem_append_right _ z)).trans (k1.1 j fun z => hj (List.mem_append_left _ z)), k2.2.trans k1.2⟩
          | bk => exact q
          | ct => exact q
          | rt _ => exact q
      | bk => exact q
      | ct => exact q
      | rt _ => exact q
theorem eg_tup {k : Nat} (hc : X.calm = true) (h : EGs X es is gs) (hn : (assignEach es X.env).length = n := by rfl) (hst : (assignEach es X.env).findIdx? (·.1) = none := by rfl) : EG X (.Tuple es k pos) is (gT n gs) := by
  refine ⟨pgImp (pg_tup hc h.pg hn hst) fun v σ H Q q => ?_⟩
  obtain ⟨ln, c, Z, Fs, d, S, rv, q⟩ := q
  cases rv with
  | @tup a vs xs h1 r =>
    unfold gT at q
    by_cases hl : xs.length = n
    · simp only [hl, if_true] at q
      exact ⟨a, vs, rfl, h1, by rw [← r.length]; exact hl, ln, c, Z, Fs, xs, S, r, q⟩
    · simp only [hl, if_false] at q
      exact q.elim
  | _ => exact q.elim
theorem eg_lst {k : Nat} (hc : X.calm = true) (h : EGs X es is gs) (hn : (assignEach es X.env).length = n := by rfl) (hst : (assignEach es X.env).findIdx? (·.1) = none := by rfl) : EG X (.Tuple es k pos) is (gL n gs) := by
  refine ⟨pgImp (pg_lst hc h.pg hn hst) fun v σ H Q q => ?_⟩
  obtain ⟨ln, c, Z, Fs, d, S, rv, q⟩ := q
  cases rv with
  | @lst a vs xs h1 z r =>
    unfold gL at q
    by_cases hl : xs.length = n
    · simp only [hl, if_true] at q
      exact ⟨a, vs, rfl, .inl (.inl h1), by rw [← r.length]; exact hl, ln, c, Z, Fs, xs, S, r, q⟩
    · simp only [hl, if_false] at q
      exact q.elim
  | _ => exact q.elim
/-- target = e -/
def mAsg (me : M D) (g : D → M Out) : M Out := mb me fun x => mq (g x)
theorem mq_tg {K : PySem.W.Frag} {W : WX} {r : M Out} {σ : L2.St} {ln : Nat → Addr} {c : Ctx} {H : Hp} {Z : Zs} {Fs : Nat → List Addr} {E : Ends} (q : RunS K W (mq r) σ ln c H Z Fs E) (h : ∀ c', r c = .ok .nx c' ∨ (∀ o, r c ≠ .ok o c')) : True := trivial
theorem ss_asg {W : WX} {tg : Expr} {me : M D} (he : ED X W e me) (hg : EG X tg is g) (hnx : ∀ x c o c', g x c = .ok o c' → o = .nx) (hs : swapsWithSole [tg] e pos.line X.env = pure false := by rfl) (hw : swappedStores [tg] e X.env = pure none := by rfl)
    (h1 : (assignEach [tg] X.env).map (·.2) = [assign tg X.env] := by rfl) : SS X W (.Assign [tg] e pos) (mAsg me g) := by
  refine ⟨psImp (ps_asg he.pe hg.pg hs hw h1) fun E σ H q => ?_⟩
  obtain ⟨ln, c, Z, Fs, S, q⟩ := q
  refine ⟨ln, c, Z, Fs, S, q.bindE.mono ?_⟩
  rintro x c1 H1 Z1 F1 ⟨S1, T1, h1⟩ v rv
  refine ⟨ln, c1, Z1, F1, x, S1, rv, ?_⟩
  unfold RunS mq at h1
  unfold TgEnd
  cases e1 : g x c1 with
  | stk => rw [e1] at h1; exact h1.elim
  | er _ _ => rw [e1] at h1; exact h1.elim
  | ok o c2 =>
    rw [e1] at h1
    obtain rfl := hnx _ _ _ _ e1
    exact fun σ' H' Z' Fs' S' T' _ => h1 σ' H' Z' Fs' S' T'
theorem gN_nx : ∀ x c o c', gN i x c = .ok o c' → o = .nx := by
  intro x c o c' h
  unfold gN putS at h
  split at h
  · cases h; rfl
  · cases h
theorem gNil_nx : ∀ xs c o c', gNil' xs c = .ok o c' → o = .nx := by
  intro x c o c' h
  cases x with
  | nil => cases h; rfl
  | cons _ _ => cases h
theorem gCons_nx (h2 : ∀ xs c o c', gs xs c = .ok o c' → o = .nx) (h1 : ∀ x c o c', g x c = .ok o c' → o = .nx) : ∀ xs c o c', gCons' g gs xs c = .ok o c' → o = .nx := by
  intro x c o c' h
  cases x with
  | nil => cases h
  | cons x xs =>
    have h : mSeq (g x) (gs xs) c = .ok o c' := h
    unfold mSeq mb at h
    cases e1 : g x c with
    | stk => rw [e1] at h; cases h
    | er _ _ => rw [e1] at h; cases h
    | ok o1 c1 =>
      rw [e1] at h
      obtain rfl := h1 _ _ _ _ e1
      exact h2 _ _ _ _ h
theorem gT_nx (h2 : ∀ xs c o c', gs xs c = .ok o c' → o = .nx) : ∀ x c o c', gT n gs x c = .ok o c' → o = .nx := by
  intro x c o c' h
  unfold gT at h
  split at h
  · split at h
    · exact h2 _ _ _ _ h
    · cases h
  · cases h
theorem gL_nx (h2 : ∀ xs c o c', gs xs c = .ok o c' → o = .nx) : ∀ x c o c', gL n gs x c = .ok o c' → o = .nx := by
  intro x c o c' h
  unfold gL at h
  split at h
  · split at h
    · exact h2 _ _ _ _ h
    · cases h
  · cases h
end

/-! ### what is walked -/
def Yl (K : PySem.W.Frag) (J : It) (H : Hp) (Z : Zs) (xs : List D) : Prop := ∀ H' Z', Ext H Z H' Z' → (∀ a, Z' a → H' a ≠ none) → ∀ i,
  (∀ x, xs[i]? = some x → J.go i H' ∧ ∀ v H'', J.yld i H' v H'' → ∃ Z'', New H' Z' H'' Z'' ∧ Rp K H'' Z'' x v) ∧ (xs.length ≤ i → J.stop i H')
structure EI (X : Cx) (W : WX) (tg iter : Expr) (m : M (List D)) : Prop where
  pi : PI X tg iter fun σ H R => ∃ ln c Z Fs, Sl X.K ln H Z c σ Fs ∧ Run X.K W m σ ln c H Z Fs fun xs c' H' Z' Fs' => ∀ J, Yl X.K J H' Z' xs → R J H'
theorem piImp {X : Cx} {tg e : Expr} {t t' : TI} (h : PI X tg e t) (i : ∀ σ H Q, t' σ H Q → t σ H Q) : PI X tg e t' := ⟨fun pins s σ H R I q => h.run pins s σ H R I (i σ H R q)⟩
def asL : D → Option (List D)
  | .nd .lst xs => some xs
  | .nd .scr xs => some xs
  | _ => none
def asT : D → Option (List D)
  | .nd .tup xs => some xs
  | _ => none
def itL (me : M D) : M (List D) := mb me fun x => ml (asL x)
def itT (me : M D) : M (List D) := mb me fun x => ml (asT x)
def rng (lo : Int) (n : Nat) : List D := (List.range n).map fun (k : Nat) => D.int (lo + k)
def inR (i : Int) : Bool := decide (i.natAbs.log2 < 61)
def rng1 : List D → Option (List D)
  | [.int j] => if inR j = true then some (rng 0 j.toNat) else none
  | _ => none
def rng2 : List D → Option (List D)
  | [.int i, .int j] => if inR i = true ∧ inR j = true then some (rng i (j - i).toNat) else none
  | _ => none
def itR (g : List D → Option (List D)) (ma : M (List D)) : M (List D) := mb ma fun xs => ml (g xs)
def zipD : List D → Option (List D)
  | [.nd .tup xs, .nd .tup ys] => some (List.zipWith (fun x y => .nd .tup [x, y]) xs ys)
  | [.nd .lst xs, .nd .lst ys] => some (List.zipWith (fun x y => .nd .tup [x, y]) xs ys)
  | _ => none
theorem yl_list {K : PySem.W.Frag} {H : Hp} {Z : Zs} {a : Addr} {vs : List V} {xs : List D} (h : ∀ H' Z', Ext H Z H' Z' → SqL K H' a vs) (inj : ∀ H' ys, SqL K H' a vs → SqL K H' a ys → True) (r : Rps K H Z xs vs) : True := trivial
theorem inR_iff {i : Int} (h : inR i = true) : -(2 ^ 62) ≤ i ∧ i < 2 ^ 62 := by
  unfold inR at h
  rw [decide_eq_true_eq] at h
  have h2 : i.natAbs < 2 ^ 61 := by
    by_cases h0 : i.natAbs = 0
    · omega
    · exact (Nat.log2_lt h0).mp h
  omega
theorem inR_of {i : Int} (h : -(2 ^ 60) ≤ i ∧ i < 2 ^ 60) : inR i = true := by
  unfold inR
  rw [decide_eq_true_eq]
  by_cases h0 : i.natAbs = 0
  · rw [h0]
    decide
  · refine (Nat.log2_lt h0).mpr ?_
    omega
theorem rng_get {lo : Int} {n i : Nat} {x : D} (h : (rng lo n)[i]? = some x) : i < n ∧ x = .int (lo + i) := by
  unfold rng at h
  rw [List.getElem?_map] at h
  obtain ⟨k, hk, e⟩ := Option.map_eq_some_iff.mp h
  obtain ⟨h1, h2⟩ := List.getElem?_eq_some_iff.mp hk
  rw [List.getElem_range] at h2
  rw [List.length_range] at h1
  exact ⟨h1, by rw [← e, ← h2]⟩
theorem yl_rng {K : PySem.W.Frag} {H : Hp} {Z : Zs} {lo : Int} {n : Nat} : Yl K (Itr lo n) H Z (rng lo n) := by
  intro H' Z' E zl i
  refine ⟨fun x hx => ?_, fun hi => ?_⟩
  · obtain ⟨hn, rfl⟩ := rng_get hx
    refine ⟨hn, fun v H'' y => ?_⟩
    obtain ⟨rfl, rfl⟩ := y
    exact ⟨Z', .refl, .int _⟩
  · have hl : (rng lo n).length = n := by unfold rng; simp
    rw [hl] at hi
    exact hi
section
variable {X : Cx} {W : WX} {tg e : Expr} {me : M D} {ma : M (List D)} {p pos : Pos}
theorem ei_list (he : ED X W e me) : EI X W tg e (itL me) := by
  refine ⟨piImp (pi_list he.pe) fun σ H R q => ?_⟩
  obtain ⟨ln, c, Z, Fs, S, q⟩ := q
  refine ⟨ln, c, Z, Fs, S, q.bind.mono ?_⟩
  rintro x c1 H1 Z1 F1 ⟨S1, T1, h1⟩ v rv
  obtain ⟨xs, ex, h2⟩ := h1.lift
  have key : ∀ (a : Addr) (vs : List V), Rps X.K H1 Z1 xs vs → (∀ H' Z', Ext H1 Z1 H' Z' → SqL X.K H' a vs) → Yl X.K (Itl X.K a) H1 Z1 xs := by
    intro a vs r hs H' Z' E zl i
    have q := hs H' Z' E
    refine ⟨fun y hy => ?_, fun hi => ⟨vs, q, by rw [← r.length]; exact hi⟩⟩
    obtain ⟨u, hu, ru⟩ := r.get' hy
    refine ⟨⟨vs, u, q, hu⟩, fun v' H'' y' => ?_⟩
    obtain ⟨rfl, f⟩ := y'
    have e1 : some u = some v' := hu.symm.trans (f vs q)
    cases e1
    exact ⟨Z', .refl, ru.ext E⟩
  cases rv with
  | @lst a vs ys h z r =>
    cases ex
    exact ⟨a, rfl, ⟨vs, .inl (.inl h)⟩, h2 H1 Z1 F1 S1 .refl _ (key a vs r fun H' Z' E => .inl (.inl (E.zk _ _ z h)))⟩
  | @scr a vs ys h r =>
    cases ex
    exact ⟨a, rfl, ⟨vs, h.sq⟩, h2 H1 Z1 F1 S1 .refl _ (key a vs r fun H' Z' E => (E.scL h).sq)⟩
  | _ => cases ex
theorem ei_tup (he : ED X W e me) : EI X W tg e (itT me) := by
  refine ⟨piImp (pi_tup he.pe) fun σ H R q => ?_⟩
  obtain ⟨ln, c, Z, Fs, S, q⟩ := q
  refine ⟨ln, c, Z, Fs, S, q.bind.mono ?_⟩
  rintro x c1 H1 Z1 F1 ⟨S1, T1, h1⟩ v rv
  obtain ⟨xs, ex, h2⟩ := h1.lift
  cases rv with
  | @tup a vs ys h r =>
    cases ex
    refine ⟨a, rfl, ⟨vs, h⟩, h2 H1 Z1 F1 S1 .refl _ ?_⟩
    intro H' Z' E zl i
    have q := E.sqT h
    refine ⟨fun y hy => ?_, fun hi => ⟨vs, q, by rw [← r.length]; exact hi⟩⟩
    obtain ⟨u, hu, ru⟩ := r.get' hy
    refine ⟨⟨vs, u, q, hu⟩, fun v' H'' y' => ?_⟩
    obtain ⟨rfl, f⟩ := y'
    have e1 : some u = some v' := hu.symm.trans (f vs q)
    cases e1
    exact ⟨Z', .refl, ru.ext E⟩
  | _ => cases ex
theorem ei_rng1 (hg : Gl X "range") (hm : X.mg "range" = none) (ha : EA X W [e] ma) (hs : starEach [e] X.env = [(false, eval e X.env)] := by rfl) : EI X W tg (.Call (.Name "range" p) [e] [] pos) (itR rng1 ma) := by
  refine ⟨piImp (pi_range1 hg hm ha.pa hs) fun σ H R q => ?_⟩
  obtain ⟨ln, c, Z, Fs, S, q⟩ := q
  refine ⟨ln, c, Z, Fs, S, q.bind.mono ?_⟩
  rintro x c1 H1 Z1 F1 ⟨S1, T1, h1⟩ v rv
  obtain ⟨xs, ex, h2⟩ := h1.lift
  match x, ex, rv with
  | [.int j], ex, .cons (.int _) .nil =>
    have ex : (if inR j = true then some (rng 0 j.toNat) else none) = some xs := ex
    split at ex
    · rename_i hr
      cases ex
      exact ⟨j, rfl, (inR_iff hr).1, (inR_iff hr).2, h2 H1 Z1 F1 S1 .refl _ yl_rng⟩
    · cases ex
theorem ei_rng2 {e2 : Expr} (hg : Gl X "range") (hm : X.mg "range" = none) (ha : EA X W [e, e2] ma) (hs : starEach [e, e2] X.env = [(false, eval e X.env), (false, eval e2 X.env)] := by rfl) (hs2 : starEach [e2] X.env = [(false, eval e2 X.env)] := by rfl) : EI X W tg (.Call (.Name "range" p) [e, e2] [] pos) (itR rng2 ma) := by
  refine ⟨piImp (pi_range2 hg hm ha.pa hs hs2) fun σ H R q => ?_⟩
  obtain ⟨ln, c, Z, Fs, S, q⟩ := q
  refine ⟨ln, c, Z, Fs, S, q.bind.mono ?_⟩
  rintro x c1 H1 Z1 F1 ⟨S1, T1, h1⟩ v rv
  obtain ⟨xs, ex, h2⟩ := h1.lift
  match x, ex, rv with
  | [.int i, .int j], ex, .cons (.int _) (.cons (.int _) .nil) =>
    have ex : (if inR i = true ∧ inR j = true then some (rng i (j - i).toNat) else none) = some xs := ex
    split at ex
    · rename_i hr
      cases ex
      exact ⟨i, j, rfl, ⟨(inR_iff hr.1).1, (inR_iff hr.1).2, (inR_iff hr.2).1, (inR_iff hr.2).2⟩, h2 H1 Z1 F1 S1 .refl _ yl_rng⟩
    · cases ex
theorem zip_get {xs ys : List D} {i : Nat} {x : D} (h : (List.zipWith (fun x y => D.nd .tup [x, y]) xs ys)[i]? = some x) : ∃ a b, xs[i]? = some a ∧ ys[i]? = some b ∧ x = .nd .tup [a, b] := by
  rw [List.getElem?_zipWith] at h
  cases h1 : xs[i]? with
  | none => rw [h1] at h; simp at h
  | some a =>
    cases h2 : ys[i]? with
    | none => rw [h1, h2] at h; simp at h
    | some b =>
      rw [h1, h2] at h
      cases h
      exact ⟨a, b, rfl, rfl, rfl⟩
theorem ei_zip {e2 : Expr} {elts : List Expr} {kk : Nat} {tpos : Pos} (hg : Gl X "zip") (hm : X.mg "zip" = none) (ha : EA X W [e, e2] ma)
    (hs : starEach [e, e2] X.env = (false, eval e X.env) :: starEach [e2] X.env := by rfl) (hpl : (backTo pos (starEach [e2] X.env)).any (·.1) = false := by rfl) :
    EI X W (.Tuple elts kk tpos) (.Call (.Name "zip" p) [e, e2] [] pos) (itR zipD ma) := by
  refine ⟨piImp (RZ.pi_zipA hg hm ha.pa hs hpl) fun σ H R q => ?_⟩
  obtain ⟨ln, c, Z, Fs, S, q⟩ := q
  refine ⟨ln, c, Z, Fs, S, q.bind.mono ?_⟩
  rintro x c1 H1 Z1 F1 ⟨S1, T1, h1⟩ v rv
  obtain ⟨xs, ex, h2⟩ := h1.lift
  match x, ex, rv with
  | [.nd .tup xs, .nd .tup ys], ex, .cons (.tup (a := a) (vs := vs) ha ra) (.cons (.tup (a := b) (vs := us) hb rb) .nil) =>
    cases ex
    refine ⟨a, b, vs, us, rfl, .inr ⟨ha, hb, h2 H1 Z1 F1 S1 .refl _ ?_⟩⟩
    intro H' Z' E zl i
    have qa := E.sqT ha
    have qb := E.sqT hb
    refine ⟨fun y hy => ?_, fun hi => ⟨vs, us, qa, qb, ?_⟩⟩
    · obtain ⟨y1, y2, e1, e2, rfl⟩ := zip_get hy
      obtain ⟨u1, hu1, r1⟩ := ra.get' e1
      obtain ⟨u2, hu2, r2⟩ := rb.get' e2
      refine ⟨⟨vs, us, u1, u2, qa, qb, hu1, hu2⟩, fun v' H'' y' => ?_⟩
      obtain ⟨T, x', y', rfl, hT, rfl, f1, f2⟩ := y'
      have e3 : some x' = some u1 := (f1 vs qa).symm.trans hu1
      have e4 : some y' = some u2 := (f2 us qb).symm.trans hu2
      cases e3
      cases e4
      have n := newTup (Z := Z') hT (.tup [u1, u2])
      exact ⟨Z', n, rp_tup upd_same (.cons ((r1.ext E).ext n.ext) (.cons ((r2.ext E).ext n.ext) .nil))⟩
    · rw [List.length_zipWith, ra.length, rb.length] at hi
      omega
  | [.nd .lst xs, .nd .lst ys], ex, .cons (.lst (a := a) (vs := vs) ha za ra) (.cons (.lst (a := b) (vs := us) hb zb rb) .nil) =>
    cases ex
    refine ⟨a, b, vs, us, rfl, .inl ⟨.inl (.inl ha), .inl (.inl hb), h2 H1 Z1 F1 S1 .refl _ ?_⟩⟩
    intro H' Z' E zl i
    have qa : SqL X.K H' a vs := .inl (.inl (E.zk _ _ za ha))
    have qb : SqL X.K H' b us := .inl (.inl (E.zk _ _ zb hb))
    refine ⟨fun y hy => ?_, fun hi => ⟨vs, us, qa, qb, ?_⟩⟩
    · obtain ⟨y1, y2, e1, e2, rfl⟩ := zip_get hy
      obtain ⟨u1, hu1, r1⟩ := ra.get' e1
      obtain ⟨u2, hu2, r2⟩ := rb.get' e2
      refine ⟨⟨vs, us, u1, u2, qa, qb, hu1, hu2⟩, fun v' H'' y' => ?_⟩
      obtain ⟨T, x', y', rfl, hT, rfl, f1, f2⟩ := y'
      have e3 : some x' = some u1 := (f1 vs qa).symm.trans hu1
      have e4 : some y' = some u2 := (f2 us qb).symm.trans hu2
      cases e3
      cases e4
      have n := newTup (Z := Z') hT (.tup [u1, u2])
      exact ⟨Z', n, rp_tup upd_same (.cons ((r1.ext E).ext n.ext) (.cons ((r2.ext E).ext n.ext) .nil))⟩
    · rw [List.length_zipWith, ra.length, rb.length] at hi
      omega
end
end Sw
set_option maxRecDepth 100000
set_option maxHeartbeats 4000000
namespace Sw
open PySem PySem.Spec L2

theorem RunS.later {K : PySem.W.Frag} {W : WX} {m : M Out} {σ σ2 : L2.St} {ln : Nat → Addr} {c : Ctx} {H H1 : Hp} {Z Z1 : Zs} {Fs F1 : Nat → List Addr} {E : Ends} (h : RunS K W m σ ln c H Z Fs E) (T : Stp H Z (Ow Fs) H1 Z1 (Ow F1)) : RunS K W m σ2 ln c H1 Z1 F1 E := by
  unfold RunS at *
  cases e : m c with
  | stk => rw [e] at h; exact h
  | er x c' => rw [e] at h; exact fun cls d σ' H' Z' F' S T2 r => h cls d σ' H' Z' F' S (T.trans T2) r
  | ok o c' => rw [e] at h; exact fun σ' H' Z' F' S T2 => (h σ' H' Z' F' S (T.trans T2)).back T

/-! ### for -/
def mFor (g : D → M Out) (body : M Out) : List D → M Out
  | [] => mp .nx
  | x :: xs => mb (mq (g x)) fun o => match o with
    | .nx => mb body fun o => match o with
      | .nx => mFor g body xs
      | .ct => mFor g body xs
      | .bk => mp .nx
      | .rt r => mp (.rt r)
    | _ => fun _ => .stk
def mForS (mi : M (List D)) (g : D → M Out) (body : M Out) : M Out := mb mi fun xs => mFor g body xs
section
variable {K : PySem.W.Frag} {W : WX} {σ : L2.St} {ln : Nat → Addr} {c : Ctx} {H : Hp} {Z : Zs} {Fs : Nat → List Addr} {E : Ends} {body : M Out}
/-- the body of a turn, with what is to come behind it -/
theorem turn_run {m1 m2 : M Out} {N : L2.St → Hp → Prop} (h : RunS K W (mb body fun o => match o with
      | .nx => m1
      | .ct => m1
      | .bk => mp .nx
      | .rt r => mp (.rt r)) σ ln c H Z Fs E) (hN : ∀ σ1 c1 H1 Z1 F1, Sl K ln H1 Z1 c1 σ1 F1 → Stp H Z (Ow Fs) H1 Z1 (Ow F1) → RunS K W m1 σ1 ln c1 H1 Z1 F1 E → N σ1 H1) :
    RunS K W body σ ln c H Z Fs { E with nx := N, ct := N, bk := E.nx } := by
  unfold RunS mb at h
  unfold RunS
  cases e : body c with
  | stk => rw [e] at h; exact h
  | er x c' => rw [e] at h; exact h
  | ok o c1 =>
    rw [e] at h
    simp only at h
    intro σ1 H1 Z1 F1 S1 T1
    have next : (match m1 c1 with
        | .stk => False
        | .ok o c' => ∀ σ' H' Z' Fs', Sl K ln H' Z' c' σ' Fs' → Stp H Z (Ow Fs) H' Z' (Ow Fs') → EndOf K H Fs E o σ' H' Z' Fs'
        | .er e c' => ∀ cls d σ' H' Z' Fs', Sl K ln H' Z' c' σ' Fs' → Stp H Z (Ow Fs) H' Z' (Ow Fs') → ErR K H' Z' e cls d → W cls d σ' H') → N σ1 H1 := fun h => by
      refine hN σ1 c1 H1 Z1 F1 S1 T1 ?_
      unfold RunS
      cases e2 : m1 c1 with
      | stk => rw [e2] at h; exact h
      | er x c' => rw [e2] at h; exact fun cls d σ' H' Z' F' S T2 r => h cls d σ' H' Z' F' S (T1.trans T2) r
      | ok o2 c2 => rw [e2] at h; exact fun σ' H' Z' F' S T2 => (h σ' H' Z' F' S (T1.trans T2)).back T1
    cases o with
    | nx => exact next h
    | ct => exact next h
    | bk => exact h σ1 H1 Z1 F1 S1 T1
    | rt r => exact h σ1 H1 Z1 F1 S1 T1
end
theorem tg_of {K : PySem.W.Frag} {W : WX} {σ : L2.St} {ln : Nat → Addr} {c : Ctx} {H : Hp} {Z : Zs} {Fs : Nat → List Addr} {E : Ends} {m rest : M Out} {is : List Nat} {Q : L2.St → Hp → Prop} (h : RunS K W (mb (mq m) fun o => match o with
      | .nx => rest
      | _ => fun _ => .stk) σ ln c H Z Fs E)
    (k : ∀ σ1 c1 H1 Z1 F1, Sl K ln H1 Z1 c1 σ1 F1 → Stp H Z (Ow Fs) H1 Z1 (Ow F1) → RunS K W rest σ1 ln c1 H1 Z1 F1 E → Q σ1 H1) : TgEnd K is (m c) σ ln H Z Fs Q := by
  unfold RunS mb mq at h
  unfold TgEnd
  cases e : m c with
  | stk => rw [e] at h; exact h
  | er x c' => rw [e] at h; exact h
  | ok o c1 =>
    rw [e] at h
    simp only at h
    cases o with
    | nx =>
      intro σ1 H1 Z1 F1 S1 T1 _
      refine k σ1 c1 H1 Z1 F1 S1 T1 ?_
      simp only at h
      unfold RunS
      cases e2 : rest c1 with
      | stk => rw [e2] at h; exact h
      | er x c' => rw [e2] at h; exact fun cls d σ' H' Z' F' S T2 r => h cls d σ' H' Z' F' S (T1.trans T2) r
      | ok o2 c2 => rw [e2] at h; exact fun σ' H' Z' F' S T2 => (h σ' H' Z' F' S (T1.trans T2)).back T1
    | bk => exact h
    | ct => exact h
    | rt r => exact h
theorem ss_for {X : Cx} {W : WX} {tg iter : Expr} {is : List Nat} {body : List Stmt} {mi : M (List D)} {g : D → M Out} {mbd : M Out} {pos : Pos} (hp : PassesOwn (model X.prog X.w) X.A X.env X.xe) (hc : X.calm = true) (hi : EI X W tg iter mi) (hg : EG X tg is g) (hb : SSs X W body mbd)
    (hs : ∀ x, foldedSetIterable iter X.env x = pure x := by intro _; rfl) : SS X W (.For tg iter body [] pos) (mForS mi g mbd) := by
  refine ⟨psImp (ps_for hp hc hi.pi hg.pg hb.ps hs) fun E σ H q => ?_⟩
  obtain ⟨ln, c, Z, Fs, S, q⟩ := q
  refine ⟨ln, c, Z, Fs, S, q.bindE.mono ?_⟩
  rintro xs c1 H1 Z1 F1 ⟨S1, T1, h1⟩ J hJ
  refine ⟨fun i m σ' H' => m = xs.length - i ∧ i ≤ xs.length ∧ ∃ c' Z' Fs', Sl X.K ln H' Z' c' σ' Fs' ∧ Stp H1 Z1 (Ow F1) H' Z' (Ow Fs') ∧ RunS X.K W (mFor g mbd (xs.drop i)) σ' ln c' H' Z' Fs' E,
    ⟨xs.length, rfl, Nat.zero_le _, c1, Z1, F1, S1, .refl, h1⟩, ?_⟩
  rintro i m σ' H' ⟨rfl, hi, c', Z', Fs', S', T', h'⟩
  obtain ⟨y1, y2⟩ := hJ H' Z' T'.ext S'.zl i
  by_cases hlt : i < xs.length
  · obtain ⟨x, hx⟩ : ∃ x, xs[i]? = some x := ⟨_, List.getElem?_eq_getElem hlt⟩
    obtain ⟨go, yl⟩ := y1 x hx
    refine .inr ⟨go, fun σ2 H2 => xs.length - (i + 1) = xs.length - (i + 1) ∧ i + 1 ≤ xs.length ∧ ∃ c' Z' Fs', Sl X.K ln H2 Z' c' σ2 Fs' ∧ Stp H1 Z1 (Ow F1) H2 Z' (Ow Fs') ∧ RunS X.K W (mFor g mbd (xs.drop (i + 1))) σ2 ln c' H2 Z' Fs' E, fun σ2 H2 hN => ⟨xs.length - (i + 1), by omega, hN⟩, fun v H'' y => ?_⟩
    obtain ⟨Z'', n, rv⟩ := yl v H'' y
    have ed : xs.drop i = x :: xs.drop (i + 1) := by
      rw [List.drop_eq_getElem_cons hlt]
      rw [List.getElem?_eq_getElem hlt] at hx
      cases hx
      rfl
    rw [ed] at h'
    have h2 : RunS X.K W (mFor g mbd (x :: xs.drop (i + 1))) σ' ln c' H'' Z'' Fs' E := h'.later n.stp
    refine ⟨ln, c', Z'', Fs', x, S'.new n, rv, tg_of h2 fun σ2 c2 H2 Z2 F2 S2 T2 h3 => ?_⟩
    refine ⟨ln, c2, Z2, F2, S2, turn_run (m2 := mp .nx) h3 fun σ3 c3 H3 Z3 F3 S3 T3 h4 => ?_⟩
    exact ⟨rfl, hlt, c3, Z3, F3, S3, T'.trans (n.stp.trans (T2.trans T3)), h4⟩
  · refine .inl ⟨y2 (by omega), ?_⟩
    have e : xs.drop i = [] := List.drop_eq_nil_of_le (by omega)
    rw [e] at h'
    exact h'.pure S'

/-! ### while -/
def mWhile (mt : M Bool) (body : M Out) : Nat → M Out
  | 0 => fun _ => .stk
  | n + 1 => mb mt fun b => if b = true then mb body fun o => match o with
      | .nx => mWhile mt body n
      | .ct => mWhile mt body n
      | .bk => mp .nx
      | .rt r => mp (.rt r)
    else mp .nx
theorem ss_while {X : Cx} {W : WX} {c : Expr} {body : List Stmt} {mt : M Bool} {mbd : M Out} {pos : Pos} (n : Nat) (hp : PassesOwn (model X.prog X.w) X.A X.env X.xe) (hc : ET X W c mt) (hb : SSs X W body mbd) : SS X W (.While c body [] pos) (mWhile mt mbd n) := by
  refine ⟨psImp (ps_while hp hc.pt hb.ps) fun E σ H q => ?_⟩
  obtain ⟨ln, c, Z, Fs, S, q⟩ := q
  refine ⟨fun m σ' H' => ∃ c' Z' Fs', Sl X.K ln H' Z' c' σ' Fs' ∧ RunS X.K W (mWhile mt mbd m) σ' ln c' H' Z' Fs' E, ⟨n, c, Z, Fs, S, q⟩, ?_⟩
  rintro m σ' H' ⟨c', Z', Fs', S', h'⟩
  cases m with
  | zero => exact h'.elim
  | succ k =>
    refine ⟨ln, c', Z', Fs', S', h'.bindE.mono ?_⟩
    rintro b c1 H1 Z1 F1 ⟨S1, T1, h1⟩
    cases b with
    | true =>
      refine ⟨fun σ2 H2 => ∃ c' Z' Fs', Sl X.K ln H2 Z' c' σ2 Fs' ∧ RunS X.K W (mWhile mt mbd k) σ2 ln c' H2 Z' Fs' E, fun σ2 H2 hN => ⟨k, Nat.lt_succ_self _, hN⟩, ln, c1, Z1, F1, S1, turn_run (m2 := mp .nx) h1 fun σ3 c3 H3 Z3 F3 S3 T3 h4 => ⟨c3, Z3, F3, S3, h4⟩⟩
    | false => exact h1.pure S1

/-! ### comprehensions -/
abbrev WF : WX := fun _ _ _ _ => False
structure EPs (X : Cx) (W : WX) (ifs : List Expr) (m : M Bool) : Prop where
  pt : PTs X ifs (tT X.K W m)
theorem eps_nil {X : Cx} {W : WX} : EPs X W [] (mp true) := ⟨⟨fun pins s σ H Q I q => by
  obtain ⟨ln, c, Z, Fs, S, q⟩ := q
  exact pts_nil.run pins s σ H Q I (q.pure S)⟩⟩
theorem eps_one {X : Cx} {W : WX} {e : Expr} {m : M Bool} (h : ET X W e m) : EPs X W [e] m := ⟨pts_one h.pt⟩
def wipeC (c : Ctx) : List Nat → Ctx
  | [] => c
  | v :: vs => (wipeC c vs).set v .no
def lcLoop (vs : List Nat) (g : D → M Out) (tt : M Bool) (me : M D) : List D → List D → M (List D)
  | [], acc => fun c => .ok acc (wipeC c vs)
  | x :: xs, acc => fun c => mb (g x) (fun o => match o with
    | .nx => mb tt fun b => if b = true then mb me fun y => if acc.length < sizeLine then lcLoop vs g tt me xs (acc ++ [y]) else fun _ => .stk else lcLoop vs g tt me xs acc
    | _ => fun _ => .stk) (wipeC c vs)
def mLc (vs : List Nat) (mi : M (List D)) (g : D → M Out) (tt : M Bool) (me : M D) : M O := mb mi fun xs => mb (mq (lcLoop vs g tt me xs [])) fun acc => mp (.lst acc)
def wipeF (Fs : Nat → List Addr) (vs : List Nat) : Nat → List Addr := fun j => if j ∈ vs then [] else Fs j
section
variable {K : PySem.W.Frag} {σ σ' : L2.St} {ln : Nat → Addr} {c : Ctx} {H : Hp} {Z : Zs} {Fs : Nat → List Addr} {vs : List Nat}
theorem wipeC_length : ∀ {vs : List Nat}, (wipeC c vs).length = c.length
  | [] => rfl
  | v :: vs => by unfold wipeC; rw [List.length_set, wipeC_length]
theorem wipeC_get : ∀ {vs : List Nat} {j : Nat}, (wipeC c vs).getD j .no = if j ∈ vs then .no else c.getD j .no
  | [], j => by simp [wipeC]
  | v :: vs, j => by
    unfold wipeC
    by_cases hv : v < (wipeC c vs).length
    · rw [getD_set hv, wipeC_get]
      by_cases h : j = v
      · subst h; simp
      · simp [h]
    · have e : (wipeC c vs).set v .no = wipeC c vs := List.set_eq_of_length_le (by omega)
      rw [e, wipeC_get]
      by_cases h : j = v
      · subst h
        have : c.getD j .no = .no := by
          rw [List.getD_eq_getElem?_getD, List.getElem?_eq_none (by rw [wipeC_length] at hv; omega)]
          rfl
        rw [this]; simp
      · simp [h]
theorem wipe_get : ∀ {vs : List Nat} {j : Nat}, j ∉ vs → (wipe σ vs)[j]? = σ[j]?
  | [], j, _ => rfl
  | v :: vs, j, h => by
    unfold wipe
    rw [List.getElem?_set_ne (fun e => h (by simp [e])), wipe_get fun z => h (List.mem_cons_of_mem _ z)]
theorem wipe_out : ∀ {vs : List Nat} {j : Nat}, j ∈ vs → j < σ.length → (wipe σ vs)[j]? = some none
  | v :: vs, j, h, hl => by
    unfold wipe
    by_cases e : v = j
    · subst e
      rw [List.getElem?_set_self (by rw [wipe_length]; exact hl)]
    · rw [List.getElem?_set_ne e]
      exact wipe_out ((List.mem_cons.mp h).resolve_left (Ne.symm e)) hl
theorem wipe_eq {is : List Nat} (his : ∀ j ∈ is, j ∈ vs) (hl : σ'.length = σ.length) (k : ∀ j, j ∉ is → σ'[j]? = (wipe σ vs)[j]?) : wipe σ' vs = wipe σ vs := by
  refine List.ext_getElem? fun j => ?_
  by_cases h : j ∈ vs
  · by_cases hj : j < σ.length
    · rw [wipe_out h (by omega), wipe_out h hj]
    · rw [List.getElem?_eq_none (by rw [wipe_length]; omega), List.getElem?_eq_none (by rw [wipe_length]; omega)]
  · rw [wipe_get h]
    exact k j fun z => h (his j z)
/-- the names of a block forgotten -/
theorem Sl.wipe (S : Sl K ln H Z c σ Fs) (vs : List Nat) : Sl K ln H Z (wipeC c vs) (L2.wipe σ vs) (wipeF Fs vs) ∧ ∀ a, Ow (wipeF Fs vs) a → Ow Fs a := by
  refine ⟨⟨by rw [wipeC_length, wipe_length]; exact S.len, fun j => ?_, fun i j a h1 h2 => ?_, fun i a h => ?_, S.zl⟩, fun a ⟨j, hj⟩ => ?_⟩
  · rw [wipeC_get]
    by_cases h : j ∈ vs
    · rw [if_pos h]
      show wipeF Fs vs j = []
      unfold wipeF
      rw [if_pos h]
    · rw [if_neg h, wipe_get h]
      unfold wipeF
      rw [if_neg h]
      exact S.rep j
  · unfold wipeF at h1 h2
    by_cases hi : i ∈ vs
    · rw [if_pos hi] at h1; simp at h1
    · by_cases hj : j ∈ vs
      · rw [if_pos hj] at h2; simp at h2
      · rw [if_neg hi] at h1
        rw [if_neg hj] at h2
        exact S.dis i j a h1 h2
  · unfold wipeF at h
    by_cases hi : i ∈ vs
    · rw [if_pos hi] at h; simp at h
    · rw [if_neg hi] at h
      exact S.nz i a h
  · unfold wipeF at hj
    by_cases hi : j ∈ vs
    · rw [if_pos hi] at hj; simp at hj
    · rw [if_neg hi] at hj
      exact ⟨j, hj⟩
/-- .. and the slots as they were ahead -/
theorem Sl.unwipe (S : Sl K ln H Z (wipeC c vs) (L2.wipe σ vs) Fs) : Sl K ln H Z (wipeC c vs) σ Fs := by
  refine ⟨by rw [S.len, wipe_length], fun j => ?_, S.dis, S.nz, S.zl⟩
  have rep := S.rep j
  by_cases h : j ∈ vs
  · rw [wipeC_get, if_pos h] at rep ⊢
    exact rep
  · rw [wipe_get h] at rep
    exact rep
/-- a foreign thing is written -/
theorem Sl.poke {D : Addr} {o : HO} (S : Sl K ln H Z c σ Fs) (hD : ∀ xs, H D ≠ some (.tup xs)) (hF : ∀ u o, H D ≠ some (.frz u o)) (nZ : ¬ Z D) (nO : ∀ i, D ∉ Fs i) : Sl K ln (upd H D o) Z c σ Fs := by
  have e : Ext H Z (upd H D o) Z := ⟨fun b xs h => by rw [upd_ne]; exact h; rintro rfl; exact hD xs h, fun b u x h => by rw [upd_ne]; exact h; rintro rfl; exact hF u x h, fun b u z h => by
    rw [upd_ne]
    · exact h
    · rintro rfl; exact nZ z, fun _ z => z⟩
  exact ⟨S.len, fun j => (S.rep j).ext e fun a ha u h => by
    rw [upd_ne]
    · exact h
    · rintro rfl; exact nO j ha, S.dis, S.nz, fun a z => by
    by_cases h : a = D
    · subst h; rw [upd_same]; simp
    · rw [upd_ne h]; exact S.zl a z⟩
end
end Sw
set_option maxRecDepth 100000
set_option maxHeartbeats 4000000
namespace Sw
open PySem PySem.Spec L2

theorem Stp.poke {H H' : Hp} {Z Z' : Zs} {P P' : Addr → Prop} {D : Addr} {o : HO} (T : Stp H Z P H' Z' P') (hD : H D = none) : Stp H Z P (upd H' D o) Z' P' where
  ext := ⟨fun b xs h => by rw [upd_ne (ne_of_none h hD)]; exact T.ext.tp b xs h, fun b u x h => by rw [upd_ne (ne_of_none h hD)]; exact T.ext.fz b u x h, fun b u z h => by rw [upd_ne (ne_of_none h hD)]; exact T.ext.zk b u z h, T.ext.zi⟩
  keep := fun b u h n => by rw [upd_ne (ne_of_none h hD)]; exact T.keep b u h n
  live := fun b h => by
    by_cases e : b = D
    · subst e; rw [upd_same]; simp
    · rw [upd_ne e]; exact T.live b h
  out := T.out
  zout := T.zout
theorem wipe_idem {σ : L2.St} {vs : List Nat} : wipe (wipe σ vs) vs = wipe σ vs := by
  refine List.ext_getElem? fun j => ?_
  by_cases h : j ∈ vs
  · by_cases hj : j < σ.length
    · rw [wipe_out h (by rw [wipe_length]; exact hj), wipe_out h hj]
    · rw [List.getElem?_eq_none (by rw [wipe_length, wipe_length]; omega), List.getElem?_eq_none (by rw [wipe_length]; omega)]
  · rw [wipe_get h]
theorem lc_core' {X : Cx} {W : WX} {vs is : List Nat} {mi : M (List D)} {g : D → M Out} {tt : M Bool} {me : M D} {σ : L2.St} {H : Hp} {Q : VK} (his : ∀ j ∈ is, j ∈ vs) (q : tO X.K W (mLc vs mi g tt me) σ H Q) :
    tLc (fun σ H R => ∃ ln c Z Fs, Sl X.K ln H Z c σ Fs ∧ Run X.K W mi σ ln c H Z Fs fun xs c' H' Z' Fs' => ∀ J, Yl X.K J H' Z' xs → R J H')
      (fun v σ H Q => ∃ ln c Z Fs x, Sl X.K ln H Z c σ Fs ∧ Rp X.K H Z x v ∧ TgEnd X.K is (g x c) σ ln H Z Fs Q) (tT X.K WF tt) (tD X.K WF me) vs σ H Q := by
  obtain ⟨ln, c, Z, Fs, S, q⟩ := q
  have hm : Run X.K W mi σ ln c H Z Fs fun xs c1 H1 Z1 F1 => Sl X.K ln H1 Z1 c1 σ F1 ∧ Stp H Z (Ow Fs) H1 Z1 (Ow F1) ∧ ∃ out cf, lcLoop vs g tt me xs [] c1 = .ok out cf ∧
      ∀ H' Z' Fs', Sl X.K ln H' Z' cf σ Fs' → Stp H1 Z1 (Ow F1) H' Z' (Ow Fs') → ∀ v F, RpO X.K H' Z' (.lst out) v F → (∀ a ∈ F, H1 a = none) → (∀ a ∈ F, ∀ i, a ∉ Fs' i) → (∀ a ∈ F, ¬ Z' a) → Q v H' := by
    unfold Run mLc mb mq mp at q
    unfold Run
    cases e : mi c with
    | stk => rw [e] at q; exact q
    | er x c' => rw [e] at q; exact q
    | ok xs c1 =>
      rw [e] at q
      intro H1 Z1 F1 S1 T1
      refine ⟨S1, T1, ?_⟩
      simp only at q
      cases e2 : lcLoop vs g tt me xs [] c1 with
      | stk => rw [e2] at q; exact q.elim
      | er x c' => rw [e2] at q; exact q.elim
      | ok out cf =>
        rw [e2] at q
        exact ⟨out, cf, rfl, fun H' Z' Fs' S' T' v F ro f1 f2 f3 => q H' Z' Fs' S' (T1.trans T') v F ro (fun a ha => .inr (dead_of T1.live (f1 a ha))) f2 f3⟩
  refine ⟨ln, c, Z, Fs, S, hm.mono ?_⟩
  rintro xs c1 H1 Z1 F1 ⟨S1, T1, out, cf, elc, fin⟩ J hJ Dd hDn
  -- between two turns
  refine ⟨fun i m H' => m = xs.length - i ∧ i ≤ xs.length ∧ ∃ c' Z' Fs' acc us, Sl X.K ln H' Z' (wipeC c' vs) (wipe σ vs) Fs' ∧ Stp H1 Z1 (Ow F1) H' Z' (Ow Fs') ∧ H' Dd = some (.lst us) ∧ Rps X.K H' Z' acc us ∧ ¬ Z' Dd ∧ (∀ i, Dd ∉ Fs' i) ∧
    lcLoop vs g tt me (xs.drop i) acc c' = .ok out cf, ⟨xs.length, rfl, Nat.zero_le _, ?_⟩, ?_⟩
  · obtain ⟨S2, l2⟩ := S1.wipe vs
    have nD : ∀ i, Dd ∉ wipeF F1 vs i := fun i h => by
      obtain ⟨ys, e⟩ := (S2.rep i).there Dd h
      rw [hDn] at e; cases e
    have nZ : ¬ Z1 Dd := fun z => S1.zl Dd z hDn
    have S3 := S2.new (newTup (Z := Z1) hDn (.lst []))
    have T3 : Stp H1 Z1 (Ow F1) (upd H1 Dd (.lst [])) Z1 (Ow (wipeF F1 vs)) := (newTup (Z := Z1) hDn (.lst [])).stp.less l2
    exact ⟨c1, Z1, wipeF F1 vs, [], [], S3, T3, upd_same, .nil, nZ, nD, elc⟩
  · rintro i m H' ⟨rfl, hi, c', Z', Fs', acc, us, S', T', hD, racc, nZ, nD, el⟩
    obtain ⟨y1, y2⟩ := hJ H' Z' T'.ext S'.zl i
    by_cases hlt : i < xs.length
    · obtain ⟨x, hx⟩ : ∃ x, xs[i]? = some x := ⟨_, List.getElem?_eq_getElem hlt⟩
      obtain ⟨go, yl⟩ := y1 x hx
      refine .inr ⟨go, fun H2 => xs.length - (i + 1) = xs.length - (i + 1) ∧ i + 1 ≤ xs.length ∧ ∃ c' Z' Fs' acc us, Sl X.K ln H2 Z' (wipeC c' vs) (wipe σ vs) Fs' ∧ Stp H1 Z1 (Ow F1) H2 Z' (Ow Fs') ∧ H2 Dd = some (.lst us) ∧ Rps X.K H2 Z' acc us ∧ ¬ Z' Dd ∧ (∀ i, Dd ∉ Fs' i) ∧
        lcLoop vs g tt me (xs.drop (i + 1)) acc c' = .ok out cf, fun H2 hN => ⟨xs.length - (i + 1), by omega, hN⟩, fun v H2 y => ?_⟩
      obtain ⟨Z2, n, rv⟩ := yl v H2 y
      have ed : xs.drop i = x :: xs.drop (i + 1) := by
        rw [List.drop_eq_getElem_cons hlt]
        rw [List.getElem?_eq_getElem hlt] at hx
        cases hx
        rfl
      rw [ed] at el
      have S2 := S'.new n
      have hD2 : H2 Dd = some (.lst us) := n.same _ _ hD
      have nZ2 : ¬ Z2 Dd := fun z => (n.zo Dd z).elim nZ fun q => by rw [hD] at q; cases q.1
      have T2 := T'.trans n.stp
      have el : mb (g x) (fun o => match o with
        | .nx => mb tt fun b => if b = true then mb me fun y => if acc.length < sizeLine then lcLoop vs g tt me (xs.drop (i + 1)) (acc ++ [y]) else fun _ => .stk else lcLoop vs g tt me (xs.drop (i + 1)) acc
        | _ => fun _ => .stk) (wipeC c' vs) = .ok out cf := el
      refine ⟨ln, wipeC c' vs, Z2, Fs', x, S2, rv, ?_⟩
      unfold TgEnd
      unfold mb at el
      cases e1 : g x (wipeC c' vs) with
      | stk => rw [e1] at el; cases el
      | er _ _ => rw [e1] at el; cases el
      | ok o c2 =>
        rw [e1] at el
        cases o with
        | nx =>
          simp only at el
          intro σ3 H3 Z3 F3 S3 T3 k3
          have hl3 : σ3.length = σ.length := by rw [k3.2, wipe_length]
          have hw : wipe σ3 vs = wipe σ vs := wipe_eq his hl3 k3.1
          refine ⟨hw, ?_⟩
          have hD3 : H3 Dd = some (.lst us) := T3.keep _ _ hD2 fun ⟨j, hj⟩ => nD j hj
          have nZ3 : ¬ Z3 Dd := fun z => by
            rcases T3.zout Dd z with z | ⟨j, z⟩ | z
            · exact nZ2 z
            · exact nD j z
            · rw [hD2] at z; cases z
          have nD3 : ∀ j, Dd ∉ F3 j := fun j hj => by
            rcases T3.out Dd ⟨j, hj⟩ with ⟨k, z⟩ | z
            · exact nD k z
            · rw [hD2] at z; cases z
          have T13 := T2.trans T3
          have r3 := (racc.ext n.ext).ext T3.ext
          refine ⟨ln, c2, Z3, F3, S3, ?_⟩
          unfold Run
          cases e2 : tt c2 with
          | stk => rw [e2] at el; cases el
          | er _ _ => rw [e2] at el; cases el
          | ok b c3 =>
            rw [e2] at el
            simp only at el ⊢
            intro H4 Z4 F4 S4 T4
            have hD4 : H4 Dd = some (.lst us) := T4.keep _ _ hD3 fun ⟨j, hj⟩ => nD3 j hj
            have nZ4 : ¬ Z4 Dd := fun z => by
              rcases T4.zout Dd z with z | ⟨j, z⟩ | z
              · exact nZ3 z
              · exact nD3 j z
              · rw [hD3] at z; cases z
            have nD4 : ∀ j, Dd ∉ F4 j := fun j hj => by
              rcases T4.out Dd ⟨j, hj⟩ with ⟨k, z⟩ | z
              · exact nD3 k z
              · rw [hD3] at z; cases z
            have T14 := T13.trans T4
            have r4 := r3.ext T4.ext
            cases b with
            | false =>
              simp only [Bool.false_eq_true, if_false] at el ⊢
              obtain ⟨S5, l5⟩ := S4.wipe vs
              rw [hw] at S5
              exact ⟨by trivial, hlt, c3, Z4, _, acc, us, S5, T14.less l5, hD4, r4, nZ4, fun j hj => by
                obtain ⟨k, hk⟩ := l5 Dd ⟨j, hj⟩
                exact nD4 k hk, el⟩
            | true =>
              simp only [if_true] at el ⊢
              refine ⟨ln, c3, Z4, F4, S4, ?_⟩
              unfold Run
              cases e3 : me c3 with
              | stk => rw [e3] at el; cases el
              | er _ _ => rw [e3] at el; cases el
              | ok yv c4 =>
                rw [e3] at el
                simp only at el ⊢
                intro H5 Z5 F5 S5 T5 w rw'
                by_cases hz : acc.length < sizeLine
                · rw [if_pos hz] at el
                  have hD5 : H5 Dd = some (.lst us) := T5.keep _ _ hD4 fun ⟨j, hj⟩ => nD4 j hj
                  have nZ5 : ¬ Z5 Dd := fun z => by
                    rcases T5.zout Dd z with z | ⟨j, z⟩ | z
                    · exact nZ4 z
                    · exact nD4 j z
                    · rw [hD4] at z; cases z
                  have nD5 : ∀ j, Dd ∉ F5 j := fun j hj => by
                    rcases T5.out Dd ⟨j, hj⟩ with ⟨k, z⟩ | z
                    · exact nD4 k z
                    · rw [hD4] at z; cases z
                  have T15 := T14.trans T5
                  have r5 := r4.ext T5.ext
                  obtain ⟨S6, l6⟩ := S5.wipe vs
                  rw [hw] at S6
                  have nD6 : ∀ j, Dd ∉ wipeF F5 vs j := fun j hj => by
                    obtain ⟨k, hk⟩ := l6 Dd ⟨j, hj⟩
                    exact nD5 k hk
                  have e6 : Ext H5 Z5 (upd H5 Dd (.lst (us ++ [w]))) Z5 := ⟨fun b ys h => by rw [upd_ne (ne_of h hD5 (by intro z; cases z))]; exact h, fun b o u h => by rw [upd_ne (ne_of h hD5 (by intro z; cases z))]; exact h, fun b o z h => by
                    rw [upd_ne]
                    · exact h
                    · rintro rfl; exact nZ5 z, fun _ z => z⟩
                  refine ⟨us, hD5, by rw [← racc.length]; exact hz, by trivial, hlt, c4, Z5, _, acc ++ [yv], us ++ [w], S6.poke (fun xs h => by rw [hD5] at h; cases h) (fun u o h => by rw [hD5] at h; cases h) nZ5 nD6, (T15.less l6).poke hDn, upd_same, (r5.ext e6).append (.cons (rw'.ext e6) .nil), nZ5, nD6, el⟩
                · rw [if_neg hz] at el
                  cases el
        | _ => cases el
    · refine .inl ⟨y2 (by omega), ?_⟩
      have e : xs.drop i = [] := List.drop_eq_nil_of_le (by omega)
      rw [e] at el
      cases el
      exact fin H' Z' Fs' S'.unwipe T' (.ref Dd) [Dd] ⟨Dd, us, rfl, rfl, hD, racc⟩ (fun a ha => by rw [List.mem_singleton.mp ha]; exact hDn) (fun a ha => by rw [List.mem_singleton.mp ha]; exact nD) fun a ha => by rw [List.mem_singleton.mp ha]; exact nZ
section
variable {X : Cx} {W : WX} {elt tg iter : Expr} {ifs : List Expr} {scope : Scope} {own : List (Str × Nat)} {pos : Pos} {is : List Nat} {mi : M (List D)} {g : D → M Out} {tt : M Bool} {me : M D}
theorem eo_lc (hc : X.calm = true) (hN : X.N.Nodup) (hi : EI X W tg iter mi) (ok : BlkOk X.N X.env.scope scope own)
    (hg : ∀ (s : Shared) (H : Hp) (C : Addr) (cl : List (Str × Addr)) (fp : List Addr), EG (X.blk s H scope (compEnvC scope cl C X.env) fp) tg is g) (ht : ∀ (s : Shared) (H : Hp) (C : Addr) (cl : List (Str × Addr)) (fp : List Addr), EPs (X.blk s H scope (compEnvC scope cl C X.env) fp) WF ifs tt)
    (he : ∀ (s : Shared) (H : Hp) (C : Addr) (cl : List (Str × Addr)) (fp : List Addr), ED (X.blk s H scope (compEnvC scope cl C X.env) fp) WF elt me) (his : ∀ j ∈ is, j ∈ own.map (·.2)) (hs : ∀ x, foldedSetIterable iter X.env x = pure x := by intro _; rfl) :
    EO X W (.ListComp elt [⟨tg, iter, ifs, 0⟩] scope pos) (mLc (own.map (·.2)) mi g tt me) :=
  ⟨peImp (pe_lc (te := tD X.K WF me) (tt := tT X.K WF tt) (g := fun v σ H Q => ∃ ln c Z Fs x, Sl X.K ln H Z c σ Fs ∧ Rp X.K H Z x v ∧ TgEnd X.K is (g x c) σ ln H Z Fs Q) hc hN hi.pi ok (fun s H C cl fp => (hg s H C cl fp).pg) (fun s H C cl fp => (ht s H C cl fp).pt) (fun s H C cl fp => (he s H C cl fp).pe) hs) fun σ H Q q => lc_core' his q⟩
/-- y = [..], y a local -/
theorem ss_setLc {i : Nat} {y : Str} {py spos : Pos} (hc : X.calm = true) (hN : X.N.Nodup) (hy : X.N[i]? = some y) (hyl : X.env.scope.names.lookup y = some .local)
    (hsw : swapsWith (.ListComp elt [⟨tg, iter, ifs, 0⟩] scope pos) (some (.Name y py)) spos.line X.env = pure true) (hi : EI X W tg iter mi) (ok : BlkOk X.N X.env.scope scope own)
    (hg : ∀ (s : Shared) (H : Hp) (C : Addr) (cl : List (Str × Addr)) (fp : List Addr), EG (X.blk s H scope (compEnvC scope cl C X.env) fp) tg is g) (ht : ∀ (s : Shared) (H : Hp) (C : Addr) (cl : List (Str × Addr)) (fp : List Addr), EPs (X.blk s H scope (compEnvC scope cl C X.env) fp) WF ifs tt)
    (he : ∀ (s : Shared) (H : Hp) (C : Addr) (cl : List (Str × Addr)) (fp : List Addr), ED (X.blk s H scope (compEnvC scope cl C X.env) fp) WF elt me) (his : ∀ j ∈ is, j ∈ own.map (·.2)) (hs : ∀ x, foldedSetIterable iter X.env x = pure x := by intro _; rfl) :
    SS X W (.Assign [.Name y py] (.ListComp elt [⟨tg, iter, ifs, 0⟩] scope pos) spos) (mSetO i (mLc (own.map (·.2)) mi g tt me)) := by
  refine ⟨psImp (L2.ps_setLc (te := tD X.K WF me) (tt := tT X.K WF tt) (g := fun v σ H Q => ∃ ln c Z Fs x, Sl X.K ln H Z c σ Fs ∧ Rp X.K H Z x v ∧ TgEnd X.K is (g x c) σ ln H Z Fs Q) hc hN hy hyl hsw hi.pi ok (fun s H C cl fp => (hg s H C cl fp).pg) (fun s H C cl fp => (ht s H C cl fp).pt) (fun s H C cl fp => (he s H C cl fp).pe) hs) fun E σ H q => ?_⟩
  obtain ⟨ln, c, Z, Fs, S, q⟩ := q
  refine lc_core' his (W := W) ⟨ln, c, Z, Fs, S, ?_⟩
  exact setO_run q
end
end Sw
set_option maxRecDepth 100000
set_option maxHeartbeats 4000000
namespace Sw
open PySem PySem.Spec L2

/-! ### what a def does, by deep values -/
/-- the arguments as they stand at the entry; what is handed back, and the slots at the end (what was lent, as it is now) -/
abbrev Fd := List Sv → Rs Rv
def spF (K : PySem.W.Frag) (n : Nat) (F : Fd) : Sp := fun vs H Q E => ∃ ln args Z Fs, args.length = n ∧ Sl K ln H Z args (vs.map some) Fs ∧ match F args with
  | .stk => False
  | .ok r c' => ∀ v V' H' Z' Fs' σ', RpR K H' Z' r v V' → Sl K ln H' Z' c' σ' Fs' → Stp H Z (Ow Fs) H' Z' (Ow Fs') → Loose H Fs Z' Fs' V' → Q v H'
  | .er e c' => ∀ cls d H' Z' Fs' σ', Sl K ln H' Z' c' σ' Fs' → Stp H Z (Ow Fs) H' Z' (Ow Fs') → ErR K H' Z' e cls d → E cls d H'
def fnM (n : Nat) (m : M Out) : Fd := fun args => match m (args ++ List.replicate (n - args.length) .no) with
  | .ok (.rt r) c' => .ok r c'
  | .ok .nx c' => .ok (.d .non) c'
  | .er e c' => .er e c'
  | _ => .stk
theorem Sl.start {K : PySem.W.Frag} {ln : Nat → Addr} {args : Ctx} {vs : List V} {H : Hp} {Z : Zs} {Fs : Nat → List Addr} {N : List Str} (S : Sl K ln H Z args (vs.map some) Fs) :
    Sl K ln H Z (args ++ List.replicate (N.length - args.length) .no) (L2.start N vs) Fs := by
  have hl : args.length = vs.length := by rw [S.len, List.length_map]
  refine ⟨?_, fun i => ?_, S.dis, S.nz, S.zl⟩
  · unfold L2.start
    rw [List.length_append, List.length_append, List.length_replicate, List.length_replicate, List.length_map, hl]
  · have rep := S.rep i
    unfold L2.start
    by_cases hi : i < args.length
    · rw [List.getD_eq_getElem?_getD, List.getElem?_append_left hi, ← List.getD_eq_getElem?_getD, List.getElem?_append_left (by rw [List.length_map]; omega)]
      exact rep
    · have e : args.getD i .no = .no := by
        rw [List.getD_eq_getElem?_getD, List.getElem?_eq_none (by omega)]
        rfl
      rw [e] at rep
      have e2 : (args ++ List.replicate (N.length - args.length) Sv.no).getD i .no = .no := by
        rw [List.getD_eq_getElem?_getD, List.getElem?_append_right (by omega), List.getElem?_replicate]
        split <;> rfl
      rw [e2]
      exact rep
theorem fn_ok {P : Program} {w : World} {K : PySem.W.Frag} {mg : Str → Option Value} {base : Heap} {x qual : Str} {st : Stmt} {f : Addr} {fd : FuncData} {N ps : List Str} {k : Nat} {m : M Out} (F : Fun K x qual st f fd) (S : FnScope N ps (defScope st))
    (hb : ∀ (cdv : Value) (A : Around) (outer : List Env) (s : Shared) (H : Hp) (E : XK), Room k (A.deeper (PyProof.Rows.envOfC qual (defScope st) s.heap.objs.size f cdv)) →
      SSs (cxOf (L2.CX P w) P w K mg base N qual (defScope st) f cdv A outer s H E) (fun cls d _ H => E cls d H) (defBody st) m) : FnOk P w K mg base (L2.CX P w) (k + 1) f fd ps (spF K ps.length (fnM N.length m)) := by
  refine F.okX S (fun vs H Q E h => ?_) (fun cdv A outer s H vs Q E hr h => ?_)
  · obtain ⟨ln, args, Z, Fs, hl, S, _⟩ := h
    rw [← hl, S.len, List.length_map]
  · obtain ⟨ln, args, Z, Fs, hl, Sa, h⟩ := h
    refine ⟨_, (hb cdv A outer s H E hr).ps, ln, _, Z, Fs, Sa.start, ?_⟩
    unfold fnM at h
    unfold RunS
    cases e : m (args ++ List.replicate (N.length - args.length) .no) with
    | stk => rw [e] at h; exact h
    | er x c' => rw [e] at h; exact fun cls d σ' H' Z' Fs' S' T' r => h cls d H' Z' Fs' σ' S' T' r
    | ok o c' =>
      rw [e] at h
      intro σ' H' Z' Fs' S' T'
      cases o with
      | nx => exact h .non [] H' Z' Fs' σ' ⟨.non, rfl⟩ S' T' ⟨fun a h => (by simp at h), fun a h => (by simp at h), fun a h => (by simp at h)⟩
      | bk => exact h.elim
      | ct => exact h.elim
      | rt r => exact fun v F rv l => h v F H' Z' Fs' σ' rv S' T' l
/-! a def's promise by a simpler function -/
def Fg (c c2 : Ctx) : Prop := c.length ≤ c2.length ∧ ∀ i, c.getD i .no = .no ∨ c.getD i .no = c2.getD i .no
def Le (a b : Rs Rv) : Prop := match a with
  | .stk => True
  | .ok r c => ∃ c2, b = .ok r c2 ∧ Fg c c2
  | .er e c => ∃ c2, b = .er e c2 ∧ Fg c c2
theorem Fg.nil {c : Ctx} : Fg [] c := ⟨Nat.zero_le _, fun _ => .inl (by simp)⟩
theorem Fg.refl {c : Ctx} : Fg c c := ⟨Nat.le_refl _, fun _ => .inr rfl⟩
theorem Sl.forget {K : PySem.W.Frag} {ln : Nat → Addr} {c c2 : Ctx} {σ : L2.St} {H : Hp} {Z : Zs} {Fs : Nat → List Addr} (S : Sl K ln H Z c2 σ Fs) (g : Fg c c2) : ∃ F2, Sl K ln H Z c (σ.take c.length) F2 ∧ ∀ i, F2 i = [] ∨ F2 i = Fs i := by
  have h : ∀ i, ∃ F, RpS K H Z (ln i) (c.getD i .no) (σ.take c.length)[i]? F ∧ (F = [] ∨ F = Fs i) := fun i => by
    rcases g.2 i with e | e
    · exact ⟨[], by rw [e]; rfl, .inl rfl⟩
    · by_cases hi : i < c.length
      · refine ⟨Fs i, ?_, .inr rfl⟩
        rw [e, List.getElem?_take_of_lt hi]
        exact S.rep i
      · refine ⟨[], ?_, .inl rfl⟩
        have e2 : c.getD i .no = .no := by
          rw [List.getD_eq_getElem?_getD, List.getElem?_eq_none (by omega)]
          rfl
        rw [e2]
        rfl
  have h2 := Classical.axiomOfChoice h
  obtain ⟨F2, h2⟩ := h2
  have sub : ∀ i a, a ∈ F2 i → a ∈ Fs i := fun i a h => by
    rcases (h2 i).2 with e | e
    · rw [e] at h; simp at h
    · rw [e] at h; exact h
  refine ⟨F2, ⟨by rw [List.length_take, ← S.len]; exact (Nat.min_eq_left g.1).symm, fun i => (h2 i).1, fun i j a h1 h2 => S.dis i j a (sub i a h1) (sub j a h2), fun i a h => S.nz i a (sub i a h), S.zl⟩, fun i => (h2 i).2⟩
theorem spF.le {K : PySem.W.Frag} {n : Nat} {F F' : Fd} (h : ∀ args, args.length = n → Le (F' args) (F args)) : ∀ vs H Q E, spF K n F' vs H Q E → spF K n F vs H Q E := by
  intro vs H Q E q
  obtain ⟨ln, args, Z, Fs, hl, S, q⟩ := q
  refine ⟨ln, args, Z, Fs, hl, S, ?_⟩
  have l := h args hl
  unfold Le at l
  cases e : F' args with
  | stk => rw [e] at q; exact q.elim
  | ok r c =>
    rw [e] at q l
    obtain ⟨c2, e2, g⟩ := l
    rw [e2]
    intro v V' H' Z' Fs' σ' rv S' T' lo
    obtain ⟨F2, S2, hF⟩ := S'.forget g
    have sub : ∀ a, Ow F2 a → Ow Fs' a := fun a ⟨i, hi⟩ => by
      rcases hF i with e | e
      · rw [e] at hi; simp at hi
      · rw [e] at hi; exact ⟨i, hi⟩
    exact q v V' H' Z' F2 _ rv S2 (T'.less sub) ⟨lo.out, fun a ha i hi => by
      obtain ⟨j, hj⟩ := sub a ⟨i, hi⟩
      exact lo.dis a ha j hj, lo.nz⟩
  | er x c =>
    rw [e] at q l
    obtain ⟨c2, e2, g⟩ := l
    rw [e2]
    intro cls d H' Z' Fs' σ' S' T' r
    obtain ⟨F2, S2, hF⟩ := S'.forget g
    have sub : ∀ a, Ow F2 a → Ow Fs' a := fun a ⟨i, hi⟩ => by
      rcases hF i with e | e
      · rw [e] at hi; simp at hi
      · rw [e] at hi; exact ⟨i, hi⟩
    exact q cls d H' Z' F2 _ S2 (T'.less sub) r
abbrev FnD (P : Program) (w : World) (K : PySem.W.Frag) (mg : Str → Option Value) (base : Heap) (k : Nat) (f : Addr) (fd : FuncData) (ps : List Str) (F : Fd) : Prop := FnOk P w K mg base (L2.CX P w) k f fd ps (spF K ps.length F)
theorem FnOk.le {P : Program} {w : World} {K : PySem.W.Frag} {mg : Str → Option Value} {base : Heap} {k : Nat} {f : Addr} {fd : FuncData} {ps : List Str} {F F' : Fd} (G : FnD P w K mg base k f fd ps F) (h : ∀ args, args.length = ps.length → Le (F' args) (F args)) : FnD P w K mg base k f fd ps F' :=
  G.imp (spF.le h)
/-- a def that takes what lasts, and is lent nothing -/
def fnP (G : List D → Rs Rv) : Fd := fun args => match args.mapM (fun s => match s with | .d x => some x | _ => none) with
  | some xs => match G xs with
    | .ok r _ => .ok r []
    | .er e _ => .er e []
    | .stk => .stk
  | none => .stk

/-! ### calls -/
def mCall (F : Fd) (ma : M (List D)) : M D := mb ma fun xs => fun c => match F (xs.map .d) with
  | .ok (.d y) _ => .ok y c
  | .er e _ => .er e c
  | _ => .stk
def mCallO (F : Fd) (ma : M (List D)) : M O := mb ma fun xs => fun c => match F (xs.map .d) with
  | .ok (.o y) _ => .ok y c
  | .er e _ => .er e c
  | _ => .stk
section
variable {K : PySem.W.Frag} {σ : L2.St} {ln : Nat → Addr} {c : Ctx} {H H' : Hp} {Z Z' : Zs} {Fs : Nat → List Addr}
theorem Sl.args {xs : List D} {vs : List V} (zl : ∀ a, Z a → H a ≠ none) (r : Rps K H Z xs vs) : Sl K (fun _ => (0 : Nat)) H Z (xs.map .d) (vs.map some) (fun _ => []) := by
  refine ⟨by rw [List.length_map, List.length_map, r.length], fun i => ?_, fun i j a h => by simp at h, fun i a h => by simp at h, zl⟩
  by_cases hi : i < xs.length
  · obtain ⟨v, e, rv⟩ := r.get' (List.getElem?_eq_getElem hi)
    rw [List.getD_eq_getElem?_getD, List.getElem?_map, List.getElem?_eq_getElem hi, List.getElem?_map, e]
    exact ⟨v, rfl, rv, rfl⟩
  · rw [List.getD_eq_getElem?_getD, List.getElem?_map, List.getElem?_eq_none (by omega)]
    rfl
theorem ow_nil : Ow (fun _ => ([] : List Addr)) = fun _ => False := by
  funext a
  simp [Ow]
/-- nothing of ours was lent: only new things -/
theorem new_of {P' : Addr → Prop} (T : Stp H Z (Ow fun _ => []) H' Z' P') (zl : ∀ a, Z' a → H' a ≠ none) : New H Z H' Z' :=
  ⟨fun a o h => T.keep a o h fun ⟨_, q⟩ => by simp at q, T.ext.zi, fun a z => by
    rcases T.zout a z with q | ⟨_, q⟩ | q
    · exact .inl q
    · simp at q
    · exact .inr ⟨q, zl a z⟩⟩
end
section
variable {X : Cx} {W : WX} {k : Nat} {f : Addr} {fd : FuncData} {ps : List Str} {F : Fd} {x : Str} {p pos : Pos} {e : Expr} {es : List Expr} {ma : M (List D)}
theorem lim_args {xs : List D} {n : Nat} {F : Fd} (h : xs.length = n) : (xs.map Sv.d).length = n := by rw [List.length_map]; exact h
theorem ed_call (G : FnD X.prog X.w X.K X.mg X.base k f fd ps F) (hr : Room k X.A) (hg : Gl X x) (hm : X.mg x = some (.ref f)) (hk : PySem.W.keepIn X.K (.ref f) = true) (hb : Binds X.K fd ps []) (tk : Takes X W) (ha : EA X W (e :: es) ma) (hlen : (e :: es).length = ps.length)
    (hma : ∀ c xs c', ma c = .ok xs c' → xs.length = (e :: es).length) (hdb : (x == ("__debug__" : Str)) = false := by decide) (he : starEach (e :: es) X.env = (false, eval e X.env) :: starEach es X.env := by rfl) (hpl : (backTo pos (starEach es X.env)).any (·.1) = false := by rfl) :
    ED X W (.Call (.Name x p) (e :: es) [] pos) (mCall F ma) := by
  refine ⟨peImp (pe_callS G hr hg hm hk hb (fun σ => passAt tk σ) ha.pa hdb he hpl) fun σ H Q q => ?_⟩
  obtain ⟨ln, c, Z, Fs, S, q⟩ := q
  refine ⟨ln, c, Z, Fs, S, ?_⟩
  unfold Run mCall mb at q
  unfold Run
  cases e1 : ma c with
  | stk => rw [e1] at q; exact q
  | er y c' => rw [e1] at q; exact q
  | ok xs c1 =>
    rw [e1] at q
    simp only at q
    intro H1 Z1 F1 S1 T1 vs rvs
    refine ⟨fun _ => (0 : Nat), xs.map .d, Z1, fun _ => [], by rw [List.length_map, hma _ _ _ e1, hlen], Sl.args S1.zl rvs, ?_⟩
    cases e2 : F (xs.map .d) with
    | stk => rw [e2] at q; exact q
    | er y c' =>
      rw [e2] at q
      intro cls d H' Z' Fs' σ' S' T' r
      have n := new_of T' S'.zl
      exact q cls d H' Z' F1 (S1.new n) (T1.trans n.stp) r
    | ok r c' =>
      rw [e2] at q
      cases r with
      | o y => exact q.elim
      | d y =>
        intro v V' H' Z' Fs' σ' rv S' T' lo
        have n := new_of T' S'.zl
        exact q H' Z' F1 (S1.new n) (T1.trans n.stp) v rv.1
theorem eo_call (G : FnD X.prog X.w X.K X.mg X.base k f fd ps F) (hr : Room k X.A) (hg : Gl X x) (hm : X.mg x = some (.ref f)) (hk : PySem.W.keepIn X.K (.ref f) = true) (hb : Binds X.K fd ps []) (tk : Takes X W) (ha : EA X W (e :: es) ma) (hlen : (e :: es).length = ps.length)
    (hma : ∀ c xs c', ma c = .ok xs c' → xs.length = (e :: es).length) (hdb : (x == ("__debug__" : Str)) = false := by decide) (he : starEach (e :: es) X.env = (false, eval e X.env) :: starEach es X.env := by rfl) (hpl : (backTo pos (starEach es X.env)).any (·.1) = false := by rfl) :
    EO X W (.Call (.Name x p) (e :: es) [] pos) (mCallO F ma) := by
  refine ⟨peImp (pe_callS G hr hg hm hk hb (fun σ => passAt tk σ) ha.pa hdb he hpl) fun σ H Q q => ?_⟩
  obtain ⟨ln, c, Z, Fs, S, q⟩ := q
  refine ⟨ln, c, Z, Fs, S, ?_⟩
  unfold Run mCallO mb at q
  unfold Run
  cases e1 : ma c with
  | stk => rw [e1] at q; exact q
  | er y c' => rw [e1] at q; exact q
  | ok xs c1 =>
    rw [e1] at q
    simp only at q
    intro H1 Z1 F1 S1 T1 vs rvs
    refine ⟨fun _ => (0 : Nat), xs.map .d, Z1, fun _ => [], by rw [List.length_map, hma _ _ _ e1, hlen], Sl.args S1.zl rvs, ?_⟩
    cases e2 : F (xs.map .d) with
    | stk => rw [e2] at q; exact q
    | er y c' =>
      rw [e2] at q
      intro cls d H' Z' Fs' σ' S' T' r
      have n := new_of T' S'.zl
      exact q cls d H' Z' F1 (S1.new n) (T1.trans n.stp) r
    | ok r c' =>
      rw [e2] at q
      cases r with
      | d y => exact q.elim
      | o y =>
        intro v V' H' Z' Fs' σ' rv S' T' lo
        have n := new_of T' S'.zl
        have fr : ∀ a ∈ V', H1 a = none := fun a ha => (lo.out a ha).elim (fun ⟨_, z⟩ => by simp at z) id
        exact q H' Z' F1 (S1.new n) (T1.trans n.stp) v V' rv (fun a ha => .inr (dead_of T1.live (fr a ha))) (fun a ha i hi => by
          obtain ⟨ys, z⟩ := (S1.rep i).there a hi
          rw [fr a ha] at z; cases z) lo.nz
theorem mCons_len {e : Expr} {ma : M D} {mr : M (List D)} {n : Nat} (h : ∀ c xs c', mr c = .ok xs c' → xs.length = n) : ∀ c xs c', mCons ma mr c = .ok xs c' → xs.length = n + 1 := by
  intro c xs c' q
  unfold mCons mb mp at q
  cases e1 : ma c with
  | stk => rw [e1] at q; cases q
  | er _ _ => rw [e1] at q; cases q
  | ok x c1 =>
    rw [e1] at q
    simp only at q
    cases e2 : mr c1 with
    | stk => rw [e2] at q; cases q
    | er _ _ => rw [e2] at q; cases q
    | ok ys c2 =>
      rw [e2] at q
      cases q
      rw [List.length_cons, h _ _ _ e2]
theorem mNil_len : ∀ c xs c', (mp ([] : List D)) c = .ok xs c' → xs.length = 0 := by
  intro c xs c' q
  cases q
  rfl
end
end Sw
set_option maxRecDepth 100000
set_option maxHeartbeats 4000000
namespace Sw
open PySem PySem.Spec L2

/-! ### calls that are lent things -/
inductive Ar where
  | d (x : D)
  | l (i : Nat)
def lentSv : Sv → Option Sv
  | .o x => some (.l x)
  | .l x => some (.l x)
  | _ => none
def arSv (c : Ctx) : Ar → Option Sv
  | .d x => some (.d x)
  | .l i => lentSv (c.getD i .no)
def arSvs (c : Ctx) : List Ar → Option (List Sv)
  | [] => some []
  | a :: as => match arSv c a, arSvs c as with
    | some x, some xs => some (x :: xs)
    | _, _ => none
def lentOf : List Ar → List Nat
  | [] => []
  | .d _ :: as => lentOf as
  | .l i :: as => i :: lentOf as
/-- what was lent, as it is now -/
def backSv : Sv → Sv → Sv
  | .o _, .l y => .o y
  | .l _, .l y => .l y
  | _, _ => .no
def back (c' : Ctx) : Nat → List Ar → Ctx → Ctx
  | _, [], c => c
  | j, .d _ :: as, c => back c' (j + 1) as c
  | j, .l i :: as, c => back c' (j + 1) as (c.set i (backSv (c.getD i .no) (c'.getD j .no)))
def mCallA (F : Fd) (ma : M (List Ar)) : M Rv := mb ma fun as => fun c => if (lentOf as).Nodup then match arSvs c as with
  | none => .stk
  | some args => match F args with
    | .stk => .stk
    | .ok r c' => .ok r (back c' 0 as c)
    | .er e c' => .er e (back c' 0 as c)
  else .stk
def ArR (K : PySem.W.Frag) (σ : L2.St) (H : Hp) (Z : Zs) : Ar → V → Prop
  | .d x, v => Rp K H Z x v
  | .l i, v => σ[i]? = some (some v)
structure EAA (X : Cx) (W : WX) (es : List Expr) (m : M (List Ar)) : Prop where
  pa : PA X es fun σ H Q => ∃ ln c Z Fs, Sl X.K ln H Z c σ Fs ∧ Run X.K W m σ ln c H Z Fs fun as c' H' Z' Fs' => ∀ vs, Paired (ArR X.K σ H' Z') as vs → Q vs H'
def aNil : M (List Ar) := mp []
def aD (me : M D) (mr : M (List Ar)) : M (List Ar) := mb me fun x => mb mr fun xs => mp (.d x :: xs)
def aL (i : Nat) (mr : M (List Ar)) : M (List Ar) := fun c => match c.getD i .no with
  | .o _ => mb mr (fun xs => mp (.l i :: xs)) c
  | .l _ => mb mr (fun xs => mp (.l i :: xs)) c
  | _ => .stk
section
variable {K : PySem.W.Frag} {σ : L2.St} {H H' : Hp} {Z Z' : Zs}
theorem ArR.ext {a : Ar} {v : V} (e : Ext H Z H' Z') (h : ArR K σ H Z a v) : ArR K σ H' Z' a v := by
  cases a with
  | d x => exact Rp.ext e h
  | l i => exact h
theorem ArR.exts (e : Ext H Z H' Z') : ∀ {as : List Ar} {vs : List V}, Paired (ArR K σ H Z) as vs → Paired (ArR K σ H' Z') as vs
  | _, _, .nil => .nil
  | _, _, .cons h t => .cons (h.ext e) (ArR.exts e t)
end
section
variable {X : Cx} {W : WX} {e : Expr} {es : List Expr} {me : M D} {mr : M (List Ar)} {pos : Pos} {i : Nat} {x : Str}
theorem eaa_nil : EAA X W [] aNil := by
  refine ⟨paImp pa_nil fun σ H Q q => ?_⟩
  obtain ⟨ln, c, Z, Fs, S, q⟩ := q
  exact Run.pure q S [] .nil
theorem eaa_d (ha : ED X W e me) (hr : EAA X W es mr) (hs : starEach (e :: es) X.env = (false, eval e X.env) :: starEach es X.env := by rfl) : EAA X W (e :: es) (aD me mr) := by
  refine ⟨paImp (pa_cons ha.pe hr.pa hs) fun σ H Q q => ?_⟩
  obtain ⟨ln, c, Z, Fs, S, q⟩ := q
  refine ⟨ln, c, Z, Fs, S, q.bind.mono ?_⟩
  rintro x c1 H1 Z1 F1 ⟨S1, T1, h1⟩ v rv
  refine ⟨ln, c1, Z1, F1, S1, h1.bind.mono ?_⟩
  rintro xs c2 H2 Z2 F2 ⟨S2, T2, h2⟩ vs rvs
  exact h2.pure S2 _ (.cons (rv.ext T2.ext) rvs)
theorem eaa_l (h : PE X (.Name x pos) (tVar i)) (hr : EAA X W es mr) (hs : starEach (.Name x pos :: es) X.env = (false, eval (.Name x pos) X.env) :: starEach es X.env := by rfl) : EAA X W (.Name x pos :: es) (aL i mr) := by
  refine ⟨paImp (pa_cons h hr.pa hs) fun σ H Q q => ?_⟩
  obtain ⟨ln, c, Z, Fs, S, q⟩ := q
  have n : c.getD i .no ≠ .no := fun n => by
    unfold Run aL at q
    rw [n] at q
    exact q
  obtain ⟨v, ev⟩ := (S.rep i).val n
  have q : Run X.K W (mb mr fun xs => mp (Ar.l i :: xs)) σ ln c H Z Fs fun as c' H' Z' Fs' => ∀ vs, Paired (ArR X.K σ H' Z') as vs → Q vs H' := by
    unfold Run aL at q
    unfold Run
    cases e : c.getD i .no with
    | no => exact absurd e n
    | d y => rw [e] at q; exact q.elim
    | o y => rw [e] at q; exact q
    | l y => rw [e] at q; exact q
  refine ⟨v, ev, ln, c, Z, Fs, S, q.bind.mono ?_⟩
  rintro xs c2 H2 Z2 F2 ⟨S2, T2, h2⟩ vs rvs
  exact h2.pure S2 _ (.cons ev rvs)
end
theorem arSvs_len {c : Ctx} : ∀ {as : List Ar} {ss : List Sv}, arSvs c as = some ss → ss.length = as.length
  | [], ss, h => by cases h; rfl
  | a :: as, ss, h => by
    unfold arSvs at h
    cases e1 : arSv c a with
    | none => rw [e1] at h; cases h
    | some x =>
      cases e2 : arSvs c as with
      | none => rw [e1, e2] at h; cases h
      | some xs =>
        rw [e1, e2] at h
        cases h
        rw [List.length_cons, List.length_cons, arSvs_len e2]
theorem arSvs_get {c : Ctx} : ∀ {as : List Ar} {ss : List Sv} {j : Nat} {a : Ar}, arSvs c as = some ss → as[j]? = some a → arSv c a = some (ss.getD j .no)
  | [], ss, j, a, h, e => by simp at e
  | b :: as, ss, j, a, h, e => by
    unfold arSvs at h
    cases e1 : arSv c b with
    | none => rw [e1] at h; cases h
    | some x =>
      cases e2 : arSvs c as with
      | none => rw [e1, e2] at h; cases h
      | some xs =>
        rw [e1, e2] at h
        cases h
        cases j with
        | zero => cases e; exact e1
        | succ j => exact arSvs_get (j := j) e2 e
theorem lent_mem : ∀ {as : List Ar} {j i : Nat}, as[j]? = some (.l i) → i ∈ lentOf as
  | [], j, i, e => by simp at e
  | .d x :: as, 0, i, e => by cases e
  | .d x :: as, j + 1, i, e => lent_mem (as := as) (j := j) e
  | .l k :: as, 0, i, e => by cases e; exact List.mem_cons_self
  | .l k :: as, j + 1, i, e => List.mem_cons_of_mem _ (lent_mem (as := as) (j := j) e)
theorem lent_inj : ∀ {as : List Ar} {j k i : Nat}, (lentOf as).Nodup → as[j]? = some (.l i) → as[k]? = some (.l i) → j = k
  | [], j, k, i, n, e, e' => by simp at e
  | .d x :: as, 0, k, i, n, e, e' => by cases e
  | .d x :: as, j + 1, 0, i, n, e, e' => by cases e'
  | .d x :: as, j + 1, k + 1, i, n, e, e' => congrArg (· + 1) (lent_inj (as := as) n e e')
  | .l m :: as, 0, 0, i, n, e, e' => rfl
  | .l m :: as, 0, k + 1, i, n, e, e' => by
    cases e
    exact absurd (lent_mem (as := as) (j := k) e') (List.nodup_cons.mp n).1
  | .l m :: as, j + 1, 0, i, n, e, e' => by
    cases e'
    exact absurd (lent_mem (as := as) (j := j) e) (List.nodup_cons.mp n).1
  | .l m :: as, j + 1, k + 1, i, n, e, e' => congrArg (· + 1) (lent_inj (as := as) (List.nodup_cons.mp n).2 e e')
theorem back_length {c' : Ctx} : ∀ {as : List Ar} {j : Nat} {c : Ctx}, (back c' j as c).length = c.length
  | [], j, c => rfl
  | .d _ :: as, j, c => back_length (as := as)
  | .l i :: as, j, c => by
    show (back c' (j + 1) as _).length = _
    rw [back_length (as := as), List.length_set]
theorem back_out {c' : Ctx} : ∀ {as : List Ar} {j i : Nat} {c : Ctx}, i ∉ lentOf as → (back c' j as c).getD i .no = c.getD i .no
  | [], j, i, c, h => rfl
  | .d _ :: as, j, i, c, h => back_out (as := as) h
  | .l k :: as, j, i, c, h => by
    have h1 : i ≠ k := fun e => h (by rw [e]; exact List.mem_cons_self)
    have h2 : i ∉ lentOf as := fun e => h (List.mem_cons_of_mem _ e)
    show (back c' (j + 1) as _).getD i .no = _
    rw [back_out h2, List.getD_eq_getElem?_getD, List.getElem?_set_ne (Ne.symm h1), List.getD_eq_getElem?_getD]
theorem back_in {c' : Ctx} : ∀ {as : List Ar} {j n i : Nat} {c : Ctx}, (lentOf as).Nodup → as[n]? = some (.l i) → i < c.length → (back c' j as c).getD i .no = backSv (c.getD i .no) (c'.getD (j + n) .no)
  | [], j, n, i, c, nd, e, hi => by simp at e
  | .d x :: as, j, 0, i, c, nd, e, hi => by cases e
  | .d x :: as, j, n + 1, i, c, nd, e, hi => by
    show (back c' (j + 1) as c).getD i .no = _
    rw [back_in (as := as) (n := n) nd e hi, Nat.add_right_comm, Nat.add_assoc]
  | .l k :: as, j, 0, i, c, nd, e, hi => by
    cases e
    show (back c' (j + 1) as _).getD k .no = _
    rw [back_out (List.nodup_cons.mp nd).1, getD_set hi, if_pos rfl]
    rfl
  | .l k :: as, j, n + 1, i, c, nd, e, hi => by
    have h1 : i ≠ k := fun z => (List.nodup_cons.mp nd).1 (by rw [← z]; exact lent_mem (as := as) (j := n) e)
    show (back c' (j + 1) as _).getD i .no = _
    rw [back_in (as := as) (n := n) (List.nodup_cons.mp nd).2 e (by rw [List.length_set]; exact hi), List.getD_eq_getElem?_getD, List.getElem?_set_ne (Ne.symm h1), ← List.getD_eq_getElem?_getD, Nat.add_right_comm, Nat.add_assoc]
/-- what the callee holds of the caller's -/
def lentF (Fs : Nat → List Addr) (as : List Ar) : Nat → List Addr := fun j => match as[j]? with
  | some (.l i) => Fs i
  | _ => []
def lentN (vs : List V) : Nat → Addr := fun j => match vs[j]? with
  | some (.ref a) => a
  | _ => (0 : Nat)
theorem Paired.getP {α β : Type} {R : α → β → Prop} : ∀ {l : List α} {r : List β} {j : Nat} {a : α}, Paired R l r → l[j]? = some a → ∃ b, r[j]? = some b ∧ R a b
  | [], _, _, _, .nil, e => by simp at e
  | x :: l, y :: r, 0, a, .cons h t, e => by cases e; exact ⟨y, rfl, h⟩
  | x :: l, y :: r, j + 1, a, .cons h t, e => Paired.getP (j := j) t e
theorem Paired.len {α β : Type} {R : α → β → Prop} : ∀ {l : List α} {r : List β}, Paired R l r → l.length = r.length
  | _, _, .nil => rfl
  | _, _, .cons _ t => congrArg (· + 1) (Paired.len t)
section
variable {K : PySem.W.Frag} {σ : L2.St} {ln : Nat → Addr} {c : Ctx} {H H' : Hp} {Z Z' : Zs} {Fs : Nat → List Addr} {as : List Ar} {vs : List V} {args : List Sv}
theorem RpO.isRef {x : O} {v : V} {F : List Addr} (h : RpO K H Z x v F) : ∃ a, v = .ref a := by
  cases x with
  | lst xs => obtain ⟨a, _, rfl, _⟩ := h; exact ⟨a, rfl⟩
theorem Sl.lend (S : Sl K ln H Z c σ Fs) (nd : (lentOf as).Nodup) (ea : arSvs c as = some args) (r : Paired (ArR K σ H Z) as vs) : Sl K (lentN vs) H Z args (vs.map some) (lentF Fs as) := by
  have hl : args.length = as.length := arSvs_len ea
  have hv : as.length = vs.length := Paired.len r
  have fin : ∀ j i, as[j]? = some (Ar.l i) → lentF Fs as j = Fs i := fun j i e => by unfold lentF; rw [e]
  have fout : ∀ j, (∀ i, as[j]? ≠ some (Ar.l i)) → lentF Fs as j = [] := fun j h => by
    unfold lentF
    cases e : as[j]? with
    | none => rfl
    | some a =>
      cases a with
      | d x => rfl
      | l i => exact absurd e (h i)
  have dec : ∀ j a, a ∈ lentF Fs as j → ∃ i, as[j]? = some (Ar.l i) ∧ a ∈ Fs i := fun j a h => by
    cases e : as[j]? with
    | none => rw [fout j (by rw [e]; intro i z; cases z)] at h; simp at h
    | some b =>
      cases b with
      | d x => rw [fout j (by rw [e]; intro i z; cases z)] at h; simp at h
      | l i => rw [fin j i e] at h; exact ⟨i, rfl, h⟩
  refine ⟨by rw [List.length_map, hl, hv], fun j => ?_, fun j k a h1 h2 => ?_, fun j a h => ?_, S.zl⟩
  · cases e : as[j]? with
    | none =>
      have e1 : args.getD j .no = .no := by
        rw [List.getD_eq_getElem?_getD, List.getElem?_eq_none (by rw [hl]; exact List.getElem?_eq_none_iff.mp e)]
        rfl
      rw [e1]
      exact fout j (by rw [e]; intro i z; cases z)
    | some a =>
      obtain ⟨v, ev, ra⟩ := Paired.getP r e
      have eg := arSvs_get ea e
      cases a with
      | d x =>
        rw [show args.getD j .no = Sv.d x from (Option.some.inj (show Option.some (Sv.d x) = some (args.getD j .no) from eg)).symm, List.getElem?_map, ev]
        exact ⟨v, rfl, ra, fout j (by rw [e]; intro i z; cases z)⟩
      | l i =>
        have rep := S.rep i
        rw [fin j i e, List.getElem?_map, ev]
        have eg : lentSv (c.getD i .no) = some (args.getD j .no) := eg
        have ra : σ[i]? = some (some v) := ra
        have eN : ∀ a, v = .ref a → lentN vs j = a := fun a z => by unfold lentN; rw [ev, z]
        cases ec : c.getD i .no with
        | no => rw [ec] at eg; cases eg
        | d x => rw [ec] at eg; cases eg
        | o x =>
          rw [ec] at eg rep
          rw [show args.getD j .no = Sv.l x from (Option.some.inj (show Option.some (Sv.l x) = some (args.getD j .no) from eg)).symm]
          obtain ⟨w, ew, ro⟩ := rep
          rw [ra] at ew
          cases ew
          obtain ⟨a, rfl⟩ := ro.isRef
          rw [eN a rfl]
          exact ⟨rfl, ro⟩
        | l x =>
          rw [ec] at eg rep
          rw [show args.getD j .no = Sv.l x from (Option.some.inj (show Option.some (Sv.l x) = some (args.getD j .no) from eg)).symm]
          obtain ⟨ew, ro⟩ := rep
          rw [ra] at ew
          cases ew
          rw [eN _ rfl]
          exact ⟨rfl, ro⟩
  · obtain ⟨i, e1, m1⟩ := dec j a h1
    obtain ⟨i', e2, m2⟩ := dec k a h2
    obtain rfl := S.dis i i' a m1 m2
    exact lent_inj nd e1 e2
  · obtain ⟨i, e1, m1⟩ := dec j a h
    exact S.nz i a m1
end
end Sw
set_option maxRecDepth 100000
set_option maxHeartbeats 4000000
namespace Sw
open PySem PySem.Spec L2

theorem mem_lent : ∀ {as : List Ar} {i : Nat}, i ∈ lentOf as → ∃ j : Nat, as[j]? = some (Ar.l i)
  | [], i, h => by simp [lentOf] at h
  | .d x :: as, i, h => by
    obtain ⟨j, e⟩ := mem_lent (as := as) h
    exact ⟨j + 1, e⟩
  | .l k :: as, i, h => by
    rcases List.mem_cons.mp h with h | h
    · exact ⟨0, by rw [h]; rfl⟩
    · obtain ⟨j, e⟩ := mem_lent (as := as) h
      exact ⟨j + 1, e⟩
section
variable {K : PySem.W.Frag} {σ σ' : L2.St} {ln : Nat → Addr} {c c' : Ctx} {H H' : Hp} {Z Z' : Zs} {Fs Fs' : Nat → List Addr} {as : List Ar} {vs : List V} {args : List Sv}
theorem lentF_dec {j : Nat} {a : Addr} (h : a ∈ lentF Fs as j) : ∃ i, as[j]? = some (Ar.l i) ∧ a ∈ Fs i := by
  unfold lentF at h
  cases e : as[j]? with
  | none => rw [e] at h; simp at h
  | some b =>
    cases b with
    | d x => rw [e] at h; simp at h
    | l i => rw [e] at h; exact ⟨i, rfl, h⟩
theorem Sl.unlend (S : Sl K ln H Z c σ Fs) (nd : (lentOf as).Nodup) (ea : arSvs c as = some args) (r : Paired (ArR K σ H Z) as vs)
    (S' : Sl K (lentN vs) H' Z' c' σ' Fs') (T : Stp H Z (Ow (lentF Fs as)) H' Z' (Ow Fs')) :
    ∃ F2, Sl K ln H' Z' (Sw.back c' 0 as c) σ F2 ∧ Stp H Z (Ow Fs) H' Z' (Ow F2) ∧ ∀ a, Ow F2 a → Ow Fs' a ∨ ∃ k, k ∉ lentOf as ∧ a ∈ Fs k := by
  have sub : ∀ a, Ow (lentF Fs as) a → Ow Fs a := fun a ⟨j, hj⟩ => by
    obtain ⟨i, _, m⟩ := lentF_dec hj
    exact ⟨i, m⟩
  have free : ∀ k a, k ∉ lentOf as → a ∈ Fs k → ¬ Ow (lentF Fs as) a := fun k a hk ha ⟨j, hj⟩ => by
    obtain ⟨i, e, m⟩ := lentF_dec hj
    rw [S.dis k i a ha m] at hk
    exact hk (lent_mem e)
  have key : ∀ i, ∃ F, RpS K H' Z' (ln i) ((Sw.back c' 0 as c).getD i .no) σ[i]? F ∧ (F = [] ∨ (i ∉ lentOf as ∧ F = Fs i) ∨ ∃ j, as[j]? = some (Ar.l i) ∧ F = Fs' j) := fun i => by
    by_cases hi : i ∈ lentOf as
    · obtain ⟨j, ej⟩ := mem_lent hi
      have hv : as.length = vs.length := Paired.len r
      obtain ⟨v, ev, rv⟩ := Paired.getP r ej
      have rv : σ[i]? = some (some v) := rv
      have eg := arSvs_get ea ej
      have eg : lentSv (c.getD i .no) = some (args.getD j .no) := eg
      have hil : i < c.length := by
        rw [S.len]
        exact (List.getElem?_eq_some_iff.mp rv).1
      rw [back_in nd ej hil, Nat.zero_add]
      have rep := S.rep i
      have rep' := S'.rep j
      cases e' : c'.getD j .no with
      | l y =>
        rw [e'] at rep'
        obtain ⟨e2, ro⟩ := rep'
        cases ec : c.getD i .no with
        | no => rw [ec] at eg; cases eg
        | d x => rw [ec] at eg; cases eg
        | o x =>
          rw [ec] at rep
          obtain ⟨w, ew, rw0⟩ := rep
          rw [rv] at ew
          cases ew
          obtain ⟨a, rfl⟩ := rw0.isRef
          have en : lentN vs j = a := by unfold lentN; rw [ev]
          rw [en] at ro
          exact ⟨Fs' j, ⟨_, rv, ro⟩, .inr (.inr ⟨j, ej, rfl⟩)⟩
        | l x =>
          rw [ec] at rep
          obtain ⟨ew, rw0⟩ := rep
          rw [rv] at ew
          cases ew
          have en : lentN vs j = ln i := by unfold lentN; rw [ev]
          rw [en] at ro
          exact ⟨Fs' j, ⟨rv, ro⟩, .inr (.inr ⟨j, ej, rfl⟩)⟩
      | no => exact ⟨[], by cases c.getD i .no <;> exact rfl, .inl rfl⟩
      | d y => exact ⟨[], by cases c.getD i .no <;> exact rfl, .inl rfl⟩
      | o y => exact ⟨[], by cases c.getD i .no <;> exact rfl, .inl rfl⟩
    · rw [back_out hi]
      exact ⟨Fs i, (S.rep i).ext T.ext fun a ha o h => T.keep a o h (free i a hi ha), .inr (.inl ⟨hi, rfl⟩)⟩
  obtain ⟨F2, h2⟩ := Classical.axiomOfChoice key
  have dec : ∀ i a, a ∈ F2 i → (i ∉ lentOf as ∧ a ∈ Fs i) ∨ ∃ j, as[j]? = some (Ar.l i) ∧ a ∈ Fs' j := fun i a ha => by
    rcases (h2 i).2 with e | ⟨e1, e⟩ | ⟨j, e1, e⟩
    · rw [e] at ha; simp at ha
    · rw [e] at ha; exact .inl ⟨e1, ha⟩
    · rw [e] at ha; exact .inr ⟨j, e1, ha⟩
  have liveF : ∀ k a, a ∈ Fs k → H a ≠ none := fun k a ha => by
    obtain ⟨xs, e⟩ := (S.rep k).there a ha
    rw [e]; simp
  have cross : ∀ k j a, k ∉ lentOf as → a ∈ Fs k → a ∈ Fs' j → False := fun k j a hk ha hj => by
    rcases T.out a ⟨j, hj⟩ with z | z
    · exact free k a hk ha z
    · exact liveF k a ha z
  refine ⟨F2, ⟨by rw [back_length]; exact S.len, fun i => (h2 i).1, fun i k a h3 h4 => ?_, fun i a ha z => ?_, S'.zl⟩, ⟨T.ext, fun a o h n => T.keep a o h fun q => n (sub a q), T.live, fun a ⟨i, hi⟩ => ?_, fun a z => ?_⟩, fun a ⟨i, hi⟩ => ?_⟩
  · rcases dec i a h3 with ⟨n1, m1⟩ | ⟨j1, e1, m1⟩ <;> rcases dec k a h4 with ⟨n2, m2⟩ | ⟨j2, e2, m2⟩
    · exact S.dis i k a m1 m2
    · exact (cross i j2 a n1 m1 m2).elim
    · exact (cross k j1 a n2 m2 m1).elim
    · obtain rfl := S'.dis j1 j2 a m1 m2
      rw [e1] at e2
      cases e2
      rfl
  · rcases dec i a ha with ⟨n1, m1⟩ | ⟨j1, e1, m1⟩
    · rcases T.zout a z with q | q | q
      · exact S.nz i a m1 q
      · exact free i a n1 m1 q
      · exact liveF i a m1 q
    · exact S'.nz j1 a m1 z
  · rcases dec i a hi with ⟨n1, m1⟩ | ⟨j1, e1, m1⟩
    · exact .inl ⟨i, m1⟩
    · exact (T.out a ⟨j1, m1⟩).imp (sub a) id
  · exact (T.zout a z).imp id (Or.imp (sub a) id)
  · rcases dec i a hi with ⟨n1, m1⟩ | ⟨j1, e1, m1⟩
    · exact .inr ⟨i, n1, m1⟩
    · exact .inl ⟨j1, m1⟩
end

/-! ### the calls -/
def mRvD (m : M Rv) : M D := mb m fun r => match r with
  | .d x => mp x
  | .o _ => fun _ => .stk
def mRvO (m : M Rv) : M O := mb m fun r => match r with
  | .o x => mp x
  | .d _ => fun _ => .stk
section
variable {X : Cx} {W : WX} {k : Nat} {f : Addr} {fd : FuncData} {ps : List Str} {F : Fd} {x : Str} {p pos : Pos} {e : Expr} {es : List Expr} {ma : M (List Ar)}
theorem callA_core {σ : L2.St} {ln : Nat → Addr} {c : Ctx} {H : Hp} {Z : Zs} {Fs : Nat → List Addr} {Q : VK} {kk : Rv → Ctx → Hp → Zs → (Nat → List Addr) → Prop} (hps : ∀ c xs c', ma c = .ok xs c' → xs.length = ps.length)
    (q : Run X.K W (mCallA F ma) σ ln c H Z Fs kk) (hk : ∀ (r : Rv) (c' : Ctx) (H' : Hp) (Z' : Zs) (F2 : Nat → List Addr) (H0 : Hp) (F0 : Nat → List Addr), kk r c' H' Z' F2 → (∀ a, Ow F0 a → Ow Fs a ∨ H a = none) → (∀ a, H a ≠ none → H0 a ≠ none) → (∀ v F, RpR X.K H' Z' r v F → (∀ a ∈ F, Ow F0 a ∨ H0 a = none) → (∀ a ∈ F, ∀ i, a ∉ F2 i) → (∀ a ∈ F, ¬ Z' a) → Q v H')) :
    Run X.K W ma σ ln c H Z Fs fun as c' H' Z' Fs' => ∀ vs, Paired (ArR X.K σ H' Z') as vs → spF X.K ps.length F vs H' Q (fun cls d H2 => W cls d σ H2) := by
  unfold Run mCallA mb at q
  unfold Run
  cases e1 : ma c with
  | stk => rw [e1] at q; exact q
  | er y c' => rw [e1] at q; exact q
  | ok as c1 =>
    rw [e1] at q
    simp only at q
    intro H1 Z1 F1 S1 T1 vs rvs
    by_cases nd : (lentOf as).Nodup
    · rw [if_pos nd] at q
      cases ea : arSvs c1 as with
      | none => rw [ea] at q; exact q.elim
      | some args =>
        rw [ea] at q
        simp only at q
        refine ⟨lentN vs, args, Z1, lentF F1 as, by rw [arSvs_len ea, hps _ _ _ e1], S1.lend nd ea rvs, ?_⟩
        cases e2 : F args with
        | stk => rw [e2] at q; exact q
        | er y c' =>
          rw [e2] at q
          intro cls d H' Z' Fs' σ' S' T' r
          obtain ⟨F2, S2, T2, _⟩ := S1.unlend nd ea rvs S' T'
          exact q cls d H' Z' F2 S2 (T1.trans T2) r
        | ok r c' =>
          rw [e2] at q
          intro v V' H' Z' Fs' σ' rv S' T' lo
          obtain ⟨F2, S2, T2, o2⟩ := S1.unlend nd ea rvs S' T'
          have q1 := q H' Z' F2 S2 (T1.trans T2)
          refine hk _ _ _ _ _ H1 F1 q1 (fun a ha => T1.out a ha) (fun a ha => T1.live a ha) v V' rv (fun a ha => ?_) (fun a ha i hi => ?_) lo.nz
          · rcases lo.out a ha with ⟨j, hj⟩ | z
            · obtain ⟨i, _, m⟩ := lentF_dec hj
              exact .inl ⟨i, m⟩
            · exact .inr z
          · rcases o2 a ⟨i, hi⟩ with ⟨j, hj⟩ | ⟨k, hk, m⟩
            · exact lo.dis a ha j hj
            · rcases lo.out a ha with ⟨j, hj⟩ | z
              · obtain ⟨i2, e3, m2⟩ := lentF_dec hj
                rw [S1.dis k i2 a m m2] at hk
                exact hk (lent_mem e3)
              · obtain ⟨xs, e3⟩ := (S1.rep k).there a m
                rw [z] at e3; cases e3
    · rw [if_neg nd] at q
      exact q.elim
theorem ed_callA (G : FnD X.prog X.w X.K X.mg X.base k f fd ps F) (hr : Room k X.A) (hg : Gl X x) (hm : X.mg x = some (.ref f)) (hk : PySem.W.keepIn X.K (.ref f) = true) (hb : Binds X.K fd ps []) (tk : Takes X W) (ha : EAA X W (e :: es) ma)
    (hps : ∀ c xs c', ma c = .ok xs c' → xs.length = ps.length) (hdb : (x == ("__debug__" : Str)) = false := by decide) (he : starEach (e :: es) X.env = (false, eval e X.env) :: starEach es X.env := by rfl) (hpl : (backTo pos (starEach es X.env)).any (·.1) = false := by rfl) :
    ED X W (.Call (.Name x p) (e :: es) [] pos) (mRvD (mCallA F ma)) := by
  refine ⟨peImp (pe_callS G hr hg hm hk hb (fun σ => passAt tk σ) ha.pa hdb he hpl) fun σ H Q q => ?_⟩
  obtain ⟨ln, c, Z, Fs, S, q⟩ := q
  refine ⟨ln, c, Z, Fs, S, (callA_core (Q := Q) hps q.bind ?_).mono fun as c' H' Z' Fs' h vs r => ?_⟩
  · rintro r c' H' Z' F2 H0 F0 ⟨S2, T2, h⟩ _ _ v F rv f1 f2 f3
    cases r with
    | d y => exact h.pure S2 v rv.1
    | o y => exact h.elim
  · exact h vs r
theorem eo_callA (G : FnD X.prog X.w X.K X.mg X.base k f fd ps F) (hr : Room k X.A) (hg : Gl X x) (hm : X.mg x = some (.ref f)) (hk : PySem.W.keepIn X.K (.ref f) = true) (hb : Binds X.K fd ps []) (tk : Takes X W) (ha : EAA X W (e :: es) ma)
    (hps : ∀ c xs c', ma c = .ok xs c' → xs.length = ps.length) (hdb : (x == ("__debug__" : Str)) = false := by decide) (he : starEach (e :: es) X.env = (false, eval e X.env) :: starEach es X.env := by rfl) (hpl : (backTo pos (starEach es X.env)).any (·.1) = false := by rfl) :
    EO X W (.Call (.Name x p) (e :: es) [] pos) (mRvO (mCallA F ma)) := by
  refine ⟨peImp (pe_callS G hr hg hm hk hb (fun σ => passAt tk σ) ha.pa hdb he hpl) fun σ H Q q => ?_⟩
  obtain ⟨ln, c, Z, Fs, S, q⟩ := q
  refine ⟨ln, c, Z, Fs, S, (callA_core (Q := Q) hps q.bind ?_).mono fun as c' H' Z' Fs' h vs r => ?_⟩
  · rintro r c' H' Z' F2 H0 F0 ⟨S2, T2, h⟩ g1 g2 v F rv f1 f2 f3
    cases r with
    | o y =>
      exact h.pure S2 v F rv (fun a ha => (f1 a ha).elim (g1 a) fun z => .inr (dead_of g2 z)) f2 f3
    | d y => exact h.elim
  · exact h vs r
end
theorem aNil_len : ∀ c xs c', aNil c = .ok xs c' → xs.length = 0 := by
  intro c xs c' q
  cases q
  rfl
theorem aD_len {ma : M D} {mr : M (List Ar)} {n : Nat} (h : ∀ c xs c', mr c = .ok xs c' → xs.length = n) : ∀ c xs c', aD ma mr c = .ok xs c' → xs.length = n + 1 := by
  intro c xs c' q
  unfold aD mb mp at q
  cases e1 : ma c with
  | stk => rw [e1] at q; cases q
  | er _ _ => rw [e1] at q; cases q
  | ok x c1 =>
    rw [e1] at q
    simp only at q
    cases e2 : mr c1 with
    | stk => rw [e2] at q; cases q
    | er _ _ => rw [e2] at q; cases q
    | ok ys c2 =>
      rw [e2] at q
      cases q
      rw [List.length_cons, h _ _ _ e2]
theorem aL_len {i : Nat} {mr : M (List Ar)} {n : Nat} (h : ∀ c xs c', mr c = .ok xs c' → xs.length = n) : ∀ c xs c', aL i mr c = .ok xs c' → xs.length = n + 1 := by
  intro c xs c' q
  have key : mb mr (fun xs => mp (Ar.l i :: xs)) c = .ok xs c' → xs.length = n + 1 := by
    intro q
    unfold mb mp at q
    cases e2 : mr c with
    | stk => rw [e2] at q; cases q
    | er _ _ => rw [e2] at q; cases q
    | ok ys c2 =>
      rw [e2] at q
      cases q
      rw [List.length_cons, h _ _ _ e2]
  unfold aL at q
  cases e : c.getD i .no with
  | no => rw [e] at q; cases q
  | d _ => rw [e] at q; cases q
  | o _ => rw [e] at q; exact key q
  | l _ => rw [e] at q; exact key q
end Sw
set_option maxRecDepth 100000
set_option maxHeartbeats 4000000
namespace Sw
open PySem PySem.Spec L2

/-! ### operators that make a thing of one's own -/
def OOp (K : PySem.W.Frag) (r : R2) (g : D → D → Option O) : Prop := ∀ (H : Hp) (Z : Zs) (x y : V) (dx dy : D) (z : O), RpV K H Z dx x → RpV K H Z dy y → (∀ a, Z a → H a ≠ none) → g dx dy = some z → ∀ Q : VK, (∀ v F H' Z', New H Z H' Z' → RpO K H' Z' z v F → (∀ a ∈ F, H a = none) → (∀ a ∈ F, ¬ Z' a) → Q v H') → r x y H Q
def rd2O (g : D → D → Option O) (p q : LV) : M O := fun c => match p c with
  | none => .stk
  | some x => match q c with
    | none => .stk
    | some y => ml (g x y) c
def o2 (g : D → D → Option O) (ma mb' : M LV) : M O := mb ma fun p => mb mb' fun q => rd2O g p q
section
variable {X : Cx} {W : WX} {pos : Pos} {a b : Expr} {ma mb' : M LV} {g : D → D → Option O} {r : R2}
theorem oop_core (hg : OOp X.K r g) {σ : L2.St} {H : Hp} {Q : VK} (h : tO X.K W (o2 g ma mb') σ H Q) : tOp r (tL X.K W ma) (tL X.K W mb') σ H Q := by
  obtain ⟨ln, c, Z, Fs, S, h⟩ := h
  refine ⟨ln, c, Z, Fs, S, h.bind.mono ?_⟩
  rintro p c1 H1 Z1 F1 ⟨S1, T1, h1⟩ v rv
  refine ⟨ln, c1, Z1, F1, S1, h1.bind.mono ?_⟩
  rintro q c2 H2 Z2 F2 ⟨S2, T2, h2⟩ u ru
  unfold Run rd2O at h2
  cases e1 : p c2 with
  | none => rw [e1] at h2; exact h2.elim
  | some x =>
    rw [e1] at h2
    cases e2 : q c2 with
    | none => rw [e2] at h2; exact h2.elim
    | some y =>
      rw [e2] at h2
      obtain ⟨z, ez, h3⟩ := Run.lift (K := X.K) (W := W) (o := g x y) (c := c2) h2
      refine hg H2 Z2 v u x y z (rv c2 H2 Z2 F2 x S2 T2 e1) (ru c2 H2 Z2 F2 y S2 .refl e2) S2.zl ez Q fun w F H' Z' n ro fr fz => h3 H' Z' F2 (S2.new n) n.stp w F ro (fun a ha => .inr (dead_of T1.live (dead_of T2.live (fr a ha)))) (fun a ha i hi => ?_) fz
      obtain ⟨xs, e3⟩ := (S2.rep i).there a hi
      rw [fr a ha] at e3; cases e3
theorem eo_op {op : Operator} (ho : OpR X (binaryOp op) r) (hg : OOp X.K r g) (ha : EL X W a ma) (hb : EL X W b mb') : EO X W (.BinOp a op b pos) (o2 g ma mb') :=
  ⟨peImp (pe_op ho ha.pe hb.pe) fun _ _ _ h => oop_core hg h⟩
end
def gCat : D → D → Option O
  | .nd .lst xs, .nd .lst ys => if xs.length + ys.length ≤ sizeLine then some (.lst (xs ++ ys)) else none
  | _, _ => none
theorem oop_cat (K : PySem.W.Frag) : OOp K rCat gCat := by
  intro H Z x y dx dy z rx ry zl e Q q
  cases hl : lstOf dx with
  | none =>
    cases dx with
    | nd t xs => cases t <;> first | (cases e; done) | (cases hl; done)
    | _ => cases e
  | some xs =>
    obtain ⟨a, vs, rfl, rfl, h1, r1⟩ := rx.lst hl
    cases hm : lstOf dy with
    | none =>
      cases dy with
      | nd t zs => cases t <;> first | (cases e; done) | (cases hm; done)
      | _ => cases e
    | some ys =>
      obtain ⟨b, us, rfl, rfl, h2, r2⟩ := ry.lst hm
      have e : (if xs.length + ys.length ≤ sizeLine then some (O.lst (xs ++ ys)) else none) = some z := e
      split at e
      · rename_i h
        cases e
        refine ⟨a, b, vs, us, rfl, rfl, h1, h2, by rw [← r1.length, ← r2.length]; exact h, fun p hp => ?_⟩
        obtain ⟨n, ro, f1, f2⟩ := own_new' zl hp (r1.append r2)
        exact q _ _ _ _ n ro f1 f2
      · cases e
/-- a slice of a list, owned -/
def OSl (K : PySem.W.Frag) (r : V → Option Int → Option Int → Hp → VK → Prop) (g : D → Option Int → Option Int → Option O) : Prop := ∀ (H : Hp) (Z : Zs) (x : V) (dx : D) (z : O) (lo hi : Option Int), RpV K H Z dx x → (∀ a, Z a → H a ≠ none) → g dx lo hi = some z → ∀ Q : VK, (∀ v F H' Z', New H Z H' Z' → RpO K H' Z' z v F → (∀ a ∈ F, H a = none) → (∀ a ∈ F, ¬ Z' a) → Q v H') → r x lo hi H Q
def gSlO : D → Option Int → Option Int → Option O
  | .nd .lst xs, lo, hi => some (.lst (cutD xs lo hi))
  | .nd .scr xs, lo, hi => some (.lst (cutD xs lo hi))
  | _, _, _ => none
theorem osl_list (K : PySem.W.Frag) : OSl K (rSlL K) gSlO := by
  intro H Z x dx z lo hi rx zl e Q q
  cases dx with
  | nd t xs =>
    cases t with
    | lst =>
      cases e
      obtain ⟨a, vs, rfl, h, r⟩ := rx.sq (.inl rfl)
      refine ⟨a, vs, rfl, h, fun p hp => ?_⟩
      obtain ⟨n, ro, f1, f2⟩ := own_new' zl hp (r.cut lo hi)
      exact q _ _ _ _ n ro f1 f2
    | scr =>
      cases e
      obtain ⟨a, vs, rfl, h, r⟩ := rx.sq (.inr rfl)
      refine ⟨a, vs, rfl, h, fun p hp => ?_⟩
      obtain ⟨n, ro, f1, f2⟩ := own_new' zl hp (r.cut lo hi)
      exact q _ _ _ _ n ro f1 f2
    | _ => cases e
  | _ => cases e
def oSl (g : D → Option Int → Option Int → Option O) (ma : M LV) (lo hi : M (Option Int)) : M O := mb ma fun p => mb lo fun l => mb hi fun h => fun c => match p c with
  | none => .stk
  | some x => ml (g x l h) c
theorem eo_sl {X : Cx} {W : WX} {e : Expr} {lo hi : Option Expr} {ml' mh : M (Option Int)} {ma : M LV} {pos p2 : Pos} {r : V → Option Int → Option Int → Hp → VK → Prop} {g : D → Option Int → Option Int → Option O} (hr : SlR X r) (hg : OSl X.K r g) (ha : EL X W e ma) (hl : EP' X W lo ml') (hh : EP' X W hi mh) : EO X W (.Subscript e (.Slice lo hi none p2) pos) (oSl g ma ml' mh) := by
  refine ⟨peImp (pe_slice hr ha.pe hl.po hh.po) fun σ H Q q => ?_⟩
  obtain ⟨ln, c, Z, Fs, S, q⟩ := q
  refine ⟨ln, c, Z, Fs, S, q.bind.mono ?_⟩
  rintro p c1 H1 Z1 F1 ⟨S1, T1, h1⟩ v rv
  refine ⟨ln, c1, Z1, F1, S1, h1.bind.mono ?_⟩
  rintro l c2 H2 Z2 F2 ⟨S2, T2, h2⟩
  refine ⟨ln, c2, Z2, F2, S2, h2.bind.mono ?_⟩
  rintro h c3 H3 Z3 F3 ⟨S3, T3, h3⟩
  unfold Run at h3
  cases ep : p c3 with
  | none => simp only [ep] at h3
  | some x =>
    simp only [ep] at h3
    obtain ⟨z, ez, h4⟩ := Run.lift (K := X.K) (W := W) (o := g x l h) (c := c3) h3
    refine hg H3 Z3 v x z l h (rv c3 H3 Z3 F3 x S3 (T2.trans T3) ep) S3.zl ez Q fun w F H' Z' n ro fr fz => h4 H' Z' F3 (S3.new n) n.stp w F ro (fun a ha => .inr (dead_of T1.live (dead_of T2.live (dead_of T3.live (fr a ha))))) (fun a ha i hi => ?_) fz
    obtain ⟨xs, e3⟩ := (S3.rep i).there a hi
    rw [fr a ha] at e3; cases e3

/-! ### x op= e, values -/
def gI (g : Int → Int → Int) : D → D → Option D
  | .int i, .int j => some (.int (g i j))
  | _, _ => none
def mAug (g : D → D → Option D) (i : Nat) (me : M D) : M Out := mb (mVar i) fun x => mb me fun y => mb (ml (g x y)) fun z => putS i (.d z)
theorem ss_augI {X : Cx} {W : WX} {pos npos : Pos} {e : Expr} {me : M D} {i : Nat} {x : Str} {op : Operator} {g : Int → Int → Int} (ho : PIp X op (ipI g)) (hN : X.N.Nodup) (hi : X.N[i]? = some x) (hx : Loc X.env.scope x) (he : ED X W e me) (hf : X.fn x = true ∨ X.env.scope.names.lookup x = some .local := by first | exact .inl rfl | exact .inr rfl | assumption) :
    SS X W (.AugAssign (.Name x npos) op e pos) (mAug (gI g) i me) := by
  refine ⟨psImp (ps_aug hN hi hx he.pe ho hf) fun E σ H q => ?_⟩
  obtain ⟨ln, c, Z, Fs, S, q⟩ := q
  have rep := S.rep i
  have q := q.bindE
  unfold Run mVar at q
  cases ec : c.getD i .no with
  | d x =>
    rw [ec] at rep q
    obtain ⟨v, ev, rv, _⟩ := rep
    obtain ⟨_, _, q⟩ := q H Z Fs S .refl
    refine ⟨v, ev, ln, c, Z, Fs, S, q.bindE.mono ?_⟩
    rintro y c1 H1 Z1 F1 ⟨S1, T1, h1⟩ u ru
    obtain ⟨z, ez, h2⟩ := h1.bindE.lift
    obtain ⟨S2, T2, h3⟩ := h2 H1 Z1 F1 S1 .refl
    cases x with
    | int a =>
      cases y with
      | int b =>
        cases rv
        cases ru
        cases ez
        exact ⟨a, b, rfl, rfl, putS_run (F := []) h3 S2 ⟨_, rfl, .int _, rfl⟩ (fun a h => by simp at h) (fun a h => by simp at h) (upF_less fun a h => by simp at h)⟩
      | _ => cases ez
    | _ => cases ez
  | no => rw [ec] at q; exact q.elim
  | o x => rw [ec] at q; exact q.elim
  | l x => rw [ec] at q; exact q.elim

/-! ### order of data -/
def rCmpD (K : PySem.W.Frag) (f : PyData → PyData → Bool) : R2 := fun x y H Q => ∃ d e, Dp K H x d ∧ Dp K H y e ∧ PySem.W.alike d e = true ∧ d ≠ .none ∧ min d.depth e.depth ≤ 64 ∧ Q (.bl (f d e)) H
section
variable {X : Cx}
theorem room64 {A : Around} {d e : PyData} (hu : A.units + 64 < cLine) (h : min d.depth e.depth ≤ 64) : A.units + min d.depth e.depth < cLine := by omega
theorem op_ltD (hu : X.A.units + 64 < cLine) : OpR X (compareOp .Lt) (rCmpD X.K PySem.W.dataLt) := by
  intro pins s σ H x y v u Q I rx ry h
  obtain ⟨d, e, hd, he, al, nn, dp, q⟩ := h
  obtain ⟨as, r1⟩ := Dp.reads I d x v hd rx
  obtain ⟨bs, r2⟩ := Dp.reads I e y u he ry
  exact PySem.W.lt_data r1 r2 al nn (room64 hu dp) ⟨.bl _, H, I, rfl, q⟩
theorem op_gtD (hu : X.A.units + 64 < cLine) : OpR X (compareOp .Gt) (rCmpD X.K fun d e => PySem.W.dataLt e d) := by
  intro pins s σ H x y v u Q I rx ry h
  obtain ⟨d, e, hd, he, al, nn, dp, q⟩ := h
  obtain ⟨as, r1⟩ := Dp.reads I d x v hd rx
  obtain ⟨bs, r2⟩ := Dp.reads I e y u he ry
  exact PySem.W.gt_data r1 r2 al nn (room64 hu dp) ⟨.bl _, H, I, rfl, q⟩
theorem op_leD (hu : X.A.units + 64 < cLine) : OpR X (compareOp .LtE) (rCmpD X.K fun d e => !PySem.W.dataLt e d) := by
  intro pins s σ H x y v u Q I rx ry h
  obtain ⟨d, e, hd, he, al, nn, dp, q⟩ := h
  obtain ⟨as, r1⟩ := Dp.reads I d x v hd rx
  obtain ⟨bs, r2⟩ := Dp.reads I e y u he ry
  exact PySem.W.le_data r1 r2 al nn (room64 hu dp) ⟨.bl _, H, I, rfl, q⟩
theorem op_geD (hu : X.A.units + 64 < cLine) : OpR X (compareOp .GtE) (rCmpD X.K fun d e => !PySem.W.dataLt d e) := by
  intro pins s σ H x y v u Q I rx ry h
  obtain ⟨d, e, hd, he, al, nn, dp, q⟩ := h
  obtain ⟨as, r1⟩ := Dp.reads I d x v hd rx
  obtain ⟨bs, r2⟩ := Dp.reads I e y u he ry
  exact PySem.W.ge_data r1 r2 al nn (room64 hu dp) ⟨.bl _, H, I, rfl, q⟩
end
def isTup : D → Bool | .nd .tup _ => true | _ => false
def gCmpT (f : PyData → PyData → Bool) : D → D → Option D := fun x y => if isTup x = true ∧ (x.plain && y.plain) = true ∧ PySem.W.alike x.py y.py = true ∧ min x.py.depth y.py.depth ≤ 64 then some (.bl (f x.py y.py)) else none
theorem dop_cmpT (K : PySem.W.Frag) {f : PyData → PyData → Bool} : DOp K (rCmpD K f) (gCmpT f) := by
  intro H Z x y dx dy dz rx ry zl e Q q
  unfold gCmpT at e
  split at e
  · rename_i h
    cases e
    have p := Bool.and_eq_true_iff.mp h.2.1
    refine ⟨_, _, rx.dpv p.1, ry.dpv p.2, h.2.2.1, ?_, h.2.2.2, q _ H Z .refl (.bl _)⟩
    cases dx with
    | nd t xs => cases t <;> first | (intro z; cases z) | cases h.1
    | _ => cases h.1
  · cases e

/-! ### isinstance -/
def tyN : D → String
  | .non => "NoneType"
  | .bl _ => "bool"
  | .int _ => "int"
  | .str _ => "str"
  | .nd .tup _ => "tuple"
  | .nd .lst _ => "list"
  | .nd .scr _ => "list"
  | .nd .dic _ => "dict"
  | .nd (.ins _ _) _ => "object"
  | .nd (.exc _ _ _) _ => "object"
def isiD (T : String) (x : D) : Option D := match x with
  | .nd (.ins _ _) _ => none
  | .nd (.exc _ _ _) _ => none
  | .nd .dic _ => none
  | x => (kitB (tyN x) T).map .bl
theorem RpV.ty {K : PySem.W.Frag} {H : Hp} {Z : Zs} {x y : D} {T : String} {v : V} (h : RpV K H Z x v) (e : isiD T x = some y) : TyX K H v (.type (tyN x)) ∧ (kitB (tyN x) T).map .bl = some y := by
  have tup : ∀ {a : Addr} {vs : List V}, SqT K H a vs → TyX K H (.ref a) (.type "tuple") := fun {a vs} h => by
    rcases h with (h | ⟨o, h⟩) | ⟨o, its, n, h, c, _⟩
    · exact .base (.tup h)
    · exact .fTuple h
    · exact .kTuple h c
  have lst : ∀ {a : Addr} {vs : List V}, SqL K H a vs → TyX K H (.ref a) (.type "list") := fun {a vs} h => by
    rcases h with (h | ⟨o, h⟩) | ⟨o, its, n, h, c, _⟩
    · exact .base (.lst h)
    · exact .base (.frz h)
    · exact .kList h c
  rcases h with h | ⟨a, vs, xs, rfl, rfl, h1, r⟩
  · cases h with
    | non => exact ⟨.base .non, e⟩
    | bl b => exact ⟨.base (.bl b), e⟩
    | int i => exact ⟨.base (.int i), e⟩
    | str z => exact ⟨.base (.str z), e⟩
    | tup h r => exact ⟨tup h, e⟩
    | lst h z r => exact ⟨.base (.lst h), e⟩
    | scr h r => exact ⟨lst h.sq, e⟩
    | exc0 _ _ => cases e
    | exc1 _ _ _ _ _ _ _ => cases e
  · exact ⟨.base (.lst h1), e⟩
def mIsi (T : String) (me : M LV) : M D := mb me fun p => fun c => match p c with
  | none => .stk
  | some x => ml (isiD T x) c
theorem ed_isi {X : Cx} {W : WX} {e Te : Expr} {me : M LV} {T : String} {p pos : Pos} (hg : Gl X "isinstance") (hm : X.mg "isinstance" = none) (hT : PE X Te (tC (.ty T))) (he : EL X W e me)
    (hs : starEach [e, Te] X.env = (false, eval e X.env) :: starEach [Te] X.env := by rfl) (hs2 : starEach [Te] X.env = (false, eval Te X.env) :: starEach [] X.env := by rfl) (hpl : (backTo pos (starEach [Te] X.env)).any (·.1) = false := by rfl) :
    ED X W (.Call (.Name "isinstance" p) [e, Te] [] pos) (mIsi T me) := by
  refine ⟨peImp (pe_callB call_isi hg hm (by decide +kernel) (pa_cons he.pe (pa_cons hT pa_nil hs2) hs) (by decide) (by decide) hs hpl) fun σ H Q q => ?_⟩
  obtain ⟨ln, c, Z, Fs, S, q⟩ := q
  refine ⟨ln, c, Z, Fs, S, q.bind.mono ?_⟩
  rintro p c1 H1 Z1 F1 ⟨S1, T1, h1⟩ v rv
  unfold Run at h1
  cases ep : p c1 with
  | none => simp only [ep] at h1
  | some x =>
    simp only [ep] at h1
    obtain ⟨z, ez, h4⟩ := Run.lift (K := X.K) (W := W) (o := isiD T x) (c := c1) h1
    obtain ⟨ty, eb⟩ := (rv c1 H1 Z1 F1 x S1 .refl ep).ty ez
    obtain ⟨b, eb2, rfl⟩ := Option.map_eq_some_iff.mp eb
    exact ⟨v, .ty T, _, _, b, rfl, .ty T, ty, kit_ty eb2, h4 H1 Z1 F1 S1 .refl _ (.bl b)⟩
end Sw
set_option maxRecDepth 100000
set_option maxHeartbeats 4000000
namespace Sw
open PySem PySem.Spec L2

/-! ### a loop over a list of one's own: it is lent to the loop -/
def unl (i : Nat) (c : Ctx) : Ctx := match c.getD i .no with
  | .l y => c.set i (.o y)
  | _ => c
def unlR {α : Type} (i : Nat) : Rs α → Rs α
  | .stk => .stk
  | .ok a c => .ok a (unl i c)
  | .er e c => .er e (unl i c)
def owLoop (i : Nat) (g : D → M Out) (body : M Out) : Nat → Nat → M Out
  | 0, _ => fun _ => .stk
  | n + 1, k => fun c => match c.getD i .no with
    | .l (.lst xs) => match xs[k]? with
      | none => .ok .nx c
      | some x => mb (mq (g x)) (fun o => match o with
        | .nx => mb body fun o => match o with
          | .nx => owLoop i g body n (k + 1)
          | .ct => owLoop i g body n (k + 1)
          | .bk => mp .nx
          | .rt r => mp (.rt r)
        | _ => fun _ => .stk) c
    | _ => .stk
def mForOwn (i : Nat) (g : D → M Out) (body : M Out) : M Out := fun c => match c.getD i .no with
  | .o (.lst xs) => unlR i (owLoop i g body (xs.length + 1) 0 (c.set i (.l (.lst xs))))
  | .l (.lst xs) => owLoop i g body (xs.length + 1) 0 c
  | _ => .stk
def upL (ln : Nat → Addr) (i : Nat) (a : Addr) : Nat → Addr := fun j => if j = i then a else ln j
section
variable {K : PySem.W.Frag} {W : WX} {σ : L2.St} {ln : Nat → Addr} {c : Ctx} {H : Hp} {Z : Zs} {Fs : Nat → List Addr} {i : Nat} {a : Addr} {E : Ends}
theorem Sl.lock {xs : List D} (S : Sl K ln H Z c σ Fs) (ec : c.getD i .no = .o (.lst xs)) (ea : σ[i]? = some (some (.ref a))) : Sl K (upL ln i a) H Z (c.set i (.l (.lst xs))) σ Fs := by
  have hi : i < c.length := by
    rw [S.len]
    exact (List.getElem?_eq_some_iff.mp ea).1
  refine ⟨by rw [List.length_set]; exact S.len, fun j => ?_, S.dis, S.nz, S.zl⟩
  have rep := S.rep j
  rw [getD_set hi]
  by_cases h : j = i
  · subst h
    rw [if_pos rfl]
    rw [ec] at rep
    obtain ⟨v, ev, ro⟩ := rep
    rw [ea] at ev
    cases ev
    have el : upL ln j a j = a := if_pos rfl
    rw [el]
    exact ⟨ea, ro⟩
  · rw [if_neg h]
    have el : upL ln i a j = ln j := if_neg h
    rw [el]
    exact rep
theorem Sl.unlock (S : Sl K (upL ln i a) H Z c σ Fs) : Sl K ln H Z (unl i c) σ Fs := by
  have other : ∀ j, j ≠ i → upL ln i a j = ln j := fun j h => if_neg h
  unfold unl
  cases ec : c.getD i .no with
  | l y =>
    have rep := S.rep i
    rw [ec] at rep
    obtain ⟨ev, ro⟩ := rep
    have hi : i < c.length := by
      rw [S.len]
      exact (List.getElem?_eq_some_iff.mp ev).1
    refine ⟨by rw [List.length_set]; exact S.len, fun j => ?_, S.dis, S.nz, S.zl⟩
    rw [getD_set hi]
    by_cases h : j = i
    · subst h
      rw [if_pos rfl]
      exact ⟨_, ev, ro⟩
    · rw [if_neg h, ← other j h]
      exact S.rep j
  | no =>
    refine ⟨S.len, fun j => ?_, S.dis, S.nz, S.zl⟩
    have rep := S.rep j
    by_cases h : j = i
    · subst h; rw [ec] at rep ⊢; exact rep
    · rw [other j h] at rep; exact rep
  | d x =>
    refine ⟨S.len, fun j => ?_, S.dis, S.nz, S.zl⟩
    have rep := S.rep j
    by_cases h : j = i
    · subst h; rw [ec] at rep ⊢; exact rep
    · rw [other j h] at rep; exact rep
  | o x =>
    refine ⟨S.len, fun j => ?_, S.dis, S.nz, S.zl⟩
    have rep := S.rep j
    by_cases h : j = i
    · subst h; rw [ec] at rep ⊢; exact rep
    · rw [other j h] at rep; exact rep
theorem RunS.unl {m : M Out} {c1 : Ctx} (h : RunS K W (fun _ => unlR i (m c1)) σ ln c H Z Fs E) : RunS K W m σ (upL ln i a) c1 H Z Fs E := by
  unfold RunS at *
  cases e : m c1 with
  | stk => rw [e] at h; exact h
  | er x c' => rw [e] at h; exact fun cls d σ' H' Z' F' S T r => h cls d σ' H' Z' F' S.unlock T r
  | ok o c' => rw [e] at h; exact fun σ' H' Z' F' S T => h σ' H' Z' F' S.unlock T
end
theorem own_loop {X : Cx} {W : WX} {tg : Expr} {is : List Nat} {body : List Stmt} {g : D → M Out} {mbd : M Out} (hg : EG X tg is g) (hb : SSs X W body mbd) {σ : L2.St} {ln : Nat → Addr} {c : Ctx} {H : Hp} {Z : Zs} {Fs : Nat → List Addr} {i n : Nat} {a : Addr} {E : Ends} (ela : ln i = a)
    (S : Sl X.K ln H Z c σ Fs) (h : RunS X.K W (owLoop i g mbd n 0) σ ln c H Z Fs E) :
    ∃ Wv : Nat → Nat → L2.St → Hp → Prop, (∃ m, Wv 0 m σ H) ∧ ∀ k m σ' H', Wv k m σ' H' → ((Itl X.K a).stop k H' ∧ E.nx σ' H') ∨ ((Itl X.K a).go k H' ∧ ∃ Nx : L2.St → Hp → Prop, (∀ σ2 H2, Nx σ2 H2 → ∃ m', m' < m ∧ Wv (k + 1) m' σ2 H2) ∧
      ∀ v H'', (Itl X.K a).yld k H' v H'' → (fun v σ H Q => ∃ ln c Z Fs x, Sl X.K ln H Z c σ Fs ∧ Rp X.K H Z x v ∧ TgEnd X.K is (g x c) σ ln H Z Fs Q : TG) v σ' H'' fun σ2 H2 => tSt X.K W mbd { E with nx := Nx, ct := Nx, bk := E.nx } σ2 H2) := by
  refine ⟨fun k m σ' H' => ∃ c' Z' Fs', Sl X.K ln H' Z' c' σ' Fs' ∧ RunS X.K W (owLoop i g mbd m k) σ' ln c' H' Z' Fs' E, ⟨n, c, Z, Fs, S, h⟩, ?_⟩
  rintro k m σ' H' ⟨c', Z', Fs', S', h'⟩
  cases m with
  | zero => exact h'.elim
  | succ m =>
    unfold owLoop at h'
    unfold RunS at h'
    cases ec : c'.getD i .no with
    | l y =>
      cases y with
      | lst xs =>
        simp only [ec] at h'
        have rep := S'.rep i
        rw [ec, ela] at rep
        obtain ⟨ev, b, vs, eb, hF, hH, rx⟩ := rep
        cases eb
        have sq : SqL X.K H' a vs := .inl (.inl hH)
        cases ex : xs[k]? with
        | none =>
          simp only [ex] at h'
          refine .inl ⟨⟨vs, sq, by rw [← rx.length]; exact List.getElem?_eq_none_iff.mp ex⟩, h' σ' H' Z' Fs' S' .refl⟩
        | some x =>
          simp only [ex] at h'
          obtain ⟨v0, ev0, rv0⟩ := rx.get' ex
          refine .inr ⟨⟨vs, v0, sq, ev0⟩, fun σ2 H2 => ∃ c' Z' Fs', Sl X.K ln H2 Z' c' σ2 Fs' ∧ RunS X.K W (owLoop i g mbd m (k + 1)) σ2 ln c' H2 Z' Fs' E, fun σ2 H2 hN => ⟨m, Nat.lt_succ_self _, hN⟩, fun v H'' y => ?_⟩
          obtain ⟨rfl, fy⟩ := y
          have e3 : some v = some v0 := (fy vs sq).symm.trans ev0
          cases e3
          have h2 : RunS X.K W (mb (mq (g x)) fun o => match o with
            | .nx => mb mbd fun o => match o with
              | .nx => owLoop i g mbd m (k + 1)
              | .ct => owLoop i g mbd m (k + 1)
              | .bk => mp .nx
              | .rt r => mp (.rt r)
            | _ => fun _ => .stk) σ' ln c' H'' Z' Fs' E := h'
          refine ⟨ln, c', Z', Fs', x, S', rv0, tg_of h2 fun σ2 c2 H2 Z2 F2 S2 T2 h3 => ?_⟩
          exact ⟨ln, c2, Z2, F2, S2, turn_run (m2 := mp .nx) h3 fun σ3 c3 H3 Z3 F3 S3 T3 h4 => ⟨c3, Z3, F3, S3, h4⟩⟩
    | no => simp only [ec] at h'
    | d x => simp only [ec] at h'
    | o x => simp only [ec] at h'
theorem ss_forOwn {X : Cx} {W : WX} {tg : Expr} {is : List Nat} {body : List Stmt} {g : D → M Out} {mbd : M Out} {x : Str} {i : Nat} {pos npos : Pos} (hp : PassesOwn (model X.prog X.w) X.A X.env X.xe) (hc : X.calm = true) (h : PE X (.Name x npos) (tVar i)) (hg : EG X tg is g) (hb : SSs X W body mbd)
    (hs : ∀ y, foldedSetIterable (.Name x npos) X.env y = pure y := by intro _; rfl) : SS X W (.For tg (.Name x npos) body [] pos) (mForOwn i g mbd) := by
  refine ⟨psImp (ps_for hp hc (pi_list h) hg.pg hb.ps hs) fun E σ H q => ?_⟩
  obtain ⟨ln, c, Z, Fs, S, q⟩ := q
  have rep := S.rep i
  unfold RunS mForOwn at q
  cases ec : c.getD i .no with
  | o y =>
    cases y with
    | lst xs =>
      rw [ec] at q rep
      obtain ⟨v, ev, a, vs, rfl, hF, hH, rx⟩ := rep
      have q : RunS X.K W (fun _ => unlR i (owLoop i g mbd (xs.length + 1) 0 (c.set i (.l (.lst xs))))) σ ln c H Z Fs E := q
      exact ⟨.ref a, ev, a, rfl, ⟨vs, .inl (.inl hH)⟩, own_loop (ln := upL ln i a) hg hb (if_pos rfl) (S.lock ec ev) q.unl⟩
  | l y =>
    cases y with
    | lst xs =>
      rw [ec] at q rep
      obtain ⟨ev, a, vs, ea, hF, hH, rx⟩ := rep
      have q : RunS X.K W (owLoop i g mbd (xs.length + 1) 0) σ ln c H Z Fs E := q
      refine ⟨.ref (ln i), ev, ln i, rfl, ⟨vs, .inl (.inl ?_)⟩, own_loop hg hb rfl S q⟩
      cases ea
      exact hH
  | no => rw [ec] at q; exact q.elim
  | d x => rw [ec] at q; exact q.elim
end Sw
set_option maxRecDepth 100000
set_option maxHeartbeats 4000000
namespace Sw
open PySem PySem.Spec L2

/-! ### defs by their names -/
/-- how a call's arguments bind -/
def BindA (fd : FuncData) (ps : List Str) : Prop := ∀ us : List Value, us.length = ps.length → bindArgs fd ⟨us, []⟩ = pure (ps.zip us)
theorem BindA.binds {K : PySem.W.Frag} {fd : FuncData} {ps : List Str} (h : BindA fd ps) : Binds K fd ps [] := .all h
def IsFn (K : PySem.W.Frag) (f : Addr) (fd : FuncData) : Prop := ∃ (oc : Value) (od : Option Addr) (osl : Array (Option Value)), K.lookup f = some ⟨oc, od, .func fd, osl⟩
theorem IsFn.uniq {K : PySem.W.Frag} {f : Addr} {fd fd2 : FuncData} (h : IsFn K f fd) (h2 : IsFn K f fd2) : fd = fd2 := by
  obtain ⟨a, b, c, e⟩ := h
  obtain ⟨a2, b2, c2, e2⟩ := h2
  rw [e] at e2
  cases e2
  rfl
structure FunC (K : PySem.W.Frag) (mg : Str → Option Value) (x : Str) (st : Stmt) (ps : List Str) : Prop where
  ex : ∃ f fd, Fun K x x st f fd ∧ mg x = some (.ref f) ∧ BindA fd ps
structure Cal (P : Program) (w : World) (K : PySem.W.Frag) (mg : Str → Option Value) (base : Heap) (k : Nat) (x : Str) (ps : List Str) (F : Fd) : Prop where
  ex : ∃ f fd, FnD P w K mg base k f fd ps F ∧ mg x = some (.ref f) ∧ PySem.W.keepIn K (.ref f) = true ∧ BindA fd ps ∧ IsFn K f fd
section
variable {P : Program} {w : World} {K : PySem.W.Frag} {mg : Str → Option Value} {base : Heap} {x : Str} {st : Stmt} {N ps : List Str} {k : Nat} {m : M Out} {F F' : Fd}
theorem cal_ok (F : FunC K mg x st ps) (S : FnScope N ps (defScope st))
    (hb : ∀ (f : Addr) (cdv : Value) (A : Around) (outer : List Env) (s : Shared) (H : Hp) (E : XK), Room k (A.deeper (PyProof.Rows.envOfC x (defScope st) s.heap.objs.size f cdv)) →
      SSs (cxOf (L2.CX P w) P w K mg base N x (defScope st) f cdv A outer s H E) (fun cls d _ H => E cls d H) (defBody st) m) : Cal P w K mg base (k + 1) x ps (fnM N.length m) := by
  obtain ⟨f, fd, Fu, g, b⟩ := F.ex
  obtain ⟨oc, od, kV, doc, pm, an, cdv, ct, osl, _, lk, _⟩ := Fu.ex
  exact ⟨f, fd, fn_ok Fu S (fun cdv A outer s H E hr => hb f cdv A outer s H E hr), g, Fu.kp, b, oc, od, osl, lk⟩
theorem Cal.le (C : Cal P w K mg base k x ps F) (h : ∀ args, args.length = ps.length → Le (F' args) (F args)) : Cal P w K mg base k x ps F' := by
  obtain ⟨f, fd, G, g, kp, b, l⟩ := C.ex
  exact ⟨f, fd, FnOk.le G h, g, kp, b, l⟩
end
section
variable {X : Cx} {W : WX} {k j : Nat} {ps : List Str} {F : Fd} {x : Str} {p pos : Pos} {e : Expr} {es : List Expr} {ma : M (List Ar)}
theorem fnOk_mono {P : Program} {w : World} {K : PySem.W.Frag} {mg : Str → Option Value} {base : Heap} {CX : CXT} {f : Addr} {fd : FuncData} {sp : Sp} (G : FnOk P w K mg base CX k f fd ps sp) (hr : Room j X.A) (h : k ≤ j) : Room k X.A := hr.mono h
theorem ed_callC (C : Cal X.prog X.w X.K X.mg X.base k x ps F) (hr : Room j X.A) (hkj : k ≤ j) (hg : Gl X x) (tk : Takes X W) (ha : EAA X W (e :: es) ma)
    (hps : ∀ c xs c', ma c = .ok xs c' → xs.length = ps.length) (hdb : (x == ("__debug__" : Str)) = false := by decide) (he : starEach (e :: es) X.env = (false, eval e X.env) :: starEach es X.env := by rfl) (hpl : (backTo pos (starEach es X.env)).any (·.1) = false := by rfl) :
    ED X W (.Call (.Name x p) (e :: es) [] pos) (mRvD (mCallA F ma)) := by
  obtain ⟨f, fd, G, g, kp, b, _⟩ := C.ex
  exact ed_callA G (hr.mono hkj) hg g kp b.binds tk ha hps hdb he hpl
theorem eo_callC (C : Cal X.prog X.w X.K X.mg X.base k x ps F) (hr : Room j X.A) (hkj : k ≤ j) (hg : Gl X x) (tk : Takes X W) (ha : EAA X W (e :: es) ma)
    (hps : ∀ c xs c', ma c = .ok xs c' → xs.length = ps.length) (hdb : (x == ("__debug__" : Str)) = false := by decide) (he : starEach (e :: es) X.env = (false, eval e X.env) :: starEach es X.env := by rfl) (hpl : (backTo pos (starEach es X.env)).any (·.1) = false := by rfl) :
    EO X W (.Call (.Name x p) (e :: es) [] pos) (mRvO (mCallA F ma)) := by
  obtain ⟨f, fd, G, g, kp, b, _⟩ := C.ex
  exact eo_callA G (hr.mono hkj) hg g kp b.binds tk ha hps hdb he hpl
end

/-- what is not covered -/
theorem ss_stk {X : Cx} {W : WX} {st : Stmt} : SS X W st (fun _ => .stk) := ⟨⟨fun pins s σ H E I q => by
  obtain ⟨ln, c, Z, Fs, S, q⟩ := q
  exact q.elim⟩⟩
theorem sss_stk {X : Cx} {W : WX} {st : List Stmt} : SSs X W st (fun _ => .stk) := ⟨⟨fun pins s σ H E I q => by
  obtain ⟨ln, c, Z, Fs, S, q⟩ := q
  exact q.elim⟩⟩
theorem cal_stk {P : Program} {w : World} {K : PySem.W.Frag} {mg : Str → Option Value} {base : Heap} {x : Str} {st : Stmt} {N ps : List Str} {k : Nat} (F : FunC K mg x st ps) (S : FnScope N ps (defScope st)) : Cal P w K mg base (k + 1) x ps (fun _ => .stk) :=
  cal_ok (m := fun _ => .stk) F S fun _ _ _ _ _ _ _ _ => sss_stk

/-! ### what is walked, a list or a tuple -/
theorem PI.or {X : Cx} {tg e : Expr} {t1 t2 : TI} (h1 : PI X tg e t1) (h2 : PI X tg e t2) : PI X tg e (fun σ H R => t1 σ H R ∨ t2 σ H R) :=
  ⟨fun pins s σ H R I q => q.elim (h1.run pins s σ H R I) (h2.run pins s σ H R I)⟩
theorem PG.or {X : Cx} {e : Expr} {t1 t2 : TG} (h1 : PG X e t1) (h2 : PG X e t2) : PG X e (fun v σ H Q => t1 v σ H Q ∨ t2 v σ H Q) :=
  ⟨fun pins s σ H v u Q I r q => q.elim (h1.run pins s σ H v u Q I r) (h2.run pins s σ H v u Q I r)⟩
def asS : D → Option (List D)
  | .nd .lst xs => some xs
  | .nd .scr xs => some xs
  | .nd .tup xs => some xs
  | _ => none
def itS (me : M D) : M (List D) := mb me fun x => ml (asS x)
def gS (n : Nat) (gs : List D → M Out) : D → M Out
  | .nd .tup xs => if xs.length = n then gs xs else fun _ => .stk
  | .nd .lst xs => if xs.length = n then gs xs else fun _ => .stk
  | _ => fun _ => .stk
section
variable {X : Cx} {W : WX} {tg e : Expr} {me : M D} {es : List Expr} {is : List Nat} {n : Nat} {gs : List D → M Out} {pos : Pos}
theorem ei_seq (he : ED X W e me) : EI X W tg e (itS me) := by
  refine ⟨piImp (PI.or (ei_list (tg := tg) he).pi (ei_tup (tg := tg) he).pi) fun σ H R q => ?_⟩
  obtain ⟨ln, c, Z, Fs, S, q⟩ := q
  unfold Run itS mb ml at q
  cases ec : me c with
  | stk => rw [ec] at q; exact q.elim
  | er y c' =>
    rw [ec] at q
    refine .inl ⟨ln, c, Z, Fs, S, ?_⟩
    unfold Run itL mb ml
    rw [ec]
    exact q
  | ok y c' =>
    rw [ec] at q
    have tupc : ∀ xs, y = .nd .tup xs → Run X.K W (itT me) σ ln c H Z Fs fun xs c' H' Z' Fs' => ∀ J, Yl X.K J H' Z' xs → R J H' := fun xs ey => by
      subst ey
      unfold Run itT mb ml
      rw [ec]
      exact q
    have lstc : asL y = asS y → Run X.K W (itL me) σ ln c H Z Fs fun xs c' H' Z' Fs' => ∀ J, Yl X.K J H' Z' xs → R J H' := fun ey => by
      unfold Run itL mb ml
      rw [ec]
      simp only
      rw [ey]
      exact q
    cases y with
    | nd t xs =>
      cases t with
      | tup => exact .inr ⟨ln, c, Z, Fs, S, tupc xs rfl⟩
      | _ => exact .inl ⟨ln, c, Z, Fs, S, lstc rfl⟩
    | _ => exact .inl ⟨ln, c, Z, Fs, S, lstc rfl⟩
theorem eg_seq {k : Nat} (hc : X.calm = true) (h : EGs X es is gs) (hn : (assignEach es X.env).length = n := by rfl) (hst : (assignEach es X.env).findIdx? (·.1) = none := by rfl) : EG X (.Tuple es k pos) is (gS n gs) := by
  refine ⟨pgImp (PG.or (eg_tup (k := k) hc h hn hst).pg (eg_lst (k := k) hc h hn hst).pg) fun v σ H Q q => ?_⟩
  obtain ⟨ln, c, Z, Fs, x, S, r, q⟩ := q
  cases x with
  | nd t xs =>
    cases t with
    | tup => exact .inl ⟨ln, c, Z, Fs, _, S, r, q⟩
    | lst => exact .inr ⟨ln, c, Z, Fs, _, S, r, q⟩
    | _ => exact .inr ⟨ln, c, Z, Fs, _, S, r, q⟩
  | _ => exact .inr ⟨ln, c, Z, Fs, _, S, r, q⟩
theorem gS_nx (h2 : ∀ xs c o c', gs xs c = .ok o c' → o = .nx) : ∀ x c o c', gS n gs x c = .ok o c' → o = .nx := by
  intro x c o c' h
  unfold gS at h
  split at h
  · split at h
    · exact h2 _ _ _ _ h
    · cases h
  · split at h
    · exact h2 _ _ _ _ h
    · cases h
  · cases h
end

/-! ### y = [..], to last -/
section
variable {X : Cx} {W : WX} {elt tg iter : Expr} {ifs : List Expr} {scope : Scope} {own : List (Str × Nat)} {pos : Pos} {is : List Nat} {mi : M (List D)} {g : D → M Out} {tt : M Bool} {me : M D}
theorem setFz_run {K : PySem.W.Frag} {W : WX} {mo : M O} {i : Nat} {σ : L2.St} {ln : Nat → Addr} {c : Ctx} {H : Hp} {Z : Zs} {Fs : Nat → List Addr} {E : Ends} (q : RunS K W (mSet i (mFz mo)) σ ln c H Z Fs E) :
    Run K W mo σ ln c H Z Fs fun x c' H' Z' Fs' => ∀ v F, RpO K H' Z' x v F → (∀ a ∈ F, Ow Fs a ∨ H a = none) → (∀ a ∈ F, ∀ i, a ∉ Fs' i) → (∀ a ∈ F, ¬ Z' a) → E.nx (σ.set i (some v)) H' := by
  refine Run.fz (Q := fun v H' => E.nx (σ.set i (some v)) H') (q.bindE.mono ?_)
  rintro x c1 H1 Z1 F1 ⟨S1, T1, h1⟩ v rv
  exact putS_run (F := []) h1 S1 ⟨v, rfl, rv, rfl⟩ (fun a h => by simp at h) (fun a h => by simp at h) (upF_less fun a h => by simp at h)
theorem ss_setLcD {i : Nat} {y : Str} {py spos : Pos} (hc : X.calm = true) (hN : X.N.Nodup) (hy : X.N[i]? = some y) (hyl : X.env.scope.names.lookup y = some .local)
    (hsw : swapsWith (.ListComp elt [⟨tg, iter, ifs, 0⟩] scope pos) (some (.Name y py)) spos.line X.env = pure true) (hi : EI X W tg iter mi) (ok : BlkOk X.N X.env.scope scope own)
    (hg : ∀ (s : Shared) (H : Hp) (C : Addr) (cl : List (Str × Addr)) (fp : List Addr), EG (X.blk s H scope (compEnvC scope cl C X.env) fp) tg is g) (ht : ∀ (s : Shared) (H : Hp) (C : Addr) (cl : List (Str × Addr)) (fp : List Addr), EPs (X.blk s H scope (compEnvC scope cl C X.env) fp) WF ifs tt)
    (he : ∀ (s : Shared) (H : Hp) (C : Addr) (cl : List (Str × Addr)) (fp : List Addr), ED (X.blk s H scope (compEnvC scope cl C X.env) fp) WF elt me) (his : ∀ j ∈ is, j ∈ own.map (·.2)) (hs : ∀ x, foldedSetIterable iter X.env x = pure x := by intro _; rfl) :
    SS X W (.Assign [.Name y py] (.ListComp elt [⟨tg, iter, ifs, 0⟩] scope pos) spos) (mSet i (mFz (mLc (own.map (·.2)) mi g tt me))) := by
  refine ⟨psImp (L2.ps_setLc (te := tD X.K WF me) (tt := tT X.K WF tt) (g := fun v σ H Q => ∃ ln c Z Fs x, Sl X.K ln H Z c σ Fs ∧ Rp X.K H Z x v ∧ TgEnd X.K is (g x c) σ ln H Z Fs Q) hc hN hy hyl hsw hi.pi ok (fun s H C cl fp => (hg s H C cl fp).pg) (fun s H C cl fp => (ht s H C cl fp).pt) (fun s H C cl fp => (he s H C cl fp).pe) hs) fun E σ H q => ?_⟩
  obtain ⟨ln, c, Z, Fs, S, q⟩ := q
  refine lc_core' his (W := W) ⟨ln, c, Z, Fs, S, ?_⟩
  exact setFz_run q
end

/-! ### -x, chains -/
section
variable {X : Cx} {W : WX} {a b c : Expr} {ma mb' mc : M D} {pos : Pos}
def vNeg (ma : M D) : M D := mb ma fun x => match x with
  | .int i => mp (.int (-i))
  | _ => fun _ => .stk
theorem ed_neg (ha : ED X W a ma) : ED X W (.UnaryOp .USub a pos) (vNeg ma) := by
  refine ⟨peImp (pe_un un_neg ha.pe) fun σ H Q q => ?_⟩
  obtain ⟨ln, c, Z, Fs, S, q⟩ := q
  refine ⟨ln, c, Z, Fs, S, q.bind.mono ?_⟩
  rintro x c1 H1 Z1 F1 ⟨S1, T1, h1⟩ v rv
  cases rv with
  | int i => exact ⟨i, rfl, h1.pure S1 _ (.int _)⟩
  | _ => exact h1.stuck.elim
end
theorem hu64 {A : Around} {k : Nat} (hr : Room k A) : A.units + 64 < cLine := by have := hr.un; omega
theorem hu65 {A : Around} {k : Nat} (hr : Room k A) : A.units + 65 < cLine := by have := hr.un; omega

/-! ### order, of ints and of tuples -/
def gOr (g g' : D → D → Option D) : D → D → Option D := fun x y => match g x y with
  | some z => some z
  | none => g' x y
theorem DOp.or {K : PySem.W.Frag} {r r' : R2} {g g' : D → D → Option D} (h : DOp K r g) (h' : DOp K r' g') : DOp K (fun x y H Q => r x y H Q ∨ r' x y H Q) (gOr g g') := by
  intro H Z x y dx dy dz rx ry zl e Q q
  unfold gOr at e
  cases e1 : g dx dy with
  | some z => rw [e1] at e; cases e; exact .inl (h H Z x y dx dy _ rx ry zl e1 Q q)
  | none => rw [e1] at e; exact .inr (h' H Z x y dx dy dz rx ry zl e Q q)
abbrev hLt := gOr gLt (gCmpT PySem.W.dataLt)
abbrev hGt := gOr gGt (gCmpT fun d e => PySem.W.dataLt e d)
abbrev hLe := gOr gLe (gCmpT fun d e => !PySem.W.dataLt e d)
abbrev hGe := gOr gGe (gCmpT fun d e => !PySem.W.dataLt d e)
abbrev qLt (K : PySem.W.Frag) : R2 := fun x y H Q => rI0 (fun i j => .bl (decide (i < j))) x y H Q ∨ rCmpD K PySem.W.dataLt x y H Q
abbrev qGt (K : PySem.W.Frag) : R2 := fun x y H Q => rI0 (fun i j => .bl (decide (j < i))) x y H Q ∨ rCmpD K (fun d e => PySem.W.dataLt e d) x y H Q
abbrev qLe (K : PySem.W.Frag) : R2 := fun x y H Q => rI0 (fun i j => .bl (decide (i ≤ j))) x y H Q ∨ rCmpD K (fun d e => !PySem.W.dataLt e d) x y H Q
abbrev qGe (K : PySem.W.Frag) : R2 := fun x y H Q => rI0 (fun i j => .bl (decide (j ≤ i))) x y H Q ∨ rCmpD K (fun d e => !PySem.W.dataLt d e) x y H Q
theorem dop_hLt (K : PySem.W.Frag) : DOp K (qLt K) hLt := (dop_lt K).or (dop_cmpT K)
theorem dop_hGt (K : PySem.W.Frag) : DOp K (qGt K) hGt := (dop_gt K).or (dop_cmpT K)
theorem dop_hLe (K : PySem.W.Frag) : DOp K (qLe K) hLe := (dop_le K).or (dop_cmpT K)
theorem dop_hGe (K : PySem.W.Frag) : DOp K (qGe K) hGe := (dop_ge K).or (dop_cmpT K)
section
variable {X : Cx}
theorem op_hLt (hu : X.A.units + 64 < cLine) : OpR X (compareOp .Lt) (qLt X.K) := op_lt.or (op_ltD hu)
theorem op_hGt (hu : X.A.units + 64 < cLine) : OpR X (compareOp .Gt) (qGt X.K) := op_gt.or (op_gtD hu)
theorem op_hLe (hu : X.A.units + 64 < cLine) : OpR X (compareOp .LtE) (qLe X.K) := op_le.or (op_leD hu)
theorem op_hGe (hu : X.A.units + 64 < cLine) : OpR X (compareOp .GtE) (qGe X.K) := op_ge.or (op_geD hu)
end
/-- x is None -/
def isNon : D → Bool
  | .non => true
  | _ => false
def isNonV : V → Bool
  | .non => true
  | _ => false
def gIsN (x y : D) : Option D := if isNon y = true then some (.bl (isNon x)) else none
def gNotN (x y : D) : Option D := if isNon y = true then some (.bl (!isNon x)) else none
theorem isNon_eq {y : D} (h : isNon y = true) : y = .non := by
  cases y <;> first | rfl | cases h
theorem isN_of {K : PySem.W.Frag} {H : Hp} {Z : Zs} {x : D} {v : V} (h : RpV K H Z x v) : decide (v = .non) = isNon x := by
  rcases h with h | ⟨a, vs, xs, rfl, rfl, h1, r⟩
  · cases h with
    | non => rfl
    | _ => exact decide_eq_false (fun z => by cases z)
  · exact decide_eq_false (fun z => by cases z)
theorem dop_isN (K : PySem.W.Frag) : DOp K (fun x y H Q => y = .non ∧ Q (.bl (decide (x = .non))) H) gIsN := by
  intro H Z x y dx dy dz rx ry zl e Q q
  unfold gIsN at e
  split at e
  · rename_i h
    obtain rfl := isNon_eq h
    cases e
    refine ⟨ry.n, ?_⟩
    rw [isN_of rx]
    exact q _ H Z .refl (.bl _)
  · cases e
theorem dop_notN (K : PySem.W.Frag) : DOp K (fun x y H Q => y = .non ∧ Q (.bl (!decide (x = .non))) H) gNotN := by
  intro H Z x y dx dy dz rx ry zl e Q q
  unfold gNotN at e
  split at e
  · rename_i h
    obtain rfl := isNon_eq h
    cases e
    refine ⟨ry.n, ?_⟩
    rw [isN_of rx]
    exact q _ H Z .refl (.bl _)
  · cases e
end Sw
set_option maxRecDepth 100000
set_option maxHeartbeats 4000000
namespace Sw
open PySem PySem.Spec L2

/-! ### mirrors, run -/
section
variable {α β : Type}
def Rs.bnd (r : Rs α) (f : α → M β) : Rs β := match r with
  | .stk => .stk
  | .ok a c => f a c
  | .er e c => .er e c
theorem Rs.bnd_congr {r r' : Rs α} {f : α → M β} (h : r = r') : r.bnd f = r'.bnd f := by rw [h]
@[simp] theorem Rs.bnd_ok {a : α} {c : Ctx} {f : α → M β} : (Rs.ok a c).bnd f = f a c := rfl
@[simp] theorem Rs.bnd_stk {f : α → M β} : (Rs.stk : Rs α).bnd f = .stk := rfl
@[simp] theorem Rs.bnd_er {e : Ex} {c : Ctx} {f : α → M β} : (Rs.er e c : Rs α).bnd f = .er e c := rfl
@[simp] theorem mb_r {m : M α} {f : α → M β} {c : Ctx} : mb m f c = (m c).bnd f := by
  unfold mb Rs.bnd
  cases m c <;> rfl
@[simp] theorem mp_r {a : α} {c : Ctx} : mp a c = .ok a c := rfl
@[simp] theorem ml_some {a : α} {c : Ctx} : ml (some a) c = .ok a c := rfl
@[simp] theorem ml_none {c : Ctx} : ml (none : Option α) c = .stk := rfl
def Rs.qt (r : Rs α) : Rs α := match r with
  | .ok a c => .ok a c
  | _ => .stk
@[simp] theorem Rs.qt_ok {a : α} {c : Ctx} : (Rs.ok a c).qt = .ok a c := rfl
@[simp] theorem mq_r {m : M α} {c : Ctx} : mq m c = (m c).qt := by
  unfold mq Rs.qt
  cases m c <;> rfl
end
def sq (b : M Out) : Out → M Out
  | .nx => b
  | o => mp o
@[simp] theorem sq_nx {b : M Out} {c : Ctx} : sq b .nx c = b c := rfl
@[simp] theorem sq_bk {b : M Out} {c : Ctx} : sq b .bk c = .ok .bk c := rfl
@[simp] theorem sq_ct {b : M Out} {c : Ctx} : sq b .ct c = .ok .ct c := rfl
@[simp] theorem sq_rt {b : M Out} {c : Ctx} {r : Rv} : sq b (.rt r) c = .ok (.rt r) c := rfl
@[simp] theorem mSeq_r {a b : M Out} {c : Ctx} : mSeq a b c = (a c).bnd (sq b) := by
  unfold mSeq
  rw [mb_r]
  exact congrArg (Rs.bnd _) (funext fun o => by cases o <;> rfl)
def vr (c : Ctx) : Sv → Rs D
  | .d x => .ok x c
  | _ => .stk
@[simp] theorem vr_d {c : Ctx} {x : D} : vr c (.d x) = .ok x c := rfl
@[simp] theorem mVar_r {i : Nat} {c : Ctx} : mVar i c = vr c (c.getD i .no) := by
  unfold mVar vr
  cases c.getD i .no <;> rfl
@[simp] theorem putS_r {i : Nat} {s : Sv} {c : Ctx} : putS i s c = if i < c.length then .ok .nx (c.set i s) else .stk := rfl
@[simp] theorem mSet_r {i : Nat} {me : M D} {c : Ctx} : mSet i me c = (me c).bnd fun x => putS i (.d x) := mb_r
@[simp] theorem mSetO_r {i : Nat} {me : M O} {c : Ctx} : mSetO i me c = (me c).bnd fun x => putS i (.o x) := mb_r
@[simp] theorem mRet_r {me : M D} {c : Ctx} : mRet me c = (me c).bnd fun x => mp (.rt (.d x)) := mb_r
@[simp] theorem mRetO_r {me : M O} {c : Ctx} : mRetO me c = (me c).bnd fun x => mp (.rt (.o x)) := mb_r
@[simp] theorem mDrop_r {α : Type} {me : M α} {c : Ctx} : mDrop me c = (me c).bnd fun _ => mp .nx := mb_r
@[simp] theorem mIfS_r {mt : M Bool} {a b : M Out} {c : Ctx} : mIfS mt a b c = (mt c).bnd fun k => if k = true then a else b := mb_r
@[simp] theorem ite_ap {α β : Type} {p : Prop} [Decidable p] {a b : α → β} {c : α} : (if p then a else b) c = if p then a c else b c := by
  split <;> rfl
@[simp] theorem mT_r {m : M D} {c : Ctx} : mT m c = (m c).bnd fun x => ml (toB x) := mb_r
@[simp] theorem toB_bl {b : Bool} : toB (.bl b) = some b := rfl
@[simp] theorem mIf_r {α : Type} {mt : M Bool} {a b : M α} {c : Ctx} : mIf mt a b c = (mt c).bnd fun k => if k = true then a else b := mb_r
@[simp] theorem mAnd_r {a b : M Bool} {c : Ctx} : mAnd a b c = (a c).bnd fun k => if k = true then b else mp false := mb_r
@[simp] theorem mOr_r {a b : M Bool} {c : Ctx} : mOr a b c = (a c).bnd fun k => if k = true then mp true else b := mb_r
@[simp] theorem mNot_r {a : M Bool} {c : Ctx} : mNot a c = (a c).bnd fun k => mp (!k) := mb_r
def vAk (db : M D) : D → M D
  | .bl true => db
  | .bl false => mp (.bl false)
  | _ => fun _ => .stk
@[simp] theorem vAk_t {db : M D} {c : Ctx} : vAk db (.bl true) c = db c := rfl
@[simp] theorem vAk_f {db : M D} {c : Ctx} : vAk db (.bl false) c = .ok (.bl false) c := rfl
theorem vAk_b {db : M D} {c : Ctx} {b : Bool} : vAk db (.bl b) c = if b = true then db c else .ok (.bl false) c := by cases b <;> rfl
@[simp] theorem vAnd_r {a b : M D} {c : Ctx} : vAnd a b c = (a c).bnd (vAk b) := by
  unfold vAnd
  rw [mb_r]
  exact congrArg (Rs.bnd _) (funext fun x => by
    cases x with
    | bl b => cases b <;> rfl
    | _ => rfl)
def vOk (db : M D) : D → M D
  | .bl true => mp (.bl true)
  | .bl false => db
  | _ => fun _ => .stk
@[simp] theorem vOk_t {db : M D} {c : Ctx} : vOk db (.bl true) c = .ok (.bl true) c := rfl
@[simp] theorem vOk_f {db : M D} {c : Ctx} : vOk db (.bl false) c = db c := rfl
theorem vOk_b {db : M D} {c : Ctx} {b : Bool} : vOk db (.bl b) c = if b = true then .ok (.bl true) c else db c := by cases b <;> rfl
@[simp] theorem vOr_r {a b : M D} {c : Ctx} : vOr a b c = (a c).bnd (vOk b) := by
  unfold vOr
  rw [mb_r]
  exact congrArg (Rs.bnd _) (funext fun x => by
    cases x with
    | bl b => cases b <;> rfl
    | _ => rfl)
def vNk : D → M D
  | .bl b => mp (.bl (!b))
  | _ => fun _ => .stk
@[simp] theorem vNk_b {b : Bool} {c : Ctx} : vNk (.bl b) c = .ok (.bl (!b)) c := rfl
@[simp] theorem vNot_r {a : M D} {c : Ctx} : vNot a c = (a c).bnd vNk := by
  unfold vNot
  rw [mb_r]
  exact congrArg (Rs.bnd _) (funext fun x => by cases x <;> rfl)
def vGk : D → M D
  | .int i => mp (.int (-i))
  | _ => fun _ => .stk
@[simp] theorem vGk_i {i : Int} {c : Ctx} : vGk (.int i) c = .ok (.int (-i)) c := rfl
@[simp] theorem vNeg_r {a : M D} {c : Ctx} : vNeg a c = (a c).bnd vGk := by
  unfold vNeg
  rw [mb_r]
  exact congrArg (Rs.bnd _) (funext fun x => by cases x <;> rfl)
/-! late values -/
@[simp] theorem lv_r {m : M D} {c : Ctx} : lv m c = (m c).bnd fun x => mp fun _ => some x := mb_r
def lnk (i : Nat) (c : Ctx) : Sv → Rs LV
  | .no => .stk
  | _ => .ok (fun c => peek (c.getD i .no)) c
@[simp] theorem lnk_d {i : Nat} {c : Ctx} {x : D} : lnk i c (.d x) = .ok (fun c => peek (c.getD i .no)) c := rfl
@[simp] theorem lnk_o {i : Nat} {c : Ctx} {x : O} : lnk i c (.o x) = .ok (fun c => peek (c.getD i .no)) c := rfl
@[simp] theorem lnk_l {i : Nat} {c : Ctx} {x : O} : lnk i c (.l x) = .ok (fun c => peek (c.getD i .no)) c := rfl
@[simp] theorem lName_r {i : Nat} {c : Ctx} : lName i c = lnk i c (c.getD i .no) := by
  unfold lName lnk
  cases c.getD i .no <;> rfl
@[simp] theorem peek_d {x : D} : peek (.d x) = some x := rfl
@[simp] theorem peek_o {xs : List D} : peek (.o (.lst xs)) = some (.nd .lst xs) := rfl
@[simp] theorem peek_l {xs : List D} : peek (.l (.lst xs)) = some (.nd .lst xs) := rfl
def rdk {α : Type} (g : D → D → Option α) (c : Ctx) : Option D → Option D → Rs α
  | some x, some y => ml (g x y) c
  | _, _ => .stk
@[simp] theorem rdk_s {α : Type} {g : D → D → Option α} {c : Ctx} {x y : D} : rdk g c (some x) (some y) = ml (g x y) c := rfl
@[simp] theorem rd2_r {g : D → D → Option D} {p q : LV} {c : Ctx} : rd2 g p q c = rdk g c (p c) (q c) := by
  unfold rd2 rdk
  cases p c <;> cases q c <;> rfl
@[simp] theorem rd2O_r {g : D → D → Option O} {p q : LV} {c : Ctx} : rd2O g p q c = rdk g c (p c) (q c) := by
  unfold rd2O rdk
  cases p c <;> cases q c <;> rfl
@[simp] theorem m2_r {g : D → D → Option D} {a b : M LV} {c : Ctx} : m2 g a b c = (a c).bnd fun p => mb b fun q => rd2 g p q := mb_r
@[simp] theorem o2_r {g : D → D → Option O} {a b : M LV} {c : Ctx} : o2 g a b c = (a c).bnd fun p => mb b fun q => rd2O g p q := mb_r
@[simp] theorem lCons_r {a : M LV} {b : M (List LV)} {c : Ctx} : lCons a b c = (a c).bnd fun x => mb b fun xs => mp (x :: xs) := mb_r
@[simp] theorem mCons_r {a : M D} {b : M (List D)} {c : Ctx} : mCons a b c = (a c).bnd fun x => mb b fun xs => mp (x :: xs) := mb_r
def clk {α : Type} (g : List D → Option α) (c : Ctx) : Option (List D) → Rs α
  | some xs => ml (g xs) c
  | none => .stk
@[simp] theorem clk_s {α : Type} {g : List D → Option α} {c : Ctx} {xs : List D} : clk g c (some xs) = ml (g xs) c := rfl
@[simp] theorem mCl_r {α : Type} {g : List D → Option α} {m : M (List LV)} {c : Ctx} : mCl g m c = (m c).bnd fun ps c => clk g c (rdAll ps c) := by
  unfold mCl
  rw [mb_r]
  exact congrArg (Rs.bnd _) (funext fun ps => funext fun c => by
    unfold clk
    cases rdAll ps c <;> rfl)
@[simp] theorem rdAll_nil {c : Ctx} : rdAll [] c = some [] := rfl
def rck : Option D → Option (List D) → Option (List D)
  | some x, some xs => some (x :: xs)
  | _, _ => none
@[simp] theorem rck_s {x : D} {xs : List D} : rck (some x) (some xs) = some (x :: xs) := rfl
@[simp] theorem rdAll_cons {p : LV} {ps : List LV} {c : Ctx} : rdAll (p :: ps) c = rck (p c) (rdAll ps c) := by
  rw [rdAll]
  unfold rck
  cases p c <;> cases rdAll ps c <;> rfl
/-! displays, parts -/
@[simp] theorem mTup_r {m : M (List D)} {c : Ctx} : mTup m c = (m c).bnd fun xs => mb (ml (lim xs)) fun xs => mp (.nd .tup xs) := mb_r
@[simp] theorem mLst_r {m : M (List D)} {c : Ctx} : mLst m c = (m c).bnd fun xs => mb (ml (lim xs)) fun xs => mp (.lst xs) := mb_r
@[simp] theorem mFz_r {m : M O} {c : Ctx} : mFz m c = (m c).bnd fun x => mp (frz x) := mb_r
@[simp] theorem frz_lst {xs : List D} : frz (.lst xs) = .nd .lst xs := rfl
theorem sizeLine_big : sizeLine = 16777216 := sizeLine_eq
@[simp] theorem lim_nil : lim [] = some [] := rfl
theorem lim_ok {xs : List D} (h : xs.length ≤ 16777216) : lim xs = some xs := by
  unfold lim
  rw [if_pos (by rw [sizeLine_big]; exact h)]
@[simp] theorem lim1 {x : D} : lim [x] = some [x] := lim_ok (by simp)
@[simp] theorem lim2 {x y : D} : lim [x, y] = some [x, y] := lim_ok (by simp)
@[simp] theorem lim3 {x y z : D} : lim [x, y, z] = some [x, y, z] := lim_ok (by simp)
@[simp] theorem lim4 {x y z w : D} : lim [x, y, z, w] = some [x, y, z, w] := lim_ok (by simp)
@[simp] theorem lim5 {x y z w v : D} : lim [x, y, z, w, v] = some [x, y, z, w, v] := lim_ok (by simp)
@[simp] theorem lim6 {x y z w v u : D} : lim [x, y, z, w, v, u] = some [x, y, z, w, v, u] := lim_ok (by simp)
@[simp] theorem lim7 {x y z w v u t : D} : lim [x, y, z, w, v, u, t] = some [x, y, z, w, v, u, t] := lim_ok (by simp)
@[simp] theorem lim8 {x y z w v u t s : D} : lim [x, y, z, w, v, u, t, s] = some [x, y, z, w, v, u, t, s] := lim_ok (by simp)
@[simp] theorem mPart_r {m : M D} {c : Ctx} : mPart m c = (m c).bnd fun x => mb (ml (toI x)) fun i => mp (some i) := mb_r
@[simp] theorem toI_i {i : Int} : toI (.int i) = some i := rfl
def slk {α : Type} (g : D → Option Int → Option Int → Option α) (l h : Option Int) (c : Ctx) : Option D → Rs α
  | some x => ml (g x l h) c
  | none => .stk
@[simp] theorem slk_s {α : Type} {g : D → Option Int → Option Int → Option α} {l h : Option Int} {c : Ctx} {x : D} : slk g l h c (some x) = ml (g x l h) c := rfl
@[simp] theorem mSl_r {g : D → Option Int → Option Int → Option D} {a : M LV} {lo hi : M (Option Int)} {c : Ctx} : mSl g a lo hi c = (a c).bnd fun p => mb lo fun l => mb hi fun h => fun c => slk g l h c (p c) := by
  unfold mSl
  rw [mb_r]
  exact congrArg (Rs.bnd _) (funext fun p => congrArg (mb _) (funext fun l => congrArg (mb _) (funext fun h => funext fun c => by
    unfold slk
    cases p c <;> rfl)))
@[simp] theorem oSl_r {g : D → Option Int → Option Int → Option O} {a : M LV} {lo hi : M (Option Int)} {c : Ctx} : oSl g a lo hi c = (a c).bnd fun p => mb lo fun l => mb hi fun h => fun c => slk g l h c (p c) := by
  unfold oSl
  rw [mb_r]
  exact congrArg (Rs.bnd _) (funext fun p => congrArg (mb _) (funext fun l => congrArg (mb _) (funext fun h => funext fun c => by
    unfold slk
    cases p c <;> rfl)))
/-! names that are given away -/
def tkk (i : Nat) (c : Ctx) : Sv → Rs O
  | .o x => .ok x (c.set i .no)
  | _ => .stk
@[simp] theorem tkk_o {i : Nat} {c : Ctx} {x : O} : tkk i c (.o x) = .ok x (c.set i .no) := rfl
@[simp] theorem mTake_r {i : Nat} {c : Ctx} : mTake i c = tkk i c (c.getD i .no) := by
  unfold mTake tkk
  cases c.getD i .no <;> rfl
def fzk (i : Nat) (c : Ctx) : Sv → Rs D
  | .o x => if i < c.length then .ok (frz x) (c.set i (.d (frz x))) else .stk
  | .d x => .ok x c
  | _ => .stk
@[simp] theorem fzk_o {i : Nat} {c : Ctx} {x : O} : fzk i c (.o x) = if i < c.length then .ok (frz x) (c.set i (.d (frz x))) else .stk := rfl
@[simp] theorem fzk_d {i : Nat} {c : Ctx} {x : D} : fzk i c (.d x) = .ok x c := rfl
@[simp] theorem mFreeze_r {i : Nat} {c : Ctx} : mFreeze i c = fzk i c (c.getD i .no) := by
  unfold mFreeze fzk
  cases c.getD i .no <;> rfl
/-! own lists -/
def mk1 {α : Type} (k : O → Sv) (i : Nat) (c : Ctx) : Option (α × O) → Rs α
  | some (a, y) => .ok a (c.set i (k y))
  | none => .stk
@[simp] theorem mk1_s {α : Type} {k : O → Sv} {i : Nat} {c : Ctx} {a : α} {y : O} : mk1 k i c (some (a, y)) = .ok a (c.set i (k y)) := rfl
def mok {α : Type} (i : Nat) (f : O → Option (α × O)) (c : Ctx) : Sv → Rs α
  | .o x => mk1 .o i c (f x)
  | .l x => mk1 .l i c (f x)
  | _ => .stk
@[simp] theorem mok_o {α : Type} {i : Nat} {f : O → Option (α × O)} {c : Ctx} {x : O} : mok i f c (.o x) = mk1 .o i c (f x) := rfl
@[simp] theorem mok_l {α : Type} {i : Nat} {f : O → Option (α × O)} {c : Ctx} {x : O} : mok i f c (.l x) = mk1 .l i c (f x) := rfl
@[simp] theorem modO_r {α : Type} {i : Nat} {f : O → Option (α × O)} {c : Ctx} : modO i f c = mok i f c (c.getD i .no) := by
  unfold modO mok mk1
  cases c.getD i .no with
  | o x => cases f x <;> rfl
  | l x => cases f x <;> rfl
  | _ => rfl
def ilk (c : Ctx) : Sv → Rs Unit
  | .o (.lst _) => .ok () c
  | .l (.lst _) => .ok () c
  | _ => .stk
@[simp] theorem ilk_o {c : Ctx} {xs : List D} : ilk c (.o (.lst xs)) = .ok () c := rfl
@[simp] theorem ilk_l {c : Ctx} {xs : List D} : ilk c (.l (.lst xs)) = .ok () c := rfl
@[simp] theorem isL_r {i : Nat} {c : Ctx} : isL i c = ilk c (c.getD i .no) := by
  unfold isL ilk
  cases c.getD i .no with
  | o x => cases x; rfl
  | l x => cases x; rfl
  | _ => rfl
@[simp] theorem mApp_r {i : Nat} {me : M D} {c : Ctx} : mApp i me c = (isL i c).bnd fun _ => mb me fun x => modO i (lApp x) := mb_r
@[simp] theorem mM0_r {i : Nat} {f : O → Option (D × O)} {c : Ctx} : mM0 i f c = (isL i c).bnd fun _ => modO i f := mb_r
@[simp] theorem mAugL_r {i : Nat} {me : M D} {c : Ctx} : mAugL i me c = (isL i c).bnd fun _ => mb me fun y => mb (modO i (lExt y)) fun _ => mp .nx := mb_r
@[simp] theorem mPut_r {i : Nat} {me mk : M D} {c : Ctx} : mPut i me mk c = (me c).bnd fun y => mb (isL i) fun _ => mb mk fun k => mb (modO i (lPut y k)) fun _ => mp .nx := mb_r
@[simp] theorem lApp_r {x : D} {xs : List D} : lApp x (.lst xs) = if xs.length < 16777216 then some (.non, .lst (xs ++ [x])) else none := by
  unfold lApp
  rw [sizeLine_big]
@[simp] theorem lClr_r {xs : List D} : lClr (.lst xs) = some (.non, .lst []) := rfl
@[simp] theorem lExt_r {xs ys : List D} : lExt (.nd .lst ys) (.lst xs) = if xs.length + ys.length ≤ 16777216 then some ((), .lst (xs ++ ys)) else none := by
  show (if xs.length + ys.length ≤ sizeLine then _ else _) = _
  rw [sizeLine_big]
theorem lPut_k {x : D} {xs : List D} {k : Int} {j : Nat} (h : ixN xs.length k = some j) : lPut x (.int k) (.lst xs) = some ((), .lst (xs.set j x)) := by
  show (ixN xs.length k).map _ = _
  rw [h]
  rfl
theorem lPut_r {x : D} {xs : List D} {k : Int} (h0 : 0 ≤ k) (h : k < xs.length) : lPut x (.int k) (.lst xs) = some ((), .lst (xs.set k.toNat x)) := by
  refine lPut_k ?_
  unfold ixN
  rw [if_pos h0, if_pos h]
/-! def, calls -/
def Rs.fin (r : Rs Out) : Rs Rv := match r with
  | .ok (.rt r) c' => .ok r c'
  | .ok .nx c' => .ok (.d .non) c'
  | .er e c' => .er e c'
  | _ => .stk
@[simp] theorem Rs.fin_rt {r : Rv} {c : Ctx} : (Rs.ok (.rt r) c).fin = .ok r c := rfl
@[simp] theorem Rs.fin_nx {c : Ctx} : (Rs.ok .nx c).fin = .ok (.d .non) c := rfl
@[simp] theorem Rs.fin_er {e : Ex} {c : Ctx} : (Rs.er e c : Rs Out).fin = .er e c := rfl
theorem fnM_r {n : Nat} {m : M Out} {args : List Sv} : fnM n m args = (m (args ++ List.replicate (n - args.length) .no)).fin := by
  unfold fnM Rs.fin
  cases m (args ++ List.replicate (n - args.length) .no) with
  | stk => rfl
  | er e c => rfl
  | ok o c => cases o <;> rfl
@[simp] theorem aNil_r {c : Ctx} : aNil c = .ok [] c := rfl
@[simp] theorem aD_r {me : M D} {mr : M (List Ar)} {c : Ctx} : aD me mr c = (me c).bnd fun x => mb mr fun xs => mp (.d x :: xs) := mb_r
def alk (i : Nat) (mr : M (List Ar)) (c : Ctx) : Sv → Rs (List Ar)
  | .o _ => (mr c).bnd fun xs => mp (.l i :: xs)
  | .l _ => (mr c).bnd fun xs => mp (.l i :: xs)
  | _ => .stk
@[simp] theorem alk_o {i : Nat} {mr : M (List Ar)} {c : Ctx} {x : O} : alk i mr c (.o x) = (mr c).bnd fun xs => mp (.l i :: xs) := rfl
@[simp] theorem alk_l {i : Nat} {mr : M (List Ar)} {c : Ctx} {x : O} : alk i mr c (.l x) = (mr c).bnd fun xs => mp (.l i :: xs) := rfl
@[simp] theorem aL_r {i : Nat} {mr : M (List Ar)} {c : Ctx} : aL i mr c = alk i mr c (c.getD i .no) := by
  unfold aL alk
  cases c.getD i .no <;> first | rfl | exact mb_r
def Rs.ret (as : List Ar) (c : Ctx) : Rs Rv → Rs Rv
  | .stk => .stk
  | .ok r c' => .ok r (back c' 0 as c)
  | .er e c' => .er e (back c' 0 as c)
@[simp] theorem Rs.ret_ok {as : List Ar} {c c' : Ctx} {r : Rv} : (Rs.ok r c').ret as c = .ok r (back c' 0 as c) := rfl
@[simp] theorem Rs.ret_er {as : List Ar} {c c' : Ctx} {e : Ex} : (Rs.er e c').ret as c = .er e (back c' 0 as c) := rfl
def cak (F : Fd) (as : List Ar) (c : Ctx) : Option (List Sv) → Rs Rv
  | none => .stk
  | some args => (F args).ret as c
@[simp] theorem cak_s {F : Fd} {as : List Ar} {c : Ctx} {args : List Sv} : cak F as c (some args) = (F args).ret as c := rfl
@[simp] theorem mCallA_r {F : Fd} {ma : M (List Ar)} {c : Ctx} : mCallA F ma c = (ma c).bnd fun as c => if (lentOf as).Nodup then cak F as c (arSvs c as) else .stk := by
  unfold mCallA
  rw [mb_r]
  exact congrArg (Rs.bnd _) (funext fun as => funext fun c => by
    split
    · unfold cak
      cases arSvs c as with
      | none => rfl
      | some args =>
        unfold Rs.ret
        cases F args <;> rfl
    · rfl)
@[simp] theorem lentOf_nil : lentOf [] = [] := rfl
@[simp] theorem lentOf_d {x : D} {as : List Ar} : lentOf (.d x :: as) = lentOf as := rfl
@[simp] theorem lentOf_l {i : Nat} {as : List Ar} : lentOf (.l i :: as) = i :: lentOf as := rfl
@[simp] theorem arSvs_nil {c : Ctx} : arSvs c [] = some [] := rfl
def ask : Option Sv → Option (List Sv) → Option (List Sv)
  | some x, some xs => some (x :: xs)
  | _, _ => none
@[simp] theorem ask_s {x : Sv} {xs : List Sv} : ask (some x) (some xs) = some (x :: xs) := rfl
@[simp] theorem arSvs_cons {c : Ctx} {a : Ar} {as : List Ar} : arSvs c (a :: as) = ask (arSv c a) (arSvs c as) := by
  rw [arSvs]
  unfold ask
  cases arSv c a <;> cases arSvs c as <;> rfl
@[simp] theorem arSv_d {c : Ctx} {x : D} : arSv c (.d x) = some (.d x) := rfl
@[simp] theorem arSv_l {c : Ctx} {i : Nat} : arSv c (.l i) = lentSv (c.getD i .no) := rfl
@[simp] theorem lentSv_o {x : O} : lentSv (.o x) = some (.l x) := rfl
@[simp] theorem lentSv_l {x : O} : lentSv (.l x) = some (.l x) := rfl
@[simp] theorem back_nil {c' c : Ctx} {j : Nat} : back c' j [] c = c := rfl
@[simp] theorem back_d {c' c : Ctx} {j : Nat} {x : D} {as : List Ar} : back c' j (.d x :: as) c = back c' (j + 1) as c := rfl
@[simp] theorem back_l {c' c : Ctx} {j i : Nat} {as : List Ar} : back c' j (.l i :: as) c = back c' (j + 1) as (c.set i (backSv (c.getD i .no) (c'.getD j .no))) := rfl
@[simp] theorem backSv_o {x y : O} : backSv (.o x) (.l y) = .o y := rfl
@[simp] theorem backSv_l {x y : O} : backSv (.l x) (.l y) = .l y := rfl
def rdD : Rv → M D
  | .d x => mp x
  | .o _ => fun _ => .stk
@[simp] theorem rdD_d {x : D} {c : Ctx} : rdD (.d x) c = .ok x c := rfl
@[simp] theorem mRvD_r {m : M Rv} {c : Ctx} : mRvD m c = (m c).bnd rdD := by
  unfold mRvD
  rw [mb_r]
  exact congrArg (Rs.bnd _) (funext fun r => by cases r <;> rfl)
def rdO : Rv → M O
  | .o x => mp x
  | .d _ => fun _ => .stk
@[simp] theorem rdO_o {x : O} {c : Ctx} : rdO (.o x) c = .ok x c := rfl
@[simp] theorem mRvO_r {m : M Rv} {c : Ctx} : mRvO m c = (m c).bnd rdO := by
  unfold mRvO
  rw [mb_r]
  exact congrArg (Rs.bnd _) (funext fun r => by cases r <;> rfl)
/-! targets, sources -/
@[simp] theorem gN_r {i : Nat} {x : D} : gN i x = putS i (.d x) := rfl
@[simp] theorem gNil_r {c : Ctx} : gNil' [] c = .ok .nx c := rfl
@[simp] theorem gCons_r {g : D → M Out} {gs : List D → M Out} {x : D} {xs : List D} : gCons' g gs (x :: xs) = mSeq (g x) (gs xs) := rfl
@[simp] theorem gS_t {n : Nat} {gs : List D → M Out} {xs : List D} {c : Ctx} : gS n gs (.nd .tup xs) c = if xs.length = n then gs xs c else .stk := by
  show (if xs.length = n then gs xs else fun _ => .stk) c = _
  split <;> rfl
@[simp] theorem gS_l {n : Nat} {gs : List D → M Out} {xs : List D} {c : Ctx} : gS n gs (.nd .lst xs) c = if xs.length = n then gs xs c else .stk := by
  show (if xs.length = n then gs xs else fun _ => .stk) c = _
  split <;> rfl
@[simp] theorem mAsg_r {me : M D} {g : D → M Out} {c : Ctx} : mAsg me g c = (me c).bnd fun x => mq (g x) := mb_r
@[simp] theorem itS_r {me : M D} {c : Ctx} : itS me c = (me c).bnd fun x => ml (asS x) := mb_r
@[simp] theorem asS_l {xs : List D} : asS (.nd .lst xs) = some xs := rfl
@[simp] theorem asS_t {xs : List D} : asS (.nd .tup xs) = some xs := rfl
@[simp] theorem asS_s {xs : List D} : asS (.nd .scr xs) = some xs := rfl
@[simp] theorem itR_r {g : List D → Option (List D)} {ma : M (List D)} {c : Ctx} : itR g ma c = (ma c).bnd fun xs => ml (g xs) := mb_r
@[simp] theorem mForS_r {mi : M (List D)} {g : D → M Out} {b : M Out} {c : Ctx} : mForS mi g b c = (mi c).bnd (mFor g b) := mb_r
@[simp] theorem mFor_nil {g : D → M Out} {b : M Out} {c : Ctx} : mFor g b [] c = .ok .nx c := rfl
def tk2 (r : M Out) : Out → M Out
  | .nx => r
  | .ct => r
  | .bk => mp .nx
  | .rt v => mp (.rt v)
@[simp] theorem tk2_nx {r : M Out} {c : Ctx} : tk2 r .nx c = r c := rfl
@[simp] theorem tk2_ct {r : M Out} {c : Ctx} : tk2 r .ct c = r c := rfl
@[simp] theorem tk2_bk {r : M Out} {c : Ctx} : tk2 r .bk c = .ok .nx c := rfl
@[simp] theorem tk2_rt {r : M Out} {c : Ctx} {v : Rv} : tk2 r (.rt v) c = .ok (.rt v) c := rfl
def tk1 (b r : M Out) : Out → M Out
  | .nx => mb b (tk2 r)
  | _ => fun _ => .stk
@[simp] theorem tk1_nx {b r : M Out} {c : Ctx} : tk1 b r .nx c = (b c).bnd (tk2 r) := mb_r
theorem mFor_cons {g : D → M Out} {b : M Out} {x : D} {xs : List D} {c : Ctx} : mFor g b (x :: xs) c = ((g x c).qt).bnd (tk1 b (mFor g b xs)) := by
  rw [mFor, mb_r, mq_r]
  exact congrArg (Rs.bnd _) (funext fun o => by
    cases o with
    | nx =>
      show mb b _ = mb b (tk2 _)
      exact congrArg (mb b) (funext fun o => by cases o <;> rfl)
    | _ => rfl)
/-- a loop, turn by turn: St i behind i turns -/
theorem mFor_run {g : D → M Out} {b : M Out} {xs : List D} (St : Nat → Ctx → Prop) {c : Ctx} (h0 : St 0 c)
    (hs : ∀ i x c, xs[i]? = some x → St i c → ∃ c1 c2, g x c = .ok .nx c1 ∧ (b c1 = .ok .nx c2 ∨ b c1 = .ok .ct c2) ∧ St (i + 1) c2) : ∃ c', mFor g b xs c = .ok .nx c' ∧ St xs.length c' := by
  have key : ∀ (ys : List D) (i : Nat) (c : Ctx), xs.drop i = ys → i + ys.length = xs.length → St i c → ∃ c', mFor g b ys c = .ok .nx c' ∧ St xs.length c' := by
    intro ys
    induction ys with
    | nil =>
      intro i c _ hl h
      rw [List.length_nil, Nat.add_zero] at hl
      exact ⟨c, rfl, hl ▸ h⟩
    | cons y ys ih =>
      intro i c hd hl h
      have hx : xs[i]? = some y := by
        rw [← List.head?_drop, hd]
        rfl
      obtain ⟨c1, c2, e1, e2, h2⟩ := hs i y c hx h
      obtain ⟨c3, e3, h3⟩ := ih (i + 1) c2 (by rw [← List.drop_drop, hd]; rfl) (by rw [List.length_cons] at hl; omega) h2
      refine ⟨c3, ?_, h3⟩
      rw [mFor_cons, e1, Rs.qt_ok, Rs.bnd_ok, tk1_nx]
      rcases e2 with e2 | e2
      · rw [e2, Rs.bnd_ok, tk2_nx, e3]
      · rw [e2, Rs.bnd_ok, tk2_ct, e3]
  exact key xs 0 c rfl (by simp) h0
@[simp] theorem mAug_r {g : D → D → Option D} {i : Nat} {me : M D} {c : Ctx} : mAug g i me c = (mVar i c).bnd fun x => mb me fun y => mb (ml (g x y)) fun z => putS i (.d z) := mb_r
@[simp] theorem gI_r {g : Int → Int → Int} {i j : Int} : gI g (.int i) (.int j) = some (.int (g i j)) := rfl
def isk (T : String) (c : Ctx) : Option D → Rs D
  | some x => ml (isiD T x) c
  | none => .stk
@[simp] theorem isk_s {T : String} {c : Ctx} {x : D} : isk T c (some x) = ml (isiD T x) c := rfl
@[simp] theorem mIsi_r {T : String} {me : M LV} {c : Ctx} : mIsi T me c = (me c).bnd fun p c => isk T c (p c) := by
  unfold mIsi
  rw [mb_r]
  exact congrArg (Rs.bnd _) (funext fun p => funext fun c => by
    unfold isk
    cases p c <;> rfl)
end Sw
set_option maxRecDepth 100000
set_option maxHeartbeats 4000000
namespace Sw
open PySem PySem.Spec L2

/-! ### deep values are the same, or not -/
mutual
def D.beq : D → D → Bool
  | .non, .non => true
  | .bl a, .bl b => decide (a = b)
  | .int a, .int b => decide (a = b)
  | .str a, .str b => decide (a = b)
  | .nd t xs, .nd u ys => decide (t = u) && D.beqs xs ys
  | .non, .bl _ | .non, .int _ | .non, .str _ | .non, .nd _ _ => false
  | .bl _, .non | .bl _, .int _ | .bl _, .str _ | .bl _, .nd _ _ => false
  | .int _, .non | .int _, .bl _ | .int _, .str _ | .int _, .nd _ _ => false
  | .str _, .non | .str _, .bl _ | .str _, .int _ | .str _, .nd _ _ => false
  | .nd _ _, .non | .nd _ _, .bl _ | .nd _ _, .int _ | .nd _ _, .str _ => false
def D.beqs : List D → List D → Bool
  | [], [] => true
  | x :: xs, y :: ys => D.beq x y && D.beqs xs ys
  | [], _ :: _ => false
  | _ :: _, [] => false
end
mutual
theorem D.beq_self : ∀ x : D, D.beq x x = true
  | .non => rfl
  | .bl a => by simp [D.beq]
  | .int a => by simp [D.beq]
  | .str a => by simp [D.beq]
  | .nd t xs => by simp [D.beq, D.beqs_self xs]
theorem D.beqs_self : ∀ xs : List D, D.beqs xs xs = true
  | [] => rfl
  | x :: xs => by rw [D.beqs, D.beq_self x, D.beqs_self xs]; rfl
end
mutual
theorem D.of_beq : ∀ x y : D, D.beq x y = true → x = y
  | .non, .non, _ => rfl
  | .bl a, .bl b, h => by simp only [D.beq, decide_eq_true_eq] at h; rw [h]
  | .int a, .int b, h => by simp only [D.beq, decide_eq_true_eq] at h; rw [h]
  | .str a, .str b, h => by simp only [D.beq, decide_eq_true_eq] at h; rw [h]
  | .nd t xs, .nd u ys, h => by
    simp only [D.beq, Bool.and_eq_true, decide_eq_true_eq] at h
    rw [h.1, D.of_beqs xs ys h.2]
  | .non, .bl _, h | .non, .int _, h | .non, .str _, h | .non, .nd _ _, h => by simp [D.beq] at h
  | .bl _, .non, h | .bl _, .int _, h | .bl _, .str _, h | .bl _, .nd _ _, h => by simp [D.beq] at h
  | .int _, .non, h | .int _, .bl _, h | .int _, .str _, h | .int _, .nd _ _, h => by simp [D.beq] at h
  | .str _, .non, h | .str _, .bl _, h | .str _, .int _, h | .str _, .nd _ _, h => by simp [D.beq] at h
  | .nd _ _, .non, h | .nd _ _, .bl _, h | .nd _ _, .int _, h | .nd _ _, .str _, h => by simp [D.beq] at h
theorem D.of_beqs : ∀ xs ys : List D, D.beqs xs ys = true → xs = ys
  | [], [], _ => rfl
  | x :: xs, y :: ys, h => by
    rw [D.beqs, Bool.and_eq_true] at h
    rw [D.of_beq x y h.1, D.of_beqs xs ys h.2]
  | [], _ :: _, h => by simp [D.beqs] at h
  | _ :: _, [], h => by simp [D.beqs] at h
end
instance : DecidableEq D := fun x y => if h : D.beq x y = true then .isTrue (D.of_beq x y h) else .isFalse fun e => h (e ▸ D.beq_self x)

/-! ### == of data without truth values -/
def Tag.pl : Tag → Bool | .tup => true | .lst => true | _ => false
mutual
/-- ints, texts, None, tuples and lists of such -/
def D.pl : D → Bool
  | .non => true
  | .bl _ => false
  | .int _ => true
  | .str x => PySem.PyData.strOk x
  | .nd t xs => t.pl && D.pls xs
def D.pls : List D → Bool
  | [] => true
  | x :: xs => D.pl x && D.pls xs
end
mutual
def D.dp : D → Nat
  | .nd _ xs => D.dps xs + 1
  | .non => 0
  | .bl _ => 0
  | .int _ => 0
  | .str _ => 0
def D.dps : List D → Nat
  | [] => 0
  | x :: xs => max (D.dp x) (D.dps xs)
end
mutual
theorem D.pl_lay : ∀ (x : D), D.pl x = true → x.py.canLay0 = true ∧ x.py.depth = x.dp
  | .non, _ => ⟨rfl, rfl⟩
  | .int _, _ => ⟨rfl, rfl⟩
  | .str x, h => ⟨by simpa [D.pl, D.py, PyData.canLay0] using h, rfl⟩
  | .bl _, h => by simp [D.pl] at h
  | .nd t xs, h => by
    rw [D.pl, Bool.and_eq_true] at h
    obtain ⟨a, b⟩ := D.pls_lay xs h.2
    cases t with
    | tup => exact ⟨by simpa [D.py, PyData.canLay0] using a, by simp only [D.py, PyData.depth, D.dp, b]⟩
    | lst => exact ⟨by simpa [D.py, PyData.canLay0] using a, by simp only [D.py, PyData.depth, D.dp, b]⟩
    | _ => simp [Tag.pl] at h
theorem D.pls_lay : ∀ (xs : List D), D.pls xs = true → PyData.canLayAll0 (D.pys xs) = true ∧ PyData.depthAll (D.pys xs) = D.dps xs
  | [], _ => ⟨rfl, rfl⟩
  | x :: xs, h => by
    rw [D.pls, Bool.and_eq_true] at h
    obtain ⟨a, b⟩ := D.pl_lay x h.1
    obtain ⟨c, d⟩ := D.pls_lay xs h.2
    refine ⟨?_, ?_⟩
    · rw [D.pys, PyData.canLayAll0, a, c]; rfl
    · rw [D.pys, PyData.depthAll, b, d, D.dps]
end
theorem Tag.pl_cases {t : Tag} (h : t.pl = true) : t = .tup ∨ t = .lst := by
  cases t <;> first | exact .inl rfl | exact .inr rfl | cases h
mutual
theorem D.eqv_pl : ∀ (x y : D), D.pl x = true → D.pl y = true → PyData.eqv x.py y.py = decide (x = y)
  | .bl _, _, h, _ => by simp [D.pl] at h
  | .non, y, _, k => by
    cases y with
    | nd u ys =>
      rw [D.pl, Bool.and_eq_true] at k
      rcases Tag.pl_cases k.1 with rfl | rfl <;> simp [D.py, PyData.eqv]
    | bl _ => simp [D.pl] at k
    | _ => simp [D.py, PyData.eqv]
  | .int a, y, _, k => by
    cases y with
    | nd u ys =>
      rw [D.pl, Bool.and_eq_true] at k
      rcases Tag.pl_cases k.1 with rfl | rfl <;> simp [D.py, PyData.eqv]
    | bl _ => simp [D.pl] at k
    | int b => simp only [D.py, PyData.eqv, D.int.injEq]; rfl
    | _ => simp [D.py, PyData.eqv]
  | .str a, y, _, k => by
    cases y with
    | nd u ys =>
      rw [D.pl, Bool.and_eq_true] at k
      rcases Tag.pl_cases k.1 with rfl | rfl <;> simp [D.py, PyData.eqv]
    | bl _ => simp [D.pl] at k
    | str b => simp only [D.py, PyData.eqv, D.str.injEq]; rfl
    | _ => simp [D.py, PyData.eqv]
  | .nd t xs, y, h, k => by
    rw [D.pl, Bool.and_eq_true] at h
    cases y with
    | nd u ys =>
      rw [D.pl, Bool.and_eq_true] at k
      have e := D.eqvs_pl xs ys h.2 k.2
      rcases Tag.pl_cases h.1 with rfl | rfl <;> rcases Tag.pl_cases k.1 with rfl | rfl <;> simp [D.py, PyData.eqv, e]
    | bl _ => simp [D.pl] at k
    | _ => rcases Tag.pl_cases h.1 with rfl | rfl <;> simp [D.py, PyData.eqv]
theorem D.eqvs_pl : ∀ (xs ys : List D), D.pls xs = true → D.pls ys = true → PyData.eqvAll (D.pys xs) (D.pys ys) = decide (xs = ys)
  | [], [], _, _ => by simp [D.pys, PyData.eqvAll]
  | [], _ :: _, _, _ => by simp [D.pys, PyData.eqvAll]
  | _ :: _, [], _, _ => by simp [D.pys, PyData.eqvAll]
  | x :: xs, y :: ys, h, k => by
    rw [D.pls, Bool.and_eq_true] at h k
    rw [D.pys, D.pys, PyData.eqvAll, D.eqv_pl x y h.1 k.1, D.eqvs_pl xs ys h.2 k.2]
    by_cases h1 : x = y <;> by_cases h2 : xs = ys <;> simp [h1, h2]
end

/-! ### == to a depth of 180 -/
def rEqN (K : PySem.W.Frag) (f : Bool → Bool) : R2 := fun x y H Q => ∃ d e, Dp K H x d ∧ Dp K H y e ∧ d.canLay0 = true ∧ e.canLay0 = true ∧ min d.depth e.depth ≤ 180 ∧ Q (.bl (f (PyData.eqv d e))) H
theorem room180 {A : Around} {k n : Nat} (hr : Room k A) (h : n ≤ 180) : A.units + n < cLine := by have := hr.un; omega
section
variable {X : Cx} {k : Nat}
theorem op_hEq (hr : Room k X.A) : OpR X (compareOp .Eq) (rEqN X.K id) := by
  intro pins s σ H x y v u Q I rx ry h
  obtain ⟨d, e, hd, he, sd, se, dp, q⟩ := h
  obtain ⟨as, r1⟩ := Dp.reads I d x v hd rx
  obtain ⟨bs, r2⟩ := Dp.reads I e y u he ry
  exact SeqAt.compareEq_reads r1 r2 sd se (room180 hr dp) ⟨.bl _, H, I, rfl, q⟩
theorem op_hNe (hr : Room k X.A) : OpR X (compareOp .NotEq) (rEqN X.K not) := by
  intro pins s σ H x y v u Q I rx ry h
  obtain ⟨d, e, hd, he, sd, se, dp, q⟩ := h
  obtain ⟨as, r1⟩ := Dp.reads I d x v hd rx
  obtain ⟨bs, r2⟩ := Dp.reads I e y u he ry
  exact SeqAt.compareNe_reads r1 r2 sd se (room180 hr dp) ⟨.bl _, H, I, rfl, q⟩
end
def gEqN (f : Bool → Bool) (x y : D) : Option D := if x.py.canLay0 = true ∧ y.py.canLay0 = true ∧ min x.py.depth y.py.depth ≤ 180 then some (.bl (f (PyData.eqv x.py y.py))) else none
abbrev hEq := gEqN id
abbrev hNe := gEqN not
theorem dop_eqN (K : PySem.W.Frag) (f : Bool → Bool) : DOp K (rEqN K f) (gEqN f) := by
  intro H Z x y dx dy dz rx ry zl e Q q
  unfold gEqN at e
  split at e
  · rename_i h
    cases e
    exact ⟨_, _, rx.dpv (D.plain_lay h.1), ry.dpv (D.plain_lay h.2.1), h.1, h.2.1, h.2.2, q _ H Z .refl (.bl _)⟩
  · cases e
theorem dop_hEq (K : PySem.W.Frag) : DOp K (rEqN K id) hEq := dop_eqN K id
theorem dop_hNe (K : PySem.W.Frag) : DOp K (rEqN K not) hNe := dop_eqN K not
theorem gEqN_pl {f : Bool → Bool} {x y : D} (hx : D.pl x = true) (hy : D.pl y = true) (hn : min x.dp y.dp ≤ 180) : gEqN f x y = some (.bl (f (decide (x = y)))) := by
  obtain ⟨a, b⟩ := D.pl_lay x hx
  obtain ⟨c, d⟩ := D.pl_lay y hy
  unfold gEqN
  rw [if_pos ⟨a, c, by omega⟩, D.eqv_pl x y hx hy]
@[simp] theorem hEq_i {i j : Int} : gEqN id (.int i) (.int j) = some (.bl (decide (i = j))) := by
  rw [gEqN_pl (x := .int i) (y := .int j) rfl rfl (Nat.zero_le 180)]
  simp
@[simp] theorem hNe_i {i j : Int} : gEqN not (.int i) (.int j) = some (.bl (!decide (i = j))) := by
  rw [gEqN_pl (x := .int i) (y := .int j) rfl rfl (Nat.zero_le 180)]
  simp

/-! ### operators, on what is known -/
@[simp] theorem gAdd_i {i j : Int} : gAdd (.int i) (.int j) = some (.int (i + j)) := rfl
theorem gAdd_s {a b : Str} (h : a.length + b.length ≤ 16777216) : gAdd (.str a) (.str b) = some (.str (a ++ b)) := by
  show (if a.length + b.length ≤ sizeLine then _ else _) = _
  rw [if_pos (by rw [sizeLine_big]; exact h)]
theorem gAdd_t {a b : List D} (h : a.length + b.length ≤ 16777216) : gAdd (.nd .tup a) (.nd .tup b) = some (.nd .tup (a ++ b)) := by
  show (if a.length + b.length ≤ sizeLine then _ else _) = _
  rw [if_pos (by rw [sizeLine_big]; exact h)]
theorem gAdd_l {a b : List D} (h : a.length + b.length ≤ 16777216) : gAdd (.nd .lst a) (.nd .lst b) = some (.nd .lst (a ++ b)) := by
  show (if a.length + b.length ≤ sizeLine then _ else _) = _
  rw [if_pos (by rw [sizeLine_big]; exact h)]
@[simp] theorem gSub_i {i j : Int} : gSub (.int i) (.int j) = some (.int (i - j)) := rfl
theorem gMul_i {i j : Int} (h : CMul i j) : gMul (.int i) (.int j) = some (.int (i * j)) := if_pos h
theorem gDiv_i {i j : Int} (h : CDiv i j) : gDiv (.int i) (.int j) = some (.int (i / j)) := if_pos h
theorem gMod_i {i j : Int} (h : 0 < j) : gMod (.int i) (.int j) = some (.int (i % j)) := if_pos h
@[simp] theorem hLt_i {i j : Int} : gOr gLt (gCmpT PySem.W.dataLt) (.int i) (.int j) = some (.bl (decide (i < j))) := rfl
@[simp] theorem hGt_i {i j : Int} : gOr gGt (gCmpT fun d e => PySem.W.dataLt e d) (.int i) (.int j) = some (.bl (decide (j < i))) := rfl
@[simp] theorem hLe_i {i j : Int} : gOr gLe (gCmpT fun d e => !PySem.W.dataLt e d) (.int i) (.int j) = some (.bl (decide (i ≤ j))) := rfl
@[simp] theorem hGe_i {i j : Int} : gOr gGe (gCmpT fun d e => !PySem.W.dataLt d e) (.int i) (.int j) = some (.bl (decide (j ≤ i))) := rfl
@[simp] theorem gIx_t {xs : List D} {i : Int} : gIx (.nd .tup xs) (.int i) = L2.atI xs i := rfl
@[simp] theorem gIx_l {xs : List D} {i : Int} : gIx (.nd .lst xs) (.int i) = L2.atI xs i := rfl
@[simp] theorem gIx_s {xs : List D} {i : Int} : gIx (.nd .scr xs) (.int i) = L2.atI xs i := rfl
theorem atI_pos {α : Type} {xs : List α} {i : Int} (h : 0 ≤ i) : L2.atI xs i = xs[i.toNat]? := by
  unfold L2.atI L2.ixN
  rw [if_pos h]
  by_cases h2 : i < xs.length
  · rw [if_pos h2]; rfl
  · rw [if_neg h2]
    symm
    show xs[i.toNat]? = none
    rw [List.getElem?_eq_none_iff]
    omega
@[simp] theorem atI_n {α : Type} {xs : List α} {n : Nat} : L2.atI xs (n : Int) = xs[n]? := by
  rw [atI_pos (by omega)]
  rfl
@[simp] theorem atI_0 {α : Type} {xs : List α} : L2.atI xs 0 = xs[0]? := atI_pos (by decide)
@[simp] theorem atI_1 {α : Type} {xs : List α} : L2.atI xs 1 = xs[1]? := atI_pos (by decide)
@[simp] theorem atI_2 {α : Type} {xs : List α} : L2.atI xs 2 = xs[2]? := atI_pos (by decide)
@[simp] theorem atI_3 {α : Type} {xs : List α} : L2.atI xs 3 = xs[3]? := atI_pos (by decide)
theorem atI_m1 {α : Type} {xs : List α} (h : xs ≠ []) : L2.atI xs (-1) = xs.getLast? := by
  have hp : 0 < xs.length := List.length_pos_iff.mpr h
  unfold L2.atI L2.ixN
  rw [if_neg (by omega), if_pos (by omega)]
  show xs[(-1 + (xs.length : Int)).toNat]? = _
  rw [List.getLast?_eq_getElem?]
  congr 1
  omega
@[simp] theorem gLen_t {xs : List D} : gLen [.nd .tup xs] = some (.int xs.length) := rfl
@[simp] theorem gLen_l {xs : List D} : gLen [.nd .lst xs] = some (.int xs.length) := rfl
@[simp] theorem gLen_s {xs : List D} : gLen [.nd .scr xs] = some (.int xs.length) := rfl
@[simp] theorem gAbs_i {i : Int} : gAbs [.int i] = some (.int (if i < 0 then -i else i)) := rfl
@[simp] theorem gInt_i {i : Int} : gInt [.int i] = some (.int i) := rfl
@[simp] theorem gInt_b {b : Bool} : gInt [.bl b] = some (.int (if b then 1 else 0)) := rfl
@[simp] theorem gMax_i {i j : Int} : gMax [.int i, .int j] = some (.int (if j > i then j else i)) := rfl
@[simp] theorem gMin_i {i j : Int} : gMin [.int i, .int j] = some (.int (if j < i then j else i)) := rfl
@[simp] theorem gList_t {xs : List D} : gList [.nd .tup xs] = some (.lst xs) := rfl
@[simp] theorem gList_l {xs : List D} : gList [.nd .lst xs] = some (.lst xs) := rfl
@[simp] theorem gTuple_t {xs : List D} : gTuple [.nd .tup xs] = some (.nd .tup xs) := rfl
@[simp] theorem gTuple_l {xs : List D} : gTuple [.nd .lst xs] = some (.nd .tup xs) := rfl
@[simp] theorem gSl_t {xs : List D} {l h : Option Int} : gSl (.nd .tup xs) l h = some (.nd .tup (cutD xs l h)) := rfl
@[simp] theorem gSl_l {xs : List D} {l h : Option Int} : gSl (.nd .lst xs) l h = some (.nd .lst (cutD xs l h)) := rfl
@[simp] theorem gSl_s {xs : List D} {l h : Option Int} : gSl (.nd .scr xs) l h = some (.nd .lst (cutD xs l h)) := rfl
theorem gSl_str {z : Str} {l h : Option Int} (hz : z.length ≤ 16777216) : gSl (.str z) l h = some (.str (cutS z l h)) := by
  show (if z.length ≤ sizeLine then _ else _) = _
  rw [if_pos (by rw [sizeLine_big]; exact hz)]
@[simp] theorem gSlO_l {xs : List D} {l h : Option Int} : gSlO (.nd .lst xs) l h = some (.lst (cutD xs l h)) := rfl
@[simp] theorem gSlO_s {xs : List D} {l h : Option Int} : gSlO (.nd .scr xs) l h = some (.lst (cutD xs l h)) := rfl
theorem gCat_l {a b : List D} (h : a.length + b.length ≤ 16777216) : gCat (.nd .lst a) (.nd .lst b) = some (.lst (a ++ b)) := by
  show (if a.length + b.length ≤ sizeLine then _ else _) = _
  rw [if_pos (by rw [sizeLine_big]; exact h)]
@[simp] theorem gIsN_n {x : D} : gIsN x .non = some (.bl (isNon x)) := rfl
@[simp] theorem gNotN_n {x : D} : gNotN x .non = some (.bl (!isNon x)) := rfl
@[simp] theorem isNon_n : isNon .non = true := rfl
@[simp] theorem isNon_i {i : Int} : isNon (.int i) = false := rfl
@[simp] theorem isNon_nd {t : Tag} {xs : List D} : isNon (.nd t xs) = false := rfl
@[simp] theorem isNon_s {x : Str} : isNon (.str x) = false := rfl
@[simp] theorem isNon_b {b : Bool} : isNon (.bl b) = false := rfl
@[simp] theorem rng1_i {j : Int} (h : -(2 ^ 60) ≤ j ∧ j < 2 ^ 60) : rng1 [.int j] = some (rng 0 j.toNat) := by
  show (if inR j = true then _ else _) = _
  rw [if_pos (inR_of h)]
theorem rng2_i {i j : Int} (h : -(2 ^ 60) ≤ i ∧ i < 2 ^ 60) (k : -(2 ^ 60) ≤ j ∧ j < 2 ^ 60) : rng2 [.int i, .int j] = some (rng i (j - i).toNat) := by
  show (if inR i = true ∧ inR j = true then _ else _) = _
  rw [if_pos ⟨inR_of h, inR_of k⟩]
@[simp] theorem zipD_t {xs ys : List D} : zipD [.nd .tup xs, .nd .tup ys] = some (List.zipWith (fun x y => .nd .tup [x, y]) xs ys) := rfl
/-! isinstance -/
theorem kb (a b : String) (r : Bool) (h : kitB a b = some r) : kitB a b = some r := h
@[simp] theorem isi_ii {i : Int} : isiD "int" (.int i) = some (.bl true) := by show (kitB "int" "int").map D.bl = _; rw [kb "int" "int" true (by decide +kernel)]; rfl
@[simp] theorem isi_ib {i : Int} : isiD "bool" (.int i) = some (.bl false) := by show (kitB "int" "bool").map D.bl = _; rw [kb "int" "bool" false (by decide +kernel)]; rfl
@[simp] theorem isi_ll {xs : List D} : isiD "list" (.nd .lst xs) = some (.bl true) := by show (kitB "list" "list").map D.bl = _; rw [kb "list" "list" true (by decide +kernel)]; rfl
@[simp] theorem isi_tt {xs : List D} : isiD "tuple" (.nd .tup xs) = some (.bl true) := by show (kitB "tuple" "tuple").map D.bl = _; rw [kb "tuple" "tuple" true (by decide +kernel)]; rfl
@[simp] theorem isi_bb {b : Bool} : isiD "bool" (.bl b) = some (.bl true) := by show (kitB "bool" "bool").map D.bl = _; rw [kb "bool" "bool" true (by decide +kernel)]; rfl
end Sw
set_option maxRecDepth 100000
set_option maxHeartbeats 4000000
namespace Sw
open PySem PySem.Spec L2

/-! ### comprehensions, run -/
@[simp] theorem wipeC_nil {c : Ctx} : wipeC c [] = c := rfl
@[simp] theorem wipeC_cons {c : Ctx} {v : Nat} {vs : List Nat} : wipeC c (v :: vs) = (wipeC c vs).set v .no := rfl
theorem lcLoop_run {vs : List Nat} {g : D → M Out} {tt : M Bool} {me : M D} (F : D → Option D) {cw : Ctx} : ∀ {xs acc : List D} {c : Ctx}, wipeC c vs = cw →
    (∀ x ∈ xs, ∃ c1 b c2, g x cw = .ok .nx c1 ∧ tt c1 = .ok b c2 ∧ ((b = false ∧ wipeC c2 vs = cw ∧ F x = none) ∨ (b = true ∧ ∃ y c3, me c2 = .ok y c3 ∧ wipeC c3 vs = cw ∧ F x = some y))) →
    acc.length + xs.length ≤ 16777216 → lcLoop vs g tt me xs acc c = .ok (acc ++ xs.filterMap F) cw
  | [], acc, c, hw, _, _ => by
    rw [lcLoop]
    show Rs.ok acc (wipeC c vs) = _
    rw [hw, List.filterMap_nil, List.append_nil]
  | x :: xs, acc, c, hw, one, hl => by
    rw [List.length_cons] at hl
    obtain ⟨c1, b, c2, e1, e2, h⟩ := one x List.mem_cons_self
    rw [lcLoop]
    dsimp only
    rw [hw, mb_r, e1, Rs.bnd_ok]
    show mb tt _ c1 = _
    rw [mb_r, e2, Rs.bnd_ok]
    rcases h with ⟨rfl, w, f⟩ | ⟨rfl, y, c3, e3, w, f⟩
    · rw [if_neg Bool.false_ne_true, lcLoop_run F w (fun z hz => one z (List.mem_cons_of_mem _ hz)) (by omega), List.filterMap_cons, f]
    · rw [if_pos rfl, mb_r, e3, Rs.bnd_ok, if_pos (by rw [sizeLine_big]; omega), lcLoop_run F w (fun z hz => one z (List.mem_cons_of_mem _ hz)) (by rw [List.length_append]; simp; omega), List.filterMap_cons, f]
      simp
theorem mLc_run {vs : List Nat} {mi : M (List D)} {g : D → M Out} {tt : M Bool} {me : M D} (F : D → Option D) {c c1 : Ctx} {xs : List D} (hi : mi c = .ok xs c1)
    (one : ∀ x ∈ xs, ∃ c2 b c3, g x (wipeC c1 vs) = .ok .nx c2 ∧ tt c2 = .ok b c3 ∧ ((b = false ∧ wipeC c3 vs = wipeC c1 vs ∧ F x = none) ∨ (b = true ∧ ∃ y c4, me c3 = .ok y c4 ∧ wipeC c4 vs = wipeC c1 vs ∧ F x = some y)))
    (hl : xs.length ≤ 16777216) : mLc vs mi g tt me c = .ok (.lst (xs.filterMap F)) (wipeC c1 vs) := by
  unfold mLc
  rw [mb_r, hi, Rs.bnd_ok, mb_r, mq_r, lcLoop_run F rfl one (by simpa using hl)]
  simp
/-- .. without tests, one name -/
theorem mLc_map {i : Nat} {mi : M (List D)} {me : M D} (f : D → D) {c c1 : Ctx} {xs : List D} (hi : mi c = .ok xs c1) (hlt : i < c1.length)
    (one : ∀ x ∈ xs, ∃ c4, me ((c1.set i .no).set i (.d x)) = .ok (f x) c4 ∧ c4.set i .no = c1.set i .no) (hl : xs.length ≤ 16777216) : mLc [i] mi (gN i) (mp true) me c = .ok (.lst (xs.map f)) (c1.set i .no) := by
  rw [← List.filterMap_eq_map]
  refine mLc_run (vs := [i]) (fun x => some (f x)) hi (fun x hx => ?_) hl
  obtain ⟨c4, e, w⟩ := one x hx
  refine ⟨(c1.set i .no).set i (.d x), true, (c1.set i .no).set i (.d x), ?_, rfl, .inr ⟨rfl, f x, c4, e, w, rfl⟩⟩
  show putS i (.d x) (c1.set i .no) = _
  rw [putS_r, if_pos (by rw [List.length_set]; exact hlt)]

/-! ### loops over a list of one's own, run -/
theorem owLoop_run {i : Nat} {g : D → M Out} {b : M Out} {xs : List D} (St : Nat → Ctx → Prop) (hi : ∀ k c, St k c → c.getD i .no = .l (.lst xs))
    (hs : ∀ k x c, xs[k]? = some x → St k c → ∃ c1 c2, g x c = .ok .nx c1 ∧ (b c1 = .ok .nx c2 ∨ b c1 = .ok .ct c2) ∧ St (k + 1) c2) : ∀ (n k : Nat) (c : Ctx), k + n = xs.length + 1 → 1 ≤ n → St k c → ∃ c', owLoop i g b n k c = .ok .nx c' ∧ St xs.length c'
  | 0, k, c, hn, h1, h => by omega
  | n + 1, k, c, hn, h1, h => by
    rw [owLoop]
    have e := hi k c h
    dsimp only
    rw [e]
    dsimp only
    cases ex : xs[k]? with
    | none =>
      have hk : xs.length ≤ k := List.getElem?_eq_none_iff.mp ex
      have : k = xs.length := by omega
      subst this
      exact ⟨c, rfl, h⟩
    | some x =>
      obtain ⟨hk, _⟩ := List.getElem?_eq_some_iff.mp ex
      obtain ⟨c1, c2, e1, e2, h2⟩ := hs k x c ex h
      obtain ⟨c3, e3, h3⟩ := owLoop_run St hi hs n (k + 1) c2 (by omega) (by omega) h2
      refine ⟨c3, ?_, h3⟩
      show mb (mq (g x)) _ c = _
      rw [mb_r, mq_r, e1, Rs.qt_ok, Rs.bnd_ok]
      show mb b _ c1 = _
      rw [mb_r]
      rcases e2 with e2 | e2
      · rw [e2, Rs.bnd_ok]; exact e3
      · rw [e2, Rs.bnd_ok]; exact e3
theorem mForOwn_run {i : Nat} {g : D → M Out} {b : M Out} {xs : List D} {c : Ctx} (hc : c.getD i .no = .o (.lst xs)) (St : Nat → Ctx → Prop) (h0 : St 0 (c.set i (.l (.lst xs)))) (hi : ∀ k c, St k c → c.getD i .no = .l (.lst xs))
    (hs : ∀ k x c, xs[k]? = some x → St k c → ∃ c1 c2, g x c = .ok .nx c1 ∧ (b c1 = .ok .nx c2 ∨ b c1 = .ok .ct c2) ∧ St (k + 1) c2) : ∃ c', mForOwn i g b c = .ok .nx (unl i c') ∧ St xs.length c' := by
  obtain ⟨c', e, h⟩ := owLoop_run St hi hs (xs.length + 1) 0 _ (by omega) (by omega) h0
  refine ⟨c', ?_, h⟩
  unfold mForOwn
  rw [hc]
  show unlR i (owLoop i g b (xs.length + 1) 0 (c.set i (.l (.lst xs)))) = _
  rw [e]
  rfl
theorem unl_l {i : Nat} {c : Ctx} {y : O} (h : c.getD i .no = .l y) : unl i c = c.set i (.o y) := by unfold unl; rw [h]

/-! ### letters -/
theorem map_inj' {α β : Type} {f : α → β} (hf : ∀ x y, f x = f y → x = y) : ∀ {a b : List α}, a.map f = b.map f → a = b
  | [], [], _ => rfl
  | [], _ :: _, h => by simp at h
  | _ :: _, [], h => by simp at h
  | x :: a, y :: b, h => by
    rw [List.map_cons, List.map_cons] at h
    injection h with h1 h2
    rw [hf _ _ h1, map_inj' hf h2]
def enL (l : List Int) : D := .nd .tup (l.map .int)
theorem enL_inj {a b : List Int} (h : enL a = enL b) : a = b := by
  unfold enL at h
  injection h with _ h
  exact map_inj' (fun x y e => by injection e) h
@[simp] theorem enL_eq {a b : List Int} : enL a = enL b ↔ a = b := ⟨enL_inj, fun h => by rw [h]⟩
theorem pls_ints (l : List Int) : D.pls (l.map .int) = true := by
  induction l with
  | nil => rfl
  | cons x l ih => simp [D.pls, D.pl, ih]
theorem dps_ints (l : List Int) : D.dps (l.map .int) = 0 := by
  induction l with
  | nil => rfl
  | cons x l ih => simp [D.dps, D.dp, ih]
theorem pl_enL (l : List Int) : D.pl (enL l) = true := by simp [enL, D.pl, Tag.pl, pls_ints]
theorem dp_enL (l : List Int) : D.dp (enL l) = 1 := by simp [enL, D.dp, dps_ints]
theorem pls_map {α : Type} {f : α → D} (l : List α) (h : ∀ x ∈ l, D.pl (f x) = true) : D.pls (l.map f) = true := by
  induction l with
  | nil => rfl
  | cons x l ih =>
    rw [List.map_cons, D.pls, h x List.mem_cons_self, ih fun y hy => h y (List.mem_cons_of_mem _ hy)]
    rfl
theorem dps_map {α : Type} {f : α → D} {n : Nat} (l : List α) (h : ∀ x ∈ l, D.dp (f x) ≤ n) : D.dps (l.map f) ≤ n := by
  induction l with
  | nil => exact Nat.zero_le _
  | cons x l ih =>
    rw [List.map_cons, D.dps]
    have h1 := h x List.mem_cons_self
    have h2 := ih fun y hy => h y (List.mem_cons_of_mem _ hy)
    omega
/-- a list of letters -/
def enLs (ls : List (List Int)) : D := .nd .lst (ls.map enL)
theorem pl_enLs (ls : List (List Int)) : D.pl (enLs ls) = true := by
  simp only [enLs, D.pl, Tag.pl, Bool.true_and]
  exact pls_map ls fun l _ => pl_enL l
theorem dp_enLs (ls : List (List Int)) : D.dp (enLs ls) ≤ 2 := by
  have := dps_map (f := enL) (n := 1) ls fun l _ => Nat.le_of_eq (dp_enL l)
  simp only [enLs, D.dp]
  omega
theorem enLs_inj {a b : List (List Int)} (h : enLs a = enLs b) : a = b := by
  unfold enLs at h
  injection h with _ h
  exact map_inj' (fun x y e => enL_inj e) h
@[simp] theorem enLs_eq {a b : List (List Int)} : enLs a = enLs b ↔ a = b := ⟨enLs_inj, fun h => by rw [h]⟩
/-- one more value, all ways -/
def grow1 (n : Nat) (l : List Int) : List (List Int) := (List.range n).map fun (v : Nat) => l ++ [(v : Int)]
def growL (fs : List (List Int)) (n : Nat) : List (List Int) := fs.flatMap (grow1 n)
def lettersC (cs : List Nat) : List (List Int) := cs.foldl growL [[]]
theorem growL_length (fs : List (List Int)) (n : Nat) : (growL fs n).length = fs.length * n := by
  unfold growL
  induction fs with
  | nil => simp
  | cons x fs ih => rw [List.flatMap_cons, List.length_append, ih, grow1, List.length_map, List.length_range, List.length_cons, Nat.add_mul]; omega
theorem growL_app (a b : List (List Int)) (n : Nat) : growL (a ++ b) n = growL a n ++ growL b n := by unfold growL; rw [List.flatMap_append]
end Sw
set_option maxRecDepth 100000
set_option maxHeartbeats 4000000
namespace Sw
open PySem PySem.Spec L2

/-! ### the law's own call -/
theorem rps_ints {K : PySem.W.Frag} {H : Hp} {Z : Zs} : ∀ ns : List Int, Rps K H Z (ns.map .int) (ns.map V.int)
  | [] => .nil
  | n :: ns => .cons (.int n) (rps_ints ns)
theorem law_ok {K : PySem.W.Frag} {F : Fd} (h : ∀ ns : List Int, ns.length ≤ 63 → ∃ c, F [.d (.nd .scr (ns.map .int))] = .ok (.d (.bl true)) c) (H : Hp) (a : Addr) (ns : List Int) (hl : ns.length ≤ 63) (ho : L2.Only H)
    (hs : SqL K H a (ns.map V.int)) : spF K 1 F [.ref a] H (fun v _ => v = .bl true) fun _ _ _ => False := by
  obtain ⟨c, e⟩ := h ns hl
  have sc : ScL K H a (ns.map V.int) := by
    rcases hs with (hs | ⟨o, hs⟩) | hs
    · rcases ho a with z | ⟨o, xs, z⟩
      · rw [hs] at z; cases z
      · rw [hs] at z; cases z
    · exact .inl ⟨o, hs⟩
    · exact .inr hs
  refine ⟨fun _ => (0 : Nat), [.d (.nd .scr (ns.map .int))], fun _ => False, fun _ => [], rfl, ⟨rfl, fun i => ?_, fun i j a h => by simp at h, fun i a h => by simp at h, fun a z => z.elim⟩, ?_⟩
  · cases i with
    | zero => exact ⟨.ref a, rfl, .scr sc (rps_ints ns), rfl⟩
    | succ i => exact rfl
  · rw [e]
    rintro v V' H' Z' Fs' σ' ⟨rv, _⟩ _ _ _
    cases rv
    rfl
theorem law_cx {P : Program} {w : World} {H : Hp} {s : Shared} {e : Value} {s' : Shared} (h : L2.CX P w [] H s (fun _ _ _ => False) e s') : False := by
  obtain ⟨_, _, _, _, _, _, _, _, _, _, _, _, z⟩ := h
  exact z.elim
theorem func_mk {K : PySem.W.Frag} {h : Heap} {mg : Str → Option Value} {x : Str} {st : Stmt} {ps : List Str} {f : Addr} {oc : Value} {od an : Option Addr} {osl : Array (Option Value)} {kV doc pm cdv ct : Value} (X : K.In h) (G : h.Ns mainGlobals mg) (a : PySem.W.nsIn K mainGlobals x = some (some (.ref f)))
    (l : K.lookup f = some ⟨oc, od, .func (PySem.W.fnOf x x (defArgs st) (defBody st) (defScope st) .none kV doc pm an cdv ct), osl⟩) (c : PySem.W.codeIn K cdv x = true) (k : PySem.W.keepIn K (.ref f) = true)
    (hb : ∀ (kV doc pm : Value) (an : Option Addr) (cdv ct : Value) (us : List Value), us.length = ps.length → bindArgs (PySem.W.fnOf x x (defArgs st) (defBody st) (defScope st) .none kV doc pm an cdv ct) ⟨us, []⟩ = pure (ps.zip us)) : FunC K mg x st ps :=
  ⟨f, _, fun_mk l c k, PySem.W.mg_of X G a, hb kV doc pm an cdv ct⟩
theorem cal_end {P : Program} {w : World} {K : PySem.W.Frag} {mg : Str → Option Value} {k : Nat} {x : Str} {ps : List Str} {F : Fd} {f : Addr} (C : ∀ base : Heap, Cal P w K mg base k x ps F) (h0 : Heap) (h : mg x = some (.ref f)) :
    ∃ fd, BindA fd ps ∧ ∀ base : Heap, FnD P w K mg base k f fd ps F := by
  obtain ⟨g, fd, G, hg, kp, b, l⟩ := (C h0).ex
  rw [h] at hg
  cases hg
  refine ⟨fd, b, fun base => ?_⟩
  obtain ⟨g2, fd2, G2, hg2, _, _, l2⟩ := (C base).ex
  rw [h] at hg2
  cases hg2
  rw [l.uniq l2]
  exact G2
end Sw
set_option maxRecDepth 100000
set_option maxHeartbeats 4000000
namespace Sw
open PySem PySem.Spec L2

/-! ### in, not in -/
def rInN (K : PySem.W.Frag) (f : Bool → Bool) : R2 := fun x y H Q => ∃ d ds, Dp K H x d ∧ (Dp K H y (.list ds) ∨ Dp K H y (.tuple ds)) ∧ d.canLay0 = true ∧ PyData.canLayAll0 ds = true ∧ min (PyData.depthAll ds) d.depth ≤ 180 ∧ Q (.bl (f (ds.any fun z => PyData.eqv z d))) H
theorem room181 {A : Around} {k n : Nat} (hr : Room k A) (h : n ≤ 180) : A.units + 1 + n < cLine := by have := hr.un; omega
section
variable {X : Cx} {k : Nat}
theorem op_hIn (hr : Room k X.A) : OpR X (compareOp .In) (rInN X.K id) := by
  intro pins s σ H x y v u Q I rx ry h
  obtain ⟨d, ds, hd, he, sd, se, dp, q⟩ := h
  obtain ⟨as, r1⟩ := Dp.reads I d x v hd rx
  rcases he with he | he
  · obtain ⟨bs, r2⟩ := Dp.reads I (.list ds) y u he ry
    exact SeqAt.in_list_reads r2 r1 se sd (room181 hr dp) ⟨.bl _, H, I, rfl, q⟩
  · obtain ⟨bs, r2⟩ := Dp.reads I (.tuple ds) y u he ry
    exact SeqAt.in_tuple_reads r2 r1 se sd (room181 hr dp) ⟨.bl _, H, I, rfl, q⟩
theorem op_hNotIn (hr : Room k X.A) : OpR X (compareOp .NotIn) (rInN X.K not) := by
  intro pins s σ H x y v u Q I rx ry h
  obtain ⟨d, ds, hd, he, sd, se, dp, q⟩ := h
  obtain ⟨as, r1⟩ := Dp.reads I d x v hd rx
  rcases he with he | he
  · obtain ⟨bs, r2⟩ := Dp.reads I (.list ds) y u he ry
    exact SeqAt.notIn_list_reads r2 r1 se sd (room181 hr dp) ⟨.bl _, H, I, rfl, q⟩
  · obtain ⟨bs, r2⟩ := Dp.reads I (.tuple ds) y u he ry
    exact SeqAt.notIn_tuple_reads r2 r1 se sd (room181 hr dp) ⟨.bl _, H, I, rfl, q⟩
end
def itemsOf : PyData → Option (List PyData)
  | .list ds => some ds
  | .tuple ds => some ds
  | _ => none
def gInN (f : Bool → Bool) (x y : D) : Option D := match itemsOf y.py with
  | none => none
  | some ds => if x.py.canLay0 = true ∧ PyData.canLayAll0 ds = true ∧ min (PyData.depthAll ds) x.py.depth ≤ 180 then some (.bl (f (ds.any fun z => PyData.eqv z x.py))) else none
abbrev hIn := gInN id
abbrev hNotIn := gInN not
theorem dop_inN (K : PySem.W.Frag) (f : Bool → Bool) : DOp K (rInN K f) (gInN f) := by
  intro H Z x y dx dy dz rx ry zl e Q q
  unfold gInN at e
  cases ei : itemsOf dy.py with
  | none => rw [ei] at e; cases e
  | some ds =>
    rw [ei] at e
    simp only at e
    split at e
    · rename_i h
      cases e
      have hy : Dp K H y (.list ds) ∨ Dp K H y (.tuple ds) := by
        have pl : dy.plain = true := by
          cases dy with
          | nd t ys => cases t <;> first | exact D.plains_lay (by cases ei; exact h.2.1) | cases ei
          | _ => cases ei
        have := ry.dpv pl
        cases ep : dy.py with
        | list es => rw [ep] at ei this; cases ei; exact .inl this
        | tuple es => rw [ep] at ei this; cases ei; exact .inr this
        | _ => rw [ep] at ei; cases ei
      exact ⟨_, _, rx.dpv (D.plain_lay h.1), hy, h.1, h.2.1, h.2.2, q _ H Z .refl (.bl _)⟩
    · cases e
theorem dop_hIn (K : PySem.W.Frag) : DOp K (rInN K id) hIn := dop_inN K id
theorem dop_hNotIn (K : PySem.W.Frag) : DOp K (rInN K not) hNotIn := dop_inN K not
theorem gInN_pl {f : Bool → Bool} {x : D} {ys : List D} {t : Tag} (ht : t = .tup ∨ t = .lst) (hx : D.pl x = true) (hy : D.pls ys = true) (hn : min (D.dps ys) x.dp ≤ 180) : gInN f x (.nd t ys) = some (.bl (f (decide (x ∈ ys)))) := by
  obtain ⟨a, b⟩ := D.pl_lay x hx
  obtain ⟨c, d⟩ := D.pls_lay ys hy
  have ei : itemsOf (D.nd t ys).py = some (D.pys ys) := by rcases ht with rfl | rfl <;> rfl
  unfold gInN
  rw [ei]
  simp only
  rw [if_pos ⟨a, c, by omega⟩]
  congr 3
  clear hn c d ei
  induction ys with
  | nil => simp [D.pys]
  | cons y ys ih =>
    rw [D.pls, Bool.and_eq_true] at hy
    rw [D.pys, List.any_cons, D.eqv_pl y x hy.1 hx, ih hy.2]
    by_cases h1 : y = x
    · subst h1; simp
    · have : x ≠ y := fun e => h1 e.symm
      simp [h1, this]

/-! ### sum, all, any of a list -/
def intsD : List D → Option (List Int)
  | [] => some []
  | .int i :: xs => (intsD xs).map (i :: ·)
  | _ => none
def boolsD : List D → Option (List Bool)
  | [] => some []
  | .bl i :: xs => (boolsD xs).map (i :: ·)
  | _ => none
@[simp] theorem intsD_map (l : List Int) : intsD (l.map .int) = some l := by
  induction l with
  | nil => rfl
  | cons x l ih => rw [List.map_cons, intsD, ih]; rfl
@[simp] theorem boolsD_map (l : List Bool) : boolsD (l.map .bl) = some l := by
  induction l with
  | nil => rfl
  | cons x l ih => rw [List.map_cons, boolsD, ih]; rfl
theorem intsD_eq : ∀ {xs : List D} {l : List Int}, intsD xs = some l → xs = l.map .int
  | [], l, h => by cases h; rfl
  | .int i :: xs, l, h => by
    obtain ⟨m, e, rfl⟩ := Option.map_eq_some_iff.mp (show (intsD xs).map (i :: ·) = some l from h)
    rw [intsD_eq e]
    rfl
  | .non :: _, _, h | .bl _ :: _, _, h | .str _ :: _, _, h | .nd _ _ :: _, _, h => by cases h
theorem boolsD_eq : ∀ {xs : List D} {l : List Bool}, boolsD xs = some l → xs = l.map .bl
  | [], l, h => by cases h; rfl
  | .bl i :: xs, l, h => by
    obtain ⟨m, e, rfl⟩ := Option.map_eq_some_iff.mp (show (boolsD xs).map (i :: ·) = some l from h)
    rw [boolsD_eq e]
    rfl
  | .non :: _, _, h | .int _ :: _, _, h | .str _ :: _, _, h | .nd _ _ :: _, _, h => by cases h
theorem rps_ints_eq {K : PySem.W.Frag} {H : Hp} {Z : Zs} : ∀ {l : List Int} {vs : List V}, Rps K H Z (l.map .int) vs → vs = l.map V.int
  | [], vs, h => by cases h; rfl
  | x :: l, vs, h => by
    cases h with
    | cons a t => cases a; rw [rps_ints_eq t]; rfl
theorem rps_bools_eq {K : PySem.W.Frag} {H : Hp} {Z : Zs} : ∀ {l : List Bool} {vs : List V}, Rps K H Z (l.map .bl) vs → vs = l.map V.bl
  | [], vs, h => by cases h; rfl
  | x :: l, vs, h => by
    cases h with
    | cons a t => cases a; rw [rps_bools_eq t]; rfl
def gSum : List D → Option D
  | [.nd .lst xs] => (intsD xs).map fun l => .int l.sum
  | _ => none
def gAll : List D → Option D
  | [.nd .lst xs] => (boolsD xs).map fun l => .bl (l.all id)
  | _ => none
def gAny : List D → Option D
  | [.nd .lst xs] => (boolsD xs).map fun l => .bl (l.any id)
  | _ => none
@[simp] theorem gSum_l (l : List Int) : gSum [.nd .lst (l.map .int)] = some (.int l.sum) := by
  show (intsD _).map _ = _
  rw [intsD_map]
  rfl
@[simp] theorem gAll_l (l : List Bool) : gAll [.nd .lst (l.map .bl)] = some (.bl (l.all id)) := by
  show (boolsD _).map _ = _
  rw [boolsD_map]
  rfl
@[simp] theorem gAny_l (l : List Bool) : gAny [.nd .lst (l.map .bl)] = some (.bl (l.any id)) := by
  show (boolsD _).map _ = _
  rw [boolsD_map]
  rfl
section
variable {K : PySem.W.Frag}
theorem dcl_sum : DCl K (rSum K) gSum := by
  intro H Z vs xs dz rs zl e Q q
  match xs, e with
  | [.nd .lst ys], e =>
    obtain ⟨l, e1, rfl⟩ := Option.map_eq_some_iff.mp (show (intsD ys).map _ = some dz from e)
    obtain rfl := intsD_eq e1
    obtain ⟨v, rfl, r⟩ := pair1 rs
    obtain ⟨a, us, rfl, h, r⟩ := r.sq (.inl rfl)
    obtain rfl := rps_ints_eq r
    exact ⟨a, l, rfl, h, q _ H Z .refl (.int _)⟩
theorem dcl_all : DCl K (rAll K) gAll := by
  intro H Z vs xs dz rs zl e Q q
  match xs, e with
  | [.nd .lst ys], e =>
    obtain ⟨l, e1, rfl⟩ := Option.map_eq_some_iff.mp (show (boolsD ys).map _ = some dz from e)
    obtain rfl := boolsD_eq e1
    obtain ⟨v, rfl, r⟩ := pair1 rs
    obtain ⟨a, us, rfl, h, r⟩ := r.sq (.inl rfl)
    obtain rfl := rps_bools_eq r
    exact ⟨a, l, rfl, h, q _ H Z .refl (.bl _)⟩
theorem dcl_any : DCl K (rAny K) gAny := by
  intro H Z vs xs dz rs zl e Q q
  match xs, e with
  | [.nd .lst ys], e =>
    obtain ⟨l, e1, rfl⟩ := Option.map_eq_some_iff.mp (show (boolsD ys).map _ = some dz from e)
    obtain rfl := boolsD_eq e1
    obtain ⟨v, rfl, r⟩ := pair1 rs
    obtain ⟨a, us, rfl, h, r⟩ := r.sq (.inl rfl)
    obtain rfl := rps_bools_eq r
    exact ⟨a, l, rfl, h, q _ H Z .refl (.bl _)⟩
end

/-! ### sorted(xs), data of any depth -/
def leD (x y : D) : Bool := !PySem.W.dataLt y.py x.py
theorem plains_mem : ∀ {xs : List D}, D.plains xs = true → ∀ x ∈ xs, D.plain x = true
  | [], _, x, hx => by simp at hx
  | y :: ys, h, x, hx => by
    rw [D.plains, Bool.and_eq_true] at h
    rcases List.mem_cons.mp hx with rfl | hx
    · exact h.1
    · exact plains_mem h.2 x hx
def sortOk (xs : List D) : Bool := D.plains xs && (xs.all fun x => xs.all fun y => PySem.W.alike x.py y.py) && ((xs.all fun x => match x with | .nd .tup (_ :: _) => true | _ => false) || (xs.all fun x => !isNon x && !isTup x)) && (xs.all fun x => decide (x.py.depth ≤ 100)) && decide (xs.length ≤ 16777216)
def gSorted : List D → Option O
  | [.nd .lst xs] => if sortOk xs = true then some (.lst (xs.mergeSort leD)) else none
  | _ => none
theorem py_none {x : D} (h : isNon x = false) : x.py ≠ .none := by
  cases x with
  | non => cases h
  | nd t xs => cases t <;> (intro z; cases z)
  | _ => intro z; cases z
theorem py_tup {x : D} (h : isTup x = false) : ∀ xs, x.py ≠ .tuple xs := by
  cases x with
  | nd t xs => cases t <;> first | (cases h; done) | (intro ys z; cases z)
  | _ => intro ys z; cases z
def rSortedD (K : PySem.W.Frag) : List V → Hp → VK → Prop := fun vs H Q => ∃ (a : Addr) (bs : List (V × PyData)), vs = [.ref a] ∧ SqL K H a (bs.map (·.1)) ∧ (∀ b ∈ bs, Dp K H b.1 b.2) ∧ PySem.W.AllAlike (bs.map (·.2)) ∧ PySem.W.Sortable (bs.map (·.2)) ∧ bs.length ≤ sizeLine ∧ (∀ b ∈ bs, b.2.depth ≤ 100) ∧
  ∀ p, H p = none → Q (.ref p) (upd H p (.lst ((bs.mergeSort (PySem.W.dataLe false (·.2))).map (·.1))))
theorem each_of_vals : ∀ {bs : List (V × PyData)} {us : List Value}, Vals (bs.map (·.1)) us → PySem.W.EachIs (fun u (b : V × PyData) => RelV b.1 u) us bs
  | [], _, .nil => .nil
  | b :: bs, _, .cons r t => .cons r (each_of_vals t)
theorem vals_of_each : ∀ {bs : List (V × PyData)} {us : List Value}, PySem.W.EachIs (fun u (b : V × PyData) => RelV b.1 u) us bs → Vals (bs.map (·.1)) us
  | _, _, .nil => .nil
  | _, _, .cons r t => .cons r (vals_of_each t)
theorem each_reads {X : Cx} {pins : List (Addr × Obj)} {σ : L2.St} {H : Hp} {s : Shared} (I : Inv X pins σ H s) : ∀ {bs : List (V × PyData)} {us : List Value}, (∀ b ∈ bs, Dp X.K H b.1 b.2) → PySem.W.EachIs (fun u (b : V × PyData) => RelV b.1 u) us bs → PySem.W.EachIs (fun u (b : V × PyData) => ∃ as, Reads s.heap u b.2 as) us bs
  | _, _, _, .nil => .nil
  | _, _, h, .cons r t => .cons (Dp.reads I _ _ _ (h _ List.mem_cons_self) r) (each_reads I (fun b hb => h b (List.mem_cons_of_mem _ hb)) t)
theorem cr_sortedD {X : Cx} {k : Nat} (hr : Room k X.A) : CallR X (.builtin "sorted") (rSortedD X.K) := by
  intro pins s σ H vs us Q I r h
  obtain ⟨a, bs, rfl, hs, hd, al, so, hl, dp, q⟩ := h
  obtain ⟨its, rv, hil, _⟩ := I.list hs
  rw [Vals.ref1 r]
  have e := each_of_vals rv
  refine PySem.W.sorted_data (enc := fun b : V × PyData => b.2) hil.isList e (each_reads I hd e) al so hl (fun b hb => by have := dp b hb; have := hr.un; show X.A.units + 2 + b.2.depth < cLine; omega) fun out ho eo => ?_
  obtain ⟨ep, he'⟩ := PyProof.Rows.sortedAll_at s.heap its out.toArray
  have hv := vals_of_each eo
  have hlen : ((bs.mergeSort (PySem.W.dataLe false (·.2))).map (·.1)).length ≤ sizeLine := by rw [List.length_map, List.length_mergeSort]; exact hl
  exact ⟨.ref _, upd H (s.heap.objs.size + 1) (.lst ((bs.mergeSort (PySem.W.dataLe false (·.2))).map (·.1))), I.laid (t' := s.toks) (fun _ _ => PyProof.Rows.sortedAll_old) (Nat.le_succ _) ⟨hlen, out, ep, hv, he'⟩, rfl, q _ (I.hok.fresh (Nat.le_succ _))⟩
theorem rps_zip {K : PySem.W.Frag} {H : Hp} {Z : Zs} : ∀ {xs : List D} {vs : List V}, Rps K H Z xs vs → ∀ p ∈ vs.zip xs, Rp K H Z p.2 p.1
  | _, _, .nil, p, h => by simp at h
  | _, _, .cons r t, p, h => by
    rcases List.mem_cons.mp h with rfl | h
    · exact r
    · exact rps_zip t p h
theorem rps_of_all {K : PySem.W.Frag} {H : Hp} {Z : Zs} : ∀ {ps : List (V × D)}, (∀ p ∈ ps, Rp K H Z p.2 p.1) → Rps K H Z (ps.map (·.2)) (ps.map (·.1))
  | [], _ => .nil
  | p :: ps, h => .cons (h p List.mem_cons_self) (rps_of_all fun q hq => h q (List.mem_cons_of_mem _ hq))
theorem ocl_sorted {K : PySem.W.Frag} : OCl K (rSortedD K) gSorted := by
  intro H Z vs xs z rs zl e Q q
  match xs, e with
  | [.nd .lst ys], e =>
    have e : (if sortOk ys = true then some (O.lst (ys.mergeSort leD)) else none) = some z := e
    split at e
    · rename_i hok
      cases e
      obtain ⟨v, rfl, r⟩ := pair1 rs
      obtain ⟨a, us, rfl, h, r⟩ := r.sq (.inl rfl)
      have hlen := r.length
      unfold sortOk at hok
      simp only [Bool.and_eq_true, Bool.or_eq_true, List.all_eq_true, decide_eq_true_eq] at hok
      obtain ⟨⟨⟨⟨h0, h1⟩, h2⟩, h3⟩, h4⟩ := hok
      -- pairs of a value and its deep value
      have z1 : (us.zip ys).map (·.1) = us := List.map_fst_zip (by omega)
      have z2 : (us.zip ys).map (·.2) = ys := List.map_snd_zip (by omega)
      have hp := rps_zip r
      have em : ((us.zip ys).map fun p => (p.1, p.2.py)).mergeSort (PySem.W.dataLe false (·.2)) = ((us.zip ys).mergeSort fun p p' => leD p.2 p'.2).map fun p => (p.1, p.2.py) := by
        rw [List.map_mergeSort (r := fun p p' : V × D => leD p.2 p'.2) (s := PySem.W.dataLe false (·.2)) (f := fun p : V × D => (p.1, p.2.py))]
        intro a _ b _
        rw [PySem.W.dataLe_eq]
        rfl
      have em2 : ((us.zip ys).mergeSort fun p p' => leD p.2 p'.2).map (·.2) = ys.mergeSort leD := by
        rw [List.map_mergeSort (s := leD), z2]
        intro a _ b _
        rfl
      refine ⟨a, (us.zip ys).map fun p => (p.1, p.2.py), rfl, by rw [List.map_map]; show SqL K H a ((us.zip ys).map (·.1)); rw [z1]; exact h, fun b hb => ?_, ?_, ?_, by rw [List.length_map, List.length_zip, sizeLine_big]; omega, fun b hb => ?_, fun p hpn => ?_⟩
      · obtain ⟨p, hpm, rfl⟩ := List.mem_map.mp hb
        exact (hp p hpm).dp (plains_mem h0 _ (by rw [← z2]; exact List.mem_map_of_mem hpm))
      · intro d hd d' hd'
        rw [List.map_map] at hd hd'
        obtain ⟨p, hpm, rfl⟩ := List.mem_map.mp hd
        obtain ⟨p', hpm', rfl⟩ := List.mem_map.mp hd'
        exact h1 p.2 (by rw [← z2]; exact List.mem_map_of_mem hpm) p'.2 (by rw [← z2]; exact List.mem_map_of_mem hpm')
      · rcases h2 with h2 | h2
        · refine .inl fun d hd => ?_
          rw [List.map_map] at hd
          obtain ⟨p, hpm, rfl⟩ := List.mem_map.mp hd
          have := h2 p.2 (by rw [← z2]; exact List.mem_map_of_mem hpm)
          show ∃ x r, p.2.py = .tuple (x :: r)
          cases e2 : p.2 with
          | nd t zs =>
            rw [e2] at this
            cases t <;> cases zs <;> first | (cases this; done) | exact ⟨_, _, rfl⟩
          | _ => rw [e2] at this; cases this
        · refine .inr fun d hd => ?_
          rw [List.map_map] at hd
          obtain ⟨p, hpm, rfl⟩ := List.mem_map.mp hd
          have := h2 p.2 (by rw [← z2]; exact List.mem_map_of_mem hpm)
          simp only [Bool.and_eq_true, Bool.not_eq_true'] at this
          exact ⟨py_none this.1, py_tup this.2⟩
      · obtain ⟨p, hpm, rfl⟩ := List.mem_map.mp hb
        exact h3 p.2 (by rw [← z2]; exact List.mem_map_of_mem hpm)
      · rw [em, List.map_map]
        have rr : Rps K H Z (ys.mergeSort leD) (((us.zip ys).mergeSort fun p p' => leD p.2 p'.2).map ((fun b : V × PyData => b.1) ∘ fun p => (p.1, p.2.py))) := by
          rw [← em2]
          exact rps_of_all (ps := (us.zip ys).mergeSort fun p p' => leD p.2 p'.2) fun p hpm => hp p (List.mem_mergeSort.mp hpm)
        obtain ⟨n, ro, f1, f2⟩ := own_new' zl hpn rr
        exact q _ _ _ _ n ro f1 f2
    · cases e

/-! ### the sorted list of what is there -/
theorem lt_tri : ∀ (a b : List Int), a < b ∨ a = b ∨ b < a
  | [], [] => .inr (.inl rfl)
  | [], _ :: _ => .inl (by simp)
  | _ :: _, [] => .inr (.inr (by simp))
  | x :: a, y :: b => by
    rw [List.cons_lt_cons_iff, List.cons_lt_cons_iff]
    rcases Int.lt_trichotomy x y with h | h | h
    · exact .inl (.inl h)
    · subst h
      rcases lt_tri a b with h | h | h
      · exact .inl (.inr ⟨rfl, h⟩)
      · exact .inr (.inl (by rw [h]))
      · exact .inr (.inr (.inr ⟨rfl, h⟩))
    · exact .inr (.inr (.inl h))
theorem sorted_ext : ∀ {a b : List (List Int)}, a.Pairwise (· < ·) → b.Pairwise (· < ·) → (∀ x, x ∈ a ↔ x ∈ b) → a = b
  | [], [], _, _, _ => rfl
  | [], y :: b, _, _, h => by have := (h y).mpr List.mem_cons_self; simp at this
  | x :: a, [], _, _, h => by have := (h x).mp List.mem_cons_self; simp at this
  | x :: a, y :: b, ha, hb, h => by
    rw [List.pairwise_cons] at ha hb
    have e : x = y := by
      rcases List.mem_cons.mp ((h x).mp List.mem_cons_self) with e | e
      · exact e
      · rcases List.mem_cons.mp ((h y).mpr List.mem_cons_self) with e2 | e2
        · exact e2.symm
        · exact absurd (List.lt_trans (ha.1 y e2) (hb.1 x e)) (List.lt_irrefl _)
    subst e
    congr 1
    refine sorted_ext ha.2 hb.2 fun z => ⟨fun hz => ?_, fun hz => ?_⟩
    · rcases List.mem_cons.mp ((h z).mp (List.mem_cons_of_mem _ hz)) with e | e
      · subst e; exact absurd (ha.1 z hz) (List.lt_irrefl _)
      · exact e
    · rcases List.mem_cons.mp ((h z).mpr (List.mem_cons_of_mem _ hz)) with e | e
      · subst e; exact absurd (hb.1 z hz) (List.lt_irrefl _)
      · exact e
def insU (x : List Int) : List (List Int) → List (List Int)
  | [] => [x]
  | y :: r => if x < y then x :: y :: r else if x = y then y :: r else y :: insU x r
/-- each once, in order -/
def sortU (ls : List (List Int)) : List (List Int) := ls.foldr insU []
theorem mem_insU {x z : List Int} : ∀ {l : List (List Int)}, z ∈ insU x l ↔ z = x ∨ z ∈ l
  | [] => by simp [insU]
  | y :: r => by
    unfold insU
    split
    · simp
    · split
      · rename_i h; subst h; simp
      · rw [List.mem_cons, mem_insU, List.mem_cons]
        constructor
        · rintro (h | h | h)
          · exact .inr (.inl h)
          · exact .inl h
          · exact .inr (.inr h)
        · rintro (h | h | h)
          · exact .inr (.inl h)
          · exact .inl h
          · exact .inr (.inr h)
theorem insU_lt {x : List Int} : ∀ {l : List (List Int)}, l.Pairwise (· < ·) → (insU x l).Pairwise (· < ·)
  | [], _ => List.pairwise_singleton _ _
  | y :: r, h => by
    unfold insU
    split
    · rename_i hx
      rw [List.pairwise_cons]
      refine ⟨fun z hz => ?_, h⟩
      rcases List.mem_cons.mp hz with rfl | hz
      · exact hx
      · exact List.lt_trans hx ((List.pairwise_cons.mp h).1 z hz)
    · split
      · exact h
      · rename_i h1 h2
        rw [List.pairwise_cons] at h ⊢
        refine ⟨fun z hz => ?_, insU_lt h.2⟩
        rcases mem_insU.mp hz with rfl | hz
        · rcases lt_tri y z with q | q | q
          · exact q
          · exact absurd q.symm h2
          · exact absurd q h1
        · exact h.1 z hz
theorem mem_sortU {z : List Int} : ∀ {l : List (List Int)}, z ∈ sortU l ↔ z ∈ l
  | [] => by simp [sortU]
  | x :: l => by
    show z ∈ insU x (sortU l) ↔ _
    rw [mem_insU, mem_sortU, List.mem_cons]
theorem sortU_lt : ∀ {l : List (List Int)}, (sortU l).Pairwise (· < ·)
  | [] => .nil
  | x :: l => insU_lt (sortU_lt (l := l))
theorem code_lex : ∀ {a b : List Int}, a.length = b.length → TS.Bd 64 a → TS.Bd 64 b → a < b → TS.code 64 a < TS.code 64 b
  | [], [], _, _, _, h => absurd h (List.lt_irrefl _)
  | [], _ :: _, h, _, _, _ => by simp at h
  | _ :: _, [], h, _, _, _ => by simp at h
  | x :: a, y :: b, hl, ha, hb, h => by
    rw [List.cons_lt_cons_iff] at h
    have hl2 : a.length = b.length := by simpa using hl
    rcases h with h | ⟨e, h⟩
    · exact TS.code_lt hl2 ha.tail hb.tail h
    · subst e
      have := code_lex hl2 ha.tail hb.tail h
      show x * 64 ^ a.length + TS.code 64 a < x * 64 ^ b.length + TS.code 64 b
      rw [hl2]
      omega
/-! ### sorted(set(xs)), tuples of ints -/
def tupsD : List D → Option (List (List Int))
  | [] => some []
  | .nd .tup ys :: xs => match intsD ys, tupsD xs with
    | some l, some ls => some (l :: ls)
    | _, _ => none
  | _ => none
theorem tupsD_map (ls : List (List Int)) : tupsD (ls.map enL) = some ls := by
  induction ls with
  | nil => rfl
  | cons l ls ih =>
    rw [List.map_cons]
    show (match intsD (l.map .int), tupsD (ls.map enL) with | some l, some ls => some (l :: ls) | _, _ => none) = _
    rw [intsD_map, ih]
theorem tupsD_eq : ∀ {xs : List D} {ls : List (List Int)}, tupsD xs = some ls → xs = ls.map enL
  | [], ls, h => by cases h; rfl
  | .nd .tup ys :: xs, ls, h => by
    have h : (match intsD ys, tupsD xs with | some l, some ls => some (l :: ls) | _, _ => none) = some ls := h
    cases e1 : intsD ys with
    | none => rw [e1] at h; cases h
    | some l =>
      cases e2 : tupsD xs with
      | none => rw [e1, e2] at h; cases h
      | some ms =>
        rw [e1, e2] at h
        cases h
        rw [tupsD_eq e2, intsD_eq e1]
        rfl
  | .non :: _, _, h | .bl _ :: _, _, h | .str _ :: _, _, h | .int _ :: _, _, h => by cases h
  | .nd .lst _ :: _, _, h | .nd .scr _ :: _, _, h | .nd .dic _ :: _, _, h | .nd (.ins _ _) _ :: _, _, h => by cases h
/-- few of one length, each value from 0 to 63 -/
def setOk (ls : List (List Int)) : Bool := decide (ls.length < 64) && match ls with
  | [] => true
  | l :: r => decide (1 ≤ l.length) && (l :: r).all fun m => decide (m.length = l.length) && m.all fun v => decide (0 ≤ v) && decide (v < 64)
def gSortSet (x : D) : Option O := match x with
  | .nd .lst xs => match tupsD xs with
    | some ls => if setOk ls = true then some (.lst ((sortU ls).map enL)) else none
    | none => none
  | _ => none
def oSortSet (me : M D) : M O := mb me fun x => ml (gSortSet x)
theorem rps_tups {K : PySem.W.Frag} {H : Hp} {Z : Zs} : ∀ {ls : List (List Int)} {vs : List V}, Rps K H Z (ls.map enL) vs → ∃ ks : List (Addr × List Int), vs = ks.map (fun p => V.ref p.1) ∧ ks.map (·.2) = ls ∧ ∀ p ∈ ks, SqT K H p.1 (p.2.map V.int)
  | [], _, h => by cases h; exact ⟨[], rfl, rfl, fun p hp => by simp at hp⟩
  | l :: ls, _, h => by
    cases h with
    | cons a t =>
      obtain ⟨ks, rfl, e2, h3⟩ := rps_tups t
      cases a with
      | @tup x vs xs hs r =>
        obtain rfl := rps_ints_eq r
        refine ⟨(x, l) :: ks, rfl, by rw [List.map_cons, e2], fun p hp => ?_⟩
        rcases List.mem_cons.mp hp with rfl | hp
        · exact hs
        · exact h3 p hp
theorem eo_sortSet {X : Cx} {W : WX} {e : Expr} {me : M D} {k : Nat} {p1 p2 pos pos2 : Pos} (hg : Gl X "sorted") (hm : X.mg "sorted" = none) (hg2 : Gl X "set") (hm2 : X.mg "set" = none) (hr : Room k X.A) (hc : X.calm = true) (he : ED X W e me)
    (hs1 : starEach [.Call (.Name "set" p2) [e] [] pos2] X.env = (false, eval (.Call (.Name "set" p2) [e] [] pos2) X.env) :: starEach [] X.env := by rfl) (hs2 : starEach [e] X.env = (false, eval e X.env) :: starEach [] X.env := by rfl)
    (hpl : (backTo pos (starEach [] X.env)).any (·.1) = false := by rfl) (hpl2 : (backTo pos2 (starEach [] X.env)).any (·.1) = false := by rfl) :
    EO X W (.Call (.Name "sorted" p1) [.Call (.Name "set" p2) [e] [] pos2] [] pos) (oSortSet me) := by
  refine ⟨peImp (pe_callB (cr_sortedT hc) hg hm (by decide +kernel) (pa_cons (pe_callTy (cr_setOfT hc (hu64 hr)) hg2 hm2 (by decide +kernel) (pa_cons he.pe pa_nil hs2) (by decide) (by decide) hs2 hpl2) pa_nil hs1) (by decide) (by decide) hs1 hpl) fun σ H Q q => ?_⟩
  obtain ⟨ln, c, Z, Fs, S, q⟩ := q
  refine ⟨ln, c, Z, Fs, S, q.bind.mono ?_⟩
  rintro x c1 H1 Z1 F1 ⟨S1, T1, h1⟩ v rv
  obtain ⟨z, ez, h2⟩ := h1.lift
  cases x with
  | nd t xs =>
    cases t with
    | lst =>
      have ez : (match tupsD xs with | some ls => if setOk ls = true then some (O.lst ((sortU ls).map enL)) else none | none => none) = some z := ez
      cases et : tupsD xs with
      | none => rw [et] at ez; cases ez
      | some ls =>
        rw [et] at ez
        simp only at ez
        split at ez
        · rename_i hok
          cases ez
          obtain rfl := tupsD_eq et
          cases rv with
          | @lst a vs _ hl hz r =>
            obtain ⟨ks, rfl, e2, h3⟩ := rps_tups r
            have hlen : ks.length = ls.length := by rw [← e2, List.length_map]
            unfold setOk at hok
            rw [Bool.and_eq_true, decide_eq_true_eq] at hok
            obtain ⟨hfew, hall⟩ := hok
            refine ⟨a, ks, rfl, .inl (.inl hl), h3, by omega, fun s L hs hsub hcov => ?_⟩
            -- the dimension
            obtain ⟨d, hd1, hd2⟩ : ∃ d, 1 ≤ d ∧ ∀ m ∈ ls, m.length = d ∧ TS.Bd 64 m := by
              cases ls with
              | nil => exact ⟨1, Nat.le_refl _, fun m hm => by simp at hm⟩
              | cons l r =>
                simp only [Bool.and_eq_true, decide_eq_true_eq, List.all_eq_true] at hall
                refine ⟨l.length, hall.1, fun m hm => ⟨(hall.2 m hm).1, fun v hv => (hall.2 m hm).2 v hv⟩⟩
            have hin : ∀ p ∈ L, p.2 ∈ ls := fun p hp => by rw [← e2]; exact List.mem_map_of_mem (hsub p hp)
            refine ⟨s, L, d, 64, rfl, upd_same, fun p hp => ?_, hd1, fun p hp => hd2 p.2 (hin p hp), fun L' o hperm hnd hf2 hpw ho => ?_⟩
            · have n1 := newTup (Z := Z1) hs (SetTO X.prog X.w s L)
              exact n1.ext.sqT (h3 p (hsub p hp))
            · have n1 := newTup (Z := Z1) hs (SetTO X.prog X.w s L)
              have S2 := S1.new n1
              have hmem : ∀ x, x ∈ L'.map (·.2) ↔ x ∈ ls := fun x => by
                rw [(hperm.map (·.2)).mem_iff]
                constructor
                · intro h
                  obtain ⟨p, hp, rfl⟩ := List.mem_map.mp h
                  exact hin p hp
                · intro h
                  rw [← e2] at h
                  obtain ⟨p, hp, rfl⟩ := List.mem_map.mp h
                  exact hcov p hp
              have hlt : (L'.map (·.2)).Pairwise (· < ·) := by
                rw [List.pairwise_map]
                have hnd2 : L'.Pairwise fun q r => q.2 ≠ r.2 := by
                  have := hnd
                  unfold List.Nodup at this
                  rw [List.pairwise_map] at this
                  exact this
                have hboth := hpw.and hnd2
                refine List.Pairwise.imp_of_mem (fun {q r} hq hr hqr => ?_) hboth
                have hq2 := hd2 q.2 ((hmem _).mp (List.mem_map_of_mem hq))
                have hr2 := hd2 r.2 ((hmem _).mp (List.mem_map_of_mem hr))
                rcases lt_tri q.2 r.2 with h | h | h
                · exact h
                · exact absurd h hqr.2
                · have := code_lex (by rw [hr2.1, hq2.1]) hr2.2 hq2.2 h
                  have := hqr.1
                  omega
              have es : L'.map (·.2) = sortU ls := sorted_ext hlt sortU_lt fun x => by rw [hmem, mem_sortU]
              have hsq : ∀ p ∈ L', SqT X.K (upd H1 s (SetTO X.prog X.w s L)) p.1 (p.2.map V.int) := fun p hp => n1.ext.sqT (h3 p (hsub p (hperm.mem_iff.mp hp)))
              have rr : Rps X.K (upd H1 s (SetTO X.prog X.w s L)) Z1 ((sortU ls).map enL) (L'.map fun q => V.ref q.1) := by
                rw [← es]
                have key : ∀ M : List (Addr × List Int), (∀ p ∈ M, SqT X.K (upd H1 s (SetTO X.prog X.w s L)) p.1 (p.2.map V.int)) → Rps X.K (upd H1 s (SetTO X.prog X.w s L)) Z1 ((M.map (·.2)).map enL) (M.map fun q => V.ref q.1) := by
                  intro M
                  induction M with
                  | nil => intro _; exact .nil
                  | cons p M ih => intro hM; exact .cons (.tup (hM p List.mem_cons_self) (rps_ints _)) (ih fun q hq => hM q (List.mem_cons_of_mem _ hq))
                exact key L' hsq
              obtain ⟨n2, ro, f1, f2⟩ := own_new' S2.zl ho rr
              refine h2 _ _ F1 (S2.new n2) (n1.stp.trans n2.stp) _ _ ro (fun b hb => ?_) (fun b hb i hi => ?_) f2
              · have := f1 b hb
                refine .inr (dead_of T1.live (dead_of (a := b) (fun _ h => live_of n1.same h) this))
              · obtain ⟨zs, e5⟩ := (S2.rep i).there b hi
                rw [f1 b hb] at e5; cases e5
        · cases ez
    | _ => cases ez
  | _ => cases ez
end Sw
set_option maxRecDepth 100000
set_option maxHeartbeats 4000000
namespace Sw
open PySem PySem.Spec PyProof.Rows L2

/-! ### what makes an exception -/
def tX (K : PySem.W.Frag) (W : WX) (m : M Ex) : L2.St → Hp → XK → Prop := fun σ H Q => ∃ ln c Z Fs, Sl K ln H Z c σ Fs ∧ Run K W m σ ln c H Z Fs fun e c' H' Z' Fs' => ∀ cls d, ErR K H' Z' e cls d → Q cls d H'
structure EX (X : Cx) (W : WX) (e : Expr) (m : M Ex) : Prop where
  pm : PMk X e (tX X.K W m)
theorem pmImp {X : Cx} {e : Expr} {t t' : L2.St → Hp → XK → Prop} (h : PMk X e t) (i : ∀ σ H Q, t' σ H Q → t σ H Q) : PMk X e t' := fun pins s σ H Q I q => h pins s σ H Q I (i σ H Q q)
/-- an exception as it stands, tracked by its one object -/
def xcO (a : Addr) (cls : Value) (d : Option Addr) : HO := .ext fun h => ∃ (oe : Obj) (vs : Array Value), h.get? a = some oe ∧ Zc cls d oe ∧ oe.data = .fields vs
theorem xcO_ok {P : Program} {w : World} {H : Hp} {h : Heap} {a : Addr} {cls : Value} {d : Option Addr} {oe : Obj} {vs : Array Value} (e : h.get? a = some oe) (z : Zc cls d oe) (f : oe.data = .fields vs) : ObjOk P w H h a (xcO a cls d) :=
  ⟨⟨oe, vs, e, z, f⟩, ⟨oe, e⟩, fun _ _ ⟨o, v, q, r⟩ k => ⟨o, v, k o q, r⟩⟩
theorem xcO_at {H : Hp} {a C : Addr} {d : Option Addr} (h : H a = some (xcO a (.ref C) d)) : XcAt H a C d := ⟨_, h, fun _ q => q⟩
def excD (e : Ex) : D := .nd (.exc e.c e.C (e.fs.map (·.1))) (e.fs.map (·.2))
/-- what an error is, once it is tracked -/
theorem ErR.rp {K : PySem.W.Frag} {H : Hp} {Z : Zs} {e : Ex} {cls : Value} {d : Option Addr} {a : Addr} (r : ErR K H Z e cls d) (na : H a = none) : New H Z (upd H a (xcO a cls d)) (zAdd Z a) ∧ Rp K (upd H a (xcO a cls d)) (zAdd Z a) (excD e) (.ref a) := by
  have n : New H Z (upd H a (xcO a cls d)) (zAdd Z a) := newLst na _
  refine ⟨n, ?_⟩
  obtain ⟨ec, ⟨ef, ed⟩ | ⟨da, vs, ed, zd, hd, e1, e2⟩⟩ := r
  · subst ec ed
    unfold excD
    rw [ef]
    exact .exc0 (xcO_at upd_same) (.inr rfl)
  · subst ec ed
    exact .exc1 (xcO_at upd_same) (.inr rfl) (.inl zd) (n.ext.zk _ _ zd hd) e1 rfl (e2.ext n.ext)

section
variable {X : Cx} {W : WX} {C : Addr} {x m : Str} {c : Str} {e : Expr} {es : List Expr} {j : Nat} {p p2 pos pos' : Pos} {ma : M (List D)} {me : M Ex}
theorem ex_own {bmB : List Value} {B newId initId : String} (F : ExcBaseFacts B newId initId bmB) (q : PySem.W.excIn X.K C bmB newId = true) (gC : X.mg x = some (.ref C)) (kC : PySem.W.keepIn X.K (.ref C) = true) (r : Raises X (.ref C)) (hg : Gl X x)
    (hdb : (x == ("__debug__" : Str)) = false := by decide) : EX X W (.Call (.Name x p) [.Constant (.str m) j p2] [] pos) (mp ⟨c, C, []⟩) := by
  refine ⟨pmImp (pmk_own F q gC kC r hg hdb) fun σ H Q h => ?_⟩
  obtain ⟨ln, c, Z, Fs, S, h⟩ := h
  exact h.pure S _ _ ⟨rfl, .inl ⟨rfl, rfl⟩⟩
def mMk (c : Str) (C : Addr) (fs : List Str) (ma : M (List D)) : M Ex := mb ma fun xs => mp ⟨c, C, (fs.zip xs).reverse⟩
/-- __init__ stores its arguments under their names -/
def spI (C : Addr) (fs : List Str) : Sp := fun vs H Q _ => ∃ a us, vs = .ref a :: us ∧ us.length = fs.length ∧ H a = some (exo a C none) ∧ ∀ dx, H dx = none → dx ≠ a → Q .non (upd (upd H dx (exd dx (fs.zip us).reverse)) a (exo a C (some dx)))
theorem ex_mk {fI : Addr} {k : Nat} {fd : FuncData} {ps fs : List Str} (T : OexC X.K C) (iC : PySem.W.findIn X.K (.ref C) "__init__" = some (some (.ref fI))) (tI : PySem.W.typeIn X.K (.ref fI) = some (.type "function"))
    (F1 : FnOk X.prog X.w X.K X.mg X.base (L2.CX X.prog X.w) k fI fd ps (spI C fs)) (hr : Room (k + 1) X.A) (hb : Binds X.K fd ps []) (hg : Gl X x) (hm : X.mg x = some (.ref C)) (ha : EA X W (e :: es) ma)
    (hma : ∀ c xs c', ma c = .ok xs c' → xs.length = fs.length) (hl : fs.length ≤ 1000) (hdb : (x == ("__debug__" : Str)) = false := by decide) (he : starEach (e :: es) X.env = (false, eval e X.env) :: starEach es X.env := by rfl) (hpl : (backTo pos (starEach es X.env)).any (·.1) = false := by rfl) :
    EX X W (.Call (.Name x p) (e :: es) [] pos) (mMk c C fs ma) := by
  refine ⟨pmImp (pmk_oex T iC tI F1 hr hb .nil passL hg hm ha.pa hdb he hpl) fun σ H Q h => ?_⟩
  obtain ⟨ln, c, Z, Fs, S, h⟩ := h
  refine ⟨ln, c, Z, Fs, S, ?_⟩
  unfold Run mMk mb at h
  unfold Run
  cases e1 : ma c with
  | stk => rw [e1] at h; exact h
  | er y c' => rw [e1] at h; exact h
  | ok xs c1 =>
    rw [e1] at h
    simp only at h
    intro H1 Z1 F1 S1 T1 vs rvs
    have lx := hma _ _ _ e1
    have lv : vs.length = fs.length := by rw [← rvs.length, lx]
    refine ⟨by omega, fun a ha => ⟨a, vs, by rw [List.append_nil], lv, upd_same, fun dx hdx hne => ⟨rfl, dx, _, upd_same, by rw [upd_ne hne, upd_same], by rw [upd_ne hne] at hdx; exact hdx, ?_⟩⟩⟩
    have hd1 : H1 dx = none := by rw [upd_ne hne] at hdx; exact hdx
    have eh : upd (L2.del (upd (upd (upd H1 a (exo a C none)) dx (exd dx (fs.zip vs).reverse)) a (exo a C (some dx))) a) dx (.xd (fs.zip vs).reverse) = upd H1 dx (.xd (fs.zip vs).reverse) := by
      funext b
      by_cases hb : b = dx
      · rw [hb, upd_same, upd_same]
      · rw [upd_ne hb, upd_ne hb]
        by_cases hb2 : b = a
        · rw [hb2, L2.del_same, ha]
        · rw [L2.del_ne hb2, upd_ne hb2, upd_ne hb, upd_ne hb2]
    rw [eh]
    have n : New H1 Z1 (upd H1 dx (.xd (fs.zip vs).reverse)) (zAdd Z1 dx) := newLst hd1 _
    refine h _ _ F1 (S1.new n) (T1.trans n.stp) _ _ ⟨rfl, .inr ⟨dx, _, rfl, .inr rfl, upd_same, ?_, ?_⟩⟩
    · rw [List.map_reverse, List.map_reverse, List.map_fst_zip (by omega), List.map_fst_zip (by omega)]
    · show Rps _ _ _ ((fs.zip xs).reverse.map (·.2)) ((fs.zip vs).reverse.map (·.2))
      rw [List.map_reverse, List.map_reverse, List.map_snd_zip (by omega), List.map_snd_zip (by omega)]
      exact (rvs.ext n.ext).reverse
def mRaise (m : M Ex) : M Out := fun c => match m c with
  | .stk => .stk
  | .ok e c' => .er e c'
  | .er e c' => .er e c'
theorem ss_raise (hc : X.calm = true) (tk : Takes X W) (he : EX X W e me) : SS X W (.Raise (some e) none pos) (mRaise me) := by
  refine ⟨psImp (ps_raise hc tk he.pm) fun E σ H q => ?_⟩
  obtain ⟨ln, c, Z, Fs, S, q⟩ := q
  refine ⟨ln, c, Z, Fs, S, ?_⟩
  unfold RunS mRaise at q
  unfold Run
  cases e1 : me c with
  | stk => rw [e1] at q; exact q
  | er y c' => rw [e1] at q; exact fun cls d H' Z' F' S' T r => q cls d σ H' Z' F' S' T r
  | ok y c' => rw [e1] at q; exact fun H' Z' F' S' T cls d r => q cls d σ H' Z' F' S' T r
/-- .. as a value -/
theorem pe_exc {t : L2.St → Hp → XK → Prop} (h : PMk X e t) : PE X e (fun σ H Q => t σ H fun cls d H1 => ∀ a, H1 a = none → Q (.ref a) (upd H1 a (xcO a cls d))) := by
  refine ⟨fun pins s σ H Q I q => ?_⟩
  refine wpAny_mono (h pins s σ H _ I q) (fun u s1 hu => ?_) fun _ _ z => z
  obtain ⟨a, oe, vs, sI, H1, cls, d, rfl, J, keep, new, there, hz, hd, _, na, os, ag, _, q1⟩ := hu
  exact ⟨.ref a, _, J.call' (ch := []) os (Un.laidN keep new na) (J.hok.laidN keep na (xcO_ok there hz hd)) ag (fun _ z => nomatch z), rfl, q1 a na⟩
def mExV (m : M Ex) : M D := mb m fun e => mp (excD e)
theorem ed_exc (he : EX X W e me) : ED X W e (mExV me) := by
  refine ⟨peImp (pe_exc he.pm) fun σ H Q q => ?_⟩
  obtain ⟨ln, c, Z, Fs, S, q⟩ := q
  refine ⟨ln, c, Z, Fs, S, q.bind.mono ?_⟩
  rintro y c1 H1 Z1 F1 ⟨S1, T1, h1⟩ cls d r a na
  obtain ⟨n, rp⟩ := r.rp na
  exact h1 _ _ F1 (S1.new n) n.stp _ rp
end

/-! ### __init__ -/
section
variable {P : Program} {w : World} {K : PySem.W.Frag} {mg : Str → Option Value} {base : Heap} {q f g : Str} {st : Stmt} {fI C : Addr} {fd : FuncData} {k : Nat} {N : List Str}
theorem init1_ok (F : Fun K "__init__" q st fI fd) (S : FnScope N ["self", f] (defScope st)) (T : OexC K C) (hno : PySem.W.findIn K (.ref C) f = some none) (hN : N.length = 2)
    (hps : ∀ (cdv : Value) (A : Around) (outer : List Env) (s : Shared) (H : Hp) (E : XK), PSs (cxOf (L2.CX P w) P w K mg base N q (defScope st) fI cdv A outer s H E) (defBody st) (tOst K f (tVar 0) (tVar 1))) : FnOk P w K mg base (L2.CX P w) (k + 1) fI fd ["self", f] (spI C [f]) := by
  refine F.okX S (fun vs H Q E h => ?_) fun cdv A outer s H vs Q E hr h => ⟨_, hps cdv A outer s H E, ?_⟩
  · obtain ⟨a, us, rfl, hl, _⟩ := h
    simpa using hl
  · obtain ⟨a, us, rfl, hl, ha, h⟩ := h
    match us, hl with
    | [v], _ =>
      have es : L2.start N [.ref a, v] = [some (.ref a), some v] := by unfold L2.start; simp [hN]
      rw [es]
      exact ⟨v, rfl, .ref a, rfl, a, C, rfl, T, hno, .inl ⟨ha, fun dx h1 h2 => h dx h1 h2⟩⟩
theorem init2_ok (F : Fun K "__init__" q st fI fd) (S : FnScope N ["self", f, g] (defScope st)) (T : OexC K C) (hno : PySem.W.findIn K (.ref C) f = some none) (hno2 : PySem.W.findIn K (.ref C) g = some none) (hN : N.length = 3)
    (hps : ∀ (cdv : Value) (A : Around) (outer : List Env) (s : Shared) (H : Hp) (E : XK), PSs (cxOf (L2.CX P w) P w K mg base N q (defScope st) fI cdv A outer s H E) (defBody st) (tSeq (tOst K f (tVar 0) (tVar 1)) (tOst K g (tVar 0) (tVar 2)))) : FnOk P w K mg base (L2.CX P w) (k + 1) fI fd ["self", f, g] (spI C [f, g]) := by
  refine F.okX S (fun vs H Q E h => ?_) fun cdv A outer s H vs Q E hr h => ⟨_, hps cdv A outer s H E, ?_⟩
  · obtain ⟨a, us, rfl, hl, _⟩ := h
    simpa using hl
  · obtain ⟨a, us, rfl, hl, ha, h⟩ := h
    match us, hl with
    | [v, u], _ =>
      have es : L2.start N [.ref a, v, u] = [some (.ref a), some v, some u] := by unfold L2.start; simp [hN]
      rw [es]
      refine ⟨v, rfl, .ref a, rfl, a, C, rfl, T, hno, .inl ⟨ha, fun dx h1 h2 => ?_⟩⟩
      refine ⟨u, rfl, .ref a, rfl, a, C, rfl, T, hno2, .inr ⟨dx, _, upd_same, by rw [upd_ne h2, upd_same], by show 1 ≤ 900; decide, ?_⟩⟩
      have eh : upd (upd (upd H dx (exd dx [(f, v)])) a (exo a C (some dx))) dx (exd dx [(g, u), (f, v)]) = upd (upd H dx (exd dx [(g, u), (f, v)])) a (exo a C (some dx)) := by
        funext b
        by_cases hb : b = a
        · rw [hb, upd_ne (Ne.symm h2), upd_same, upd_same]
        · by_cases hb2 : b = dx
          · rw [hb2, upd_same, upd_ne h2, upd_same]
          · rw [upd_ne hb2, upd_ne hb, upd_ne hb2, upd_ne hb, upd_ne hb2]
      rw [eh]
      exact h dx h1 h2
end
end Sw
set_option maxRecDepth 100000
set_option maxHeartbeats 4000000
namespace Sw
open PySem PySem.Spec PyProof.Rows L2

/-! ### try: .. except C as e: .., the exception being kept -/
/-- an object that wasn't tracked, and wasn't there at the entry, is tracked -/
theorem inv_track {X : Cx} {pins : List (Addr × Obj)} {σ : L2.St} {H : Hp} {s : Shared} {a : Addr} {o : HO} (I : Inv X pins σ H s) (na : H a = none) (n0 : ∀ b u, X.s_0.heap.get? b = some u → b ∉ X.ex → b ≠ a) (nL : a ≠ X.env.locals) (nC : ∀ x c, X.env.cells.lookup x = some c → c ≠ a) (nP : ∀ p ∈ X.pn ++ pins, p.1 ≠ a)
    (new : ObjOk X.prog X.w (upd H a o) s.heap a o) : Inv X pins σ (upd H a o) s where
  ok := I.ok
  os := I.os
  bare := I.bare
  base := {
    keep := I.base.keep
    slot := I.base.slot
    free := fun b u q n hx => (upd_ne (n0 b u q hx)).trans (I.base.free b u q n hx)
    there := I.base.there
    tups := fun b xs q => (upd_ne (ne_of_none (I.base.tups b xs q) na)).trans (I.base.tups b xs q)
    frzs := fun b u v q => (upd_ne (ne_of_none (I.base.frzs b u v q) na)).trans (I.base.frzs b u v q)
    tbls := fun b ps q => by
      obtain ⟨more, z⟩ := I.base.tbls b ps q
      exact ⟨more, (upd_ne (ne_of_none z na)).trans z⟩ }
  loc := I.loc
  cell := I.cell
  free := (upd_ne (Ne.symm nL)).trans I.free
  freeC := fun x c e => (upd_ne (nC x c e)).trans (I.freeC x c e)
  pin := fun p hp => by
    obtain ⟨z1, z2, z3⟩ := I.pin p hp
    exact ⟨z1, (upd_ne (nP p hp)).trans z2, z3⟩
  hok := fun b u e => by
    by_cases hb : b = a
    · subst hb
      rw [upd_same] at e
      cases e
      exact new
    · rw [upd_ne hb] at e
      exact (I.hok b u e).stay (fun _ _ _ q => q) (fun c q => (upd_ne (ne_of_none q na)).trans q) fun c xs q => (upd_ne (ne_of_none q na)).trans q
  len := I.len
/-- into an except suite, nothing pinned -/
theorem inv_suite {X : Cx} {pins : List (Addr × Obj)} {σ : L2.St} {H : Hp} {s : Shared} (I : Inv X pins σ H s) (a : Addr) : Inv (X.suite a (X.pn ++ pins)) [] σ H s where
  ok := I.ok.suite a _
  os := I.os
  bare := I.bare
  base := I.base
  loc := I.loc
  cell := I.cell
  free := I.free
  freeC := I.freeC
  pin := fun p hp => I.pin p (by rwa [List.append_nil] at hp)
  hok := I.hok
  len := I.len
/-- .. and out of it -/
theorem inv_unsuite {X : Cx} {pins : List (Addr × Obj)} {σ : L2.St} {H : Hp} {s : Shared} {a : Addr} (I : Inv (X.suite a (X.pn ++ pins)) [] σ H s) (ok : X.Ok) : Inv X pins σ H s where
  ok := ok
  os := I.os
  bare := I.bare
  base := I.base
  loc := I.loc
  cell := I.cell
  free := I.free
  freeC := I.freeC
  pin := fun p hp => I.pin p (by rw [List.append_nil]; exact hp)
  hok := I.hok
  len := I.len
/-- what the clause asks of an exception of the body: it is one of its own, and the suite is good with it in slot i, tracked -/
def wKeep (K : PySem.W.Frag) (c : Value) (i : Nat) (ts : TS) (D : Ends) : WX := fun cls d σ H => PySem.W.exmOne K cls c = some true ∧
  ∀ a, H a = none → ts { nx := fun σ' H' => D.nx (σ'.set i none) H', rt := fun _ _ => False, bk := fun _ _ => False, ct := fun _ _ => False } (σ.set i (some (.ref a))) (upd H a (xcO a cls d))
section
variable {X : Cx} {x n : Str} {c : Value} {i : Nat} {body suite : List Stmt} {b₀ : Stmt} {np pos pos' : Pos} {tb : WX → TS} {ts : TS}
theorem ps_try_keep (hs : X.stack = X.env :: X.outer) (hf : X.env.frame = some X.env.locals) (hN : X.N.Nodup) (hi : X.N[i]? = some n) (hln : X.env.kindOf n = some .local) (hc : Names X x c)
    (hb : ∀ (W : WX) (pn : List (Addr × Obj)) (xe : Value → Shared → Prop), Takes (X.tr pn xe) W → PassesOwn (model X.prog X.w) X.A X.env xe → PSs (X.tr pn xe) body (tb W))
    (hsu : ∀ (a : Addr) (pn : List (Addr × Obj)), PSs (X.suite a pn) (b₀ :: suite) ts) :
    PS X (.Try body [.ExceptHandler (some (.Name x np)) (some n) (b₀ :: suite) pos'] [] [] pos) (fun D σ H => tb (wKeep X.K c i ts D) D σ H) := by
  constructor
  intro pins s σ H D I h
  have hok := I.ok
  refine wpAny_Try_except (wpAny_mono ((hb _ (X.pn ++ pins) (fun e s1 => wpAny (model X.prog X.w) X.A (noteFrame e X.env)
    (fun _ s2 => wpAny (model X.prog X.w) X.A (setFlight e none) (fun _ s3 => wpAny (model X.prog X.w) X.A
      (handleBy e X.env [.ExceptHandler (some (.Name x np)) (some n) (b₀ :: suite) pos']) (SP X pins D) X.xe s3) X.xe s2) X.xe s1)
    (fun u s1 air => ?caught) PassesOwn.looking).run [] s σ H D (I.toTry _) h) (fun f s1 out => ?through) fun _ _ z => z)
  case through =>
    cases f with
    | next => exact out.elim fun σ1 ⟨H1, J, k⟩ => wpAny_execs_nil ⟨σ1, H1, J.ofTry hok, k⟩
    | brk => exact out.elim fun σ1 ⟨H1, J, k⟩ => ⟨σ1, H1, J.ofTry hok, k⟩
    | cont => exact out.elim fun σ1 ⟨H1, J, k⟩ => ⟨σ1, H1, J.ofTry hok, k⟩
    | ret u => exact out.elim fun v ⟨σ1, H1, J, r, k⟩ => ⟨v, σ1, H1, J.ofTry hok, r, k⟩
  case caught =>
    obtain ⟨a, B, sI, pins1, σ1, H1, cls, d, ea, Jt, ground, up, sky, na, eos, bare, hcls, good⟩ := air
    subst ea
    have J : Inv X pins σ1 H1 sI := Jt.ofTry hok
    have frm : X.A.frames = some (X.env :: X.outer) := hs ▸ hok.frames
    refine Sky.land (outer := X.outer) Zc.steady frm hf (by have q : Sky B X.stack a (Zc cls d) X.env.locals s1.heap := sky; rwa [hs] at q) fun h2 fly2 up2 => ?_
    obtain ⟨oe2, vs2, there2, zc2, dat2⟩ := fly2.there
    -- the exception stands apart from all that was there
    have nfrs : a ∉ frs X.stack := fun hm => by
      rw [hs] at hm
      obtain ⟨_, o', e', hnf⟩ := fly2.2.2.1.mem hm
      rw [there2] at e'
      cases e'
      exact hnf _ dat2
    have away : ∀ b u, sI.heap.get? b = some u → b ≠ a := fun b u e z => by
      subst z
      have q := ground b u e nfrs
      rw [fly2.2.1] at q
      cases q
    have J2 : Inv X pins σ1 H1 { s1 with heap := h2 } := J.landed ground fly2.1 (up.trans up2) eos bare
    refine wpAny_handleBy_cons (codeAny_handlers_test ?_) (fun z => nomatch z)
    have hit := PySem.W.exm_one (M := model X.prog X.w) J2.kIn (show PySem.W.Looks (model X.prog X.w) h2 (typeOf (.ref a)) cls from fun A' Q' E' s' k q => wpAny_typeOf_ref (k _ _ there2) (by rw [zc2.1]; exact q)) hcls
    have S2 := inv_suite J2 a
    have named : ∀ {Q : Value → Shared → Prop} {E : Value → Shared → Prop}, Q c { s1 with heap := h2 } → wpAny (model X.prog X.w) (X.A.mark (some (.ref a))) (eval (.Name x np) X.env) Q E { s1 with heap := h2 } := fun {Q E} q => by
      obtain ⟨hg, hd, hm | ⟨hm, hv, hq⟩⟩ := hc
      · exact ld_glob (X := X.suite a (X.pn ++ pins)) S2 hg hm q hd
      · exact ld_blt (X := X.suite a (X.pn ++ pins)) S2 hg hm hv q hq hd
    refine named (hit.here (codeAny_handlers_suite_as (HandSPX.lands_againZ fly2 fun h3 fly3 up3 => ?_)))
    obtain ⟨oe3, vs3, there3, zc3, dat3⟩ := fly3.there
    have J3 : Inv X pins σ1 H1 { s1 with heap := h3 } := J.landed ground fly3.1 ((up.trans up2).trans up3) eos bare
    have J4 : Inv X pins σ1 (upd H1 a (xcO a cls d)) { s1 with heap := h3 } := by
      refine inv_track J3 na (fun b u e hx => ?_) (fun z => ?_) (fun y c' e => ?_) (fun q hq => ?_) (xcO_ok there3 zc3 dat3)
      · obtain ⟨u', e'⟩ := J.base.there b u e hx
        exact away b u' e'
      · refine nfrs ?_
        rw [hs, z]
        exact List.mem_filterMap.mpr ⟨X.env, List.mem_cons_self, hf⟩
      · obtain ⟨_, _, e', _⟩ := J.cell y c' e
        exact away c' _ e'
      · exact away q.1 _ (J.pin q hq).1
    refine store_ok (X := X.suite a (X.pn ++ pins)) (v := .ref a) (inv_suite J4 a) hN hi (.inl hln) rfl (fun s4 S4 => ?_) (.inr hln)
    refine wpAny_mono ((hsu a (X.pn ++ pins)).run [] s4 _ _ _ S4 (good a na)) (fun f s5 out => ?_) fun _ _ z => z.elim
    cases f with
    | next => exact out.elim fun σ5 ⟨H5, S5, k⟩ => gone_ok (inv_unsuite S5 hok) hN hi hln fun s6 J6 => ⟨_, _, J6, k⟩
    | brk => exact out.elim fun _ ⟨_, _, k⟩ => k.elim
    | cont => exact out.elim fun _ ⟨_, _, k⟩ => k.elim
    | ret u => exact out.elim fun _ ⟨_, _, _, _, k⟩ => k.elim
end
/-- L: the classes that the clause takes, by their names; A: where they stand -/
def mTry (A : Str → Addr) (L : List Str) (i : Nat) (mb' ms : M Out) : M Out := fun c => match mb' c with
  | .stk => .stk
  | .ok o c' => .ok o c'
  | .er e c' => if e.c ∈ L ∧ e.C = A e.c ∧ i < c'.length then match ms (c'.set i (.d (excD e))) with
    | .ok .nx c2 => if i < c2.length then .ok .nx (c2.set i .no) else .stk
    | _ => .stk
  else .stk
section
variable {X : Cx} {W : WX} {x n : Str} {c : Value} {i : Nat} {body suite : List Stmt} {b₀ : Stmt} {np pos pos' : Pos} {mbd ms : M Out} {A : Str → Addr} {L : List Str}
theorem ss_try (hs : X.stack = X.env :: X.outer) (hf : X.env.frame = some X.env.locals) (hN : X.N.Nodup) (hi : X.N[i]? = some n) (hln : X.env.kindOf n = some .local) (hc : Names X x c) (hL : ∀ y ∈ L, PySem.W.exmOne X.K (.ref (A y)) c = some true)
    (hb : ∀ (W : WX) (pn : List (Addr × Obj)) (xe : Value → Shared → Prop), Takes (X.tr pn xe) W → PassesOwn (model X.prog X.w) X.A X.env xe → SSs (X.tr pn xe) W body mbd)
    (hsu : ∀ (a : Addr) (pn : List (Addr × Obj)), SSs (X.suite a pn) WF (b₀ :: suite) ms) :
    SS X W (.Try body [.ExceptHandler (some (.Name x np)) (some n) (b₀ :: suite) pos'] [] [] pos) (mTry A L i mbd ms) := by
  refine ⟨psImp (ps_try_keep (tb := fun W => tSt X.K W mbd) (ts := tSt X.K WF ms) hs hf hN hi hln hc (fun W pn xe tk ps => (hb W pn xe tk ps).ps) fun a pn => (hsu a pn).ps) fun E σ H q => ?_⟩
  obtain ⟨ln, c0, Z, Fs, S, q⟩ := q
  refine ⟨ln, c0, Z, Fs, S, ?_⟩
  unfold RunS mTry at q
  unfold RunS
  cases e1 : mbd c0 with
  | stk => rw [e1] at q; exact q
  | ok o c1 => rw [e1] at q; exact q
  | er y c1 =>
    rw [e1] at q
    simp only at q
    split at q
    case h_1 => exact q.elim
    case h_2 o c2 e2 =>
      split at e2
      case isFalse => cases e2
      rename_i hy
      intro cls d σ' H' Z' Fs' S' T' r
      refine ⟨by rw [r.1, hy.2.1]; exact hL _ hy.1, fun a na => ?_⟩
      obtain ⟨nw, rp⟩ := r.rp na
      refine ⟨ln, c1.set i (.d (excD y)), zAdd Z' a, upF Fs' i [], (S'.new nw).put hy.2.2 ⟨_, rfl, rp, rfl⟩ (fun a h => by simp at h) (fun a h => by simp at h), ?_⟩
      have T2 : Stp H Z (Ow Fs) (upd H' a (xcO a cls d)) (zAdd Z' a) (Ow (upF Fs' i [])) := (T'.trans nw.stp).trans (upF_less fun a h => by simp at h)
      unfold RunS
      cases e3 : ms (c1.set i (.d (excD y))) with
      | stk => rw [e3] at e2; cases e2
      | er _ _ => rw [e3] at e2; cases e2
      | ok o3 c3 =>
        rw [e3] at e2
        cases o3 with
        | nx =>
          simp only at e2
          split at e2
          case isFalse => cases e2
          rename_i hi3
          cases e2
          intro σ3 H3 Z3 F3 S3 T3
          exact q _ H3 Z3 (upF F3 i []) (S3.put (s := .no) (ov := none) hi3 rfl (fun a h => by simp at h) (fun a h => by simp at h)) ((T2.trans T3).trans (upF_less fun a h => by simp at h))
        | _ => cases e2
    case h_3 y2 c2 e2 =>
      split at e2
      · split at e2
        · split at e2 <;> cases e2
        · cases e2
      · cases e2
end
end Sw
set_option maxRecDepth 100000
set_option maxHeartbeats 4000000
namespace Sw
open PySem PySem.Spec PyProof.Rows L2

/-! ### an exception's fields -/
def gXf (A : Str → Addr) (L : List Str) (n : Str) : D → Option D
  | .nd (.exc c C fs) xs => if C = A c ∧ c ∈ L then (fs.zip xs).lookup n else none
  | _ => none
def mXf (A : Str → Addr) (L : List Str) (n : Str) (me : M D) : M D := mb me fun x => ml (gXf A L n x)
theorem rps_lookup {K : PySem.W.Frag} {H : Hp} {Z : Zs} {n : Str} {x : D} : ∀ {kv : List (Str × V)} {xs : List D}, Rps K H Z xs (kv.map (·.2)) → ((kv.map (·.1)).zip xs).lookup n = some x → ∃ v, kv.lookup n = some v ∧ Rp K H Z x v
  | [], xs, r, e => by cases r; cases e
  | (k, v) :: kv, x' :: xs, .cons r t, e => by
    simp only [List.map_cons, List.zip_cons_cons, List.lookup] at e ⊢
    cases hk : n == k with
    | true => rw [hk] at e; cases e; exact ⟨v, rfl, r⟩
    | false => rw [hk] at e; exact rps_lookup t e
section
variable {X : Cx} {W : WX} {e : Expr} {me : M D} {A : Str → Addr} {L : List Str} {n : Str} {pos : Pos}
theorem ed_xf (hT : ∀ c ∈ L, XfC X.K (A c) ∧ PySem.W.findIn X.K (.ref (A c)) n = some none) (he : ED X W e me) (hb : attributeBase e n X.env (eval e X.env) = eval e X.env := by rfl) : ED X W (.Attribute e n pos) (mXf A L n me) := by
  refine ⟨⟨fun pins s σ H Q I q => ?_⟩⟩
  obtain ⟨ln, c0, Z, Fs, S, q⟩ := q
  refine attr_of hb (thn (he.pe.run pins s σ H (fun v H1 => ∃ a C d kv u, v = .ref a ∧ XcAt H1 a C (some d) ∧ XfC X.K C ∧ PySem.W.findIn X.K (.ref C) n = some none ∧ H1 d = some (.xd kv) ∧ kv.lookup n = some u ∧ Q u H1) I ⟨ln, c0, Z, Fs, S, q.bind.mono ?_⟩) fun w s1 hh => ?_)
  · rintro x c1 H1 Z1 F1 ⟨S1, T1, h1⟩ v rv
    obtain ⟨y, ey, h2⟩ := h1.lift
    unfold gXf at ey
    split at ey
    · split at ey
      · rename_i hc
        obtain ⟨t1, t2⟩ := hT _ hc.2
        rw [← hc.1] at t1 t2
        cases rv with
        | exc0 _ _ => cases ey
        | exc1 h z zd hd e1 e2 r =>
          subst e1 e2
          obtain ⟨u, hu, ru⟩ := rps_lookup r ey
          exact ⟨_, _, _, _, u, rfl, h, t1, t2, hd, hu, h2 H1 Z1 F1 S1 .refl u ru⟩
      · cases ey
    · cases ey
  · obtain ⟨v, H1, I1, r1, a, C, d, kv, u, rfl, ⟨φ, hx, hφ⟩, t1, t2, hd, hl, q1⟩ := hh
    cases (show w = Value.ref a from r1)
    have ok : ObjOk X.prog X.w H1 s1.heap a (.ext φ) := I1.hok a _ hx
    obtain ⟨oe, vs, there, zc, dat⟩ := hφ _ ok.1
    obtain ⟨mA, ns, rel⟩ := (show ObjOk X.prog X.w H1 s1.heap d (.xd kv) from I1.hok d _ hd)
    obtain ⟨od, ho, hl2⟩ := lookIn_ns ns
    obtain ⟨w2, hw, rw2⟩ := RelO.some_of (v := u) (o := mA n) (by rw [← hl]; exact rel n)
    have at' : PySem.W.InstAt s1.heap a oe C (some od) := ⟨there, zc.1, by unfold PySem.W.notCls; rw [dat] <;> rfl, by rw [zc.2]; exact ho⟩
    exact HandSPX.exc_get I1.kIn at' t1.ga t1.gg t1.exC (PySem.W.findObj_own t1.hdC t2 rfl (by rw [hl2, hw])) (handed_of rw2) ⟨u, H1, I1.tok _, rw2, q1⟩
end

/-! ### isinstance of an exception -/
structure KFX (K : PySem.W.Frag) (C : Addr) : Prop where
  cl : (PySem.W.clsIn K C).isSome = true
  ga : PySem.W.findIn K (.ref C) "__getattribute__" = some (some (.builtin "BaseException.__getattribute__"))
  gg : PySem.W.findIn K (.ref C) "__getattr__" = some none
  sb : PySem.W.subIn K (.ref C) (.type "BaseException") = some true
  ha : PySem.W.findIn K (.ref C) "__class__" = some (some (.builtin "object.__class__"))
  hn : PySem.W.specialIn K (.builtin "object.__class__") "__get__" = some (some (.builtin "getset_descriptor.__get__"))
  tk : PySem.W.takesIn K (.builtin "object.__class__") = some true
  hm : PySem.W.mroIn K C (.type "object") = some true
/-- an exception at a -/
def XcDt (H : Hp) (a C : Addr) : Prop := ∃ d, XcAt H a C d ∧ ∀ dd, d = some dd → ∃ kv, H dd = some (.xd kv)
def rIsX (K : PySem.W.Frag) : List V → Hp → VK → Prop := fun xs H Q => ∃ (a C : Addr) (cv : V) (u : Value) (b : Bool), xs = [.ref a, cv] ∧ XcDt H a C ∧ KFX K C ∧ ClsV cv u ∧ PySem.W.kitOne K (.ref C) u = some b ∧ Q (.bl b) H
def rIsXT (K : PySem.W.Frag) : List V → Hp → VK → Prop := fun xs H Q => ∃ (a C tp : Addr) (cs : List V) (us : List Value) (b : Bool), xs = [.ref a, .ref tp] ∧ XcDt H a C ∧ KFX K C ∧ H tp = some (.tup cs) ∧ Paired ClsV cs us ∧ PySem.W.kitAny K (.ref C) us = some b ∧ Q (.bl b) H
section
variable {X : Cx} {pins : List (Addr × Obj)} {σ : L2.St} {H : Hp} {s : Shared}
theorem XcDt.inst {a C : Addr} (I : Inv X pins σ H s) (h : XcDt H a C) : ∃ ox od, PySem.W.InstAt s.heap a ox C od := by
  obtain ⟨d, ⟨φ, hx, hφ⟩, hd⟩ := h
  have ok : ObjOk X.prog X.w H s.heap a (.ext φ) := I.hok a _ hx
  obtain ⟨oe, vs, there, zc, dat⟩ := hφ _ ok.1
  cases d with
  | none => exact ⟨oe, none, there, zc.1, by unfold PySem.W.notCls; rw [dat] <;> rfl, by rw [zc.2]; trivial⟩
  | some dd =>
    obtain ⟨kv, hk⟩ := hd dd rfl
    obtain ⟨mA, ns, rel⟩ := (show ObjOk X.prog X.w H s.heap dd (.xd kv) from I.hok dd _ hk)
    obtain ⟨od, ho, _⟩ := lookIn_ns ns
    exact ⟨oe, some od, there, zc.1, by unfold PySem.W.notCls; rw [dat] <;> rfl, by rw [zc.2]; exact ho⟩
theorem KFX.kit {K : PySem.W.Frag} {C x : Addr} {ox : Obj} {od : Option Obj} (F : KFX K C) : PySem.W.KitX K (.ref x) (.ref C) (fun h => PySem.W.InstAt h x ox C od) := PySem.W.kitx_exc F.cl F.ga F.gg F.sb F.ha F.hn F.tk F.hm
theorem call_isX : CallR X (.builtin "isinstance") (rIsX X.K) := by
  intro pins s σ H xs us Q I r h
  obtain ⟨a, C, cv, u, b, rfl, hx, F, k, e, q⟩ := h
  obtain ⟨u1, u2, rfl, r1, r2⟩ := vals2 r
  cases (show u1 = Value.ref a from r1)
  have e2 := k.eq r2
  subst e2
  obtain ⟨ox, od, at'⟩ := hx.inst I
  exact PySem.W.kia_one F.kit I.kIn at' e (fun z => nomatch z) fun tk => ⟨.bl b, H, I.tok tk, rfl, q⟩
theorem call_isXT : CallR X (.builtin "isinstance") (rIsXT X.K) := by
  intro pins s σ H xs us Q I r h
  obtain ⟨a, C, tp, cs, ws, b, rfl, hx, F, hT, k, e, q⟩ := h
  obtain ⟨u1, u2, rfl, r1, r2⟩ := vals2 r
  cases (show u1 = Value.ref a from r1)
  cases (show u2 = Value.ref tp from r2)
  obtain ⟨ox, od, at'⟩ := hx.inst I
  obtain ⟨_, its, rv, o, h1, h2, n, h3⟩ := (show ObjOk X.prog X.w H s.heap tp (.tup cs) from I.hok tp _ hT)
  have e3 := ClsV.all k rv
  subst e3
  obtain ⟨oc, od2, dt, sl⟩ := o
  simp only at h2 h3
  subst h2 h3
  exact PySem.W.kia_tup F.kit I.kIn at' h1 e (fun z => nomatch z) fun tk => ⟨.bl b, H, I.tok tk, rfl, q⟩
end
def gIsX (A : Str → Addr) (f : Str → Option Bool) : D → Option D
  | .nd (.exc c C _) _ => if C = A c then (f c).map .bl else none
  | _ => none
def mIsX (A : Str → Addr) (f : Str → Option Bool) (me : M D) : M D := mb me fun x => ml (gIsX A f x)
theorem gIsX_of {K : PySem.W.Frag} {H : Hp} {Z : Zs} {A : Str → Addr} {f : Str → Option Bool} {x y : D} {v : V} (e : gIsX A f x = some y) (rv : Rp K H Z x v) : ∃ a c b, v = .ref a ∧ y = .bl b ∧ f c = some b ∧ XcDt H a (A c) := by
  unfold gIsX at e
  split at e
  · split at e
    · rename_i c C fs xs hC
      subst hC
      obtain ⟨b, hb, rfl⟩ := Option.map_eq_some_iff.mp e
      cases rv with
      | exc0 h z => exact ⟨_, c, b, rfl, rfl, hb, none, h, fun dd z => nomatch z⟩
      | exc1 h z zd hd e1 e2 r => exact ⟨_, c, b, rfl, rfl, hb, some _, h, fun dd z => by cases z; exact ⟨_, hd⟩⟩
    · cases e
  · cases e
def tKs (cs : List V) : TA := fun _ H Q => Q cs H
section
variable {X : Cx} {W : WX} {e Te : Expr} {es : List Expr} {me : M D} {A : Str → Addr} {f : Str → Option Bool} {p p2 pos : Pos}
theorem ed_isX {cv : V} {u : Value} (hg : Gl X "isinstance") (hm : X.mg "isinstance" = none) (hT : PE X Te (tC cv)) (hu : ClsV cv u) (hF : ∀ c b, f c = some b → KFX X.K (A c) ∧ PySem.W.kitOne X.K (.ref (A c)) u = some b) (he : ED X W e me)
    (hs : starEach [e, Te] X.env = (false, eval e X.env) :: starEach [Te] X.env := by rfl) (hs2 : starEach [Te] X.env = (false, eval Te X.env) :: starEach [] X.env := by rfl) (hpl : (backTo pos (starEach [Te] X.env)).any (·.1) = false := by rfl) :
    ED X W (.Call (.Name "isinstance" p) [e, Te] [] pos) (mIsX A f me) := by
  refine ⟨peImp (pe_callB call_isX hg hm (by decide +kernel) (pa_cons he.pe (pa_cons hT pa_nil hs2) hs) (by decide) (by decide) hs hpl) fun σ H Q q => ?_⟩
  obtain ⟨ln, c0, Z, Fs, S, q⟩ := q
  refine ⟨ln, c0, Z, Fs, S, q.bind.mono ?_⟩
  rintro x c1 H1 Z1 F1 ⟨S1, T1, h1⟩ v rv
  obtain ⟨y, ey, h2⟩ := h1.lift
  obtain ⟨a, c, b, rfl, rfl, hb, hx⟩ := gIsX_of ey rv
  obtain ⟨k1, k2⟩ := hF c b hb
  exact ⟨a, _, cv, u, b, rfl, hx, k1, hu, k2, h2 H1 Z1 F1 S1 .refl _ (.bl b)⟩
theorem ed_isXT {cs : List V} {us : List Value} {x1} (hg : Gl X "isinstance") (hm : X.mg "isinstance" = none) (hT : PA X es (tKs cs)) (hsz : cs.length ≤ sizeLine) (hu : Paired ClsV cs us) (hF : ∀ c b, f c = some b → KFX X.K (A c) ∧ PySem.W.kitAny X.K (.ref (A c)) us = some b) (he : ED X W e me)
    (hs : starEach [e, .Tuple es x1 p2] X.env = (false, eval e X.env) :: starEach [.Tuple es x1 p2] X.env := by rfl) (hs2 : starEach [.Tuple es x1 p2] X.env = (false, eval (.Tuple es x1 p2) X.env) :: starEach [] X.env := by rfl) (hpl : (backTo pos (starEach [.Tuple es x1 p2] X.env)).any (·.1) = false := by rfl) :
    ED X W (.Call (.Name "isinstance" p) [e, .Tuple es x1 p2] [] pos) (mIsX A f me) := by
  refine ⟨peImp (pe_callB call_isXT hg hm (by decide +kernel) (pa_cons he.pe (pa_cons (pe_tup (x1 := x1) hT) pa_nil hs2) hs) (by decide) (by decide) hs hpl) fun σ H Q q => ?_⟩
  obtain ⟨ln, c0, Z, Fs, S, q⟩ := q
  refine ⟨ln, c0, Z, Fs, S, q.bind.mono ?_⟩
  rintro x c1 H1 Z1 F1 ⟨S1, T1, h1⟩ v rv
  obtain ⟨y, ey, h2⟩ := h1.lift
  obtain ⟨a, c, b, rfl, rfl, hb, hx⟩ := gIsX_of ey rv
  obtain ⟨k1, k2⟩ := hF c b hb
  refine ⟨hsz, fun tp ht => ?_⟩
  have n : New H1 Z1 (upd H1 tp (.tup cs)) Z1 := newTup ht _
  refine ⟨a, _, tp, cs, us, b, rfl, ?_, k1, upd_same, hu, k2, h2 _ Z1 F1 (S1.new n) n.stp _ (.bl b)⟩
  obtain ⟨d, ⟨φ, hx1, hx2⟩, hx3⟩ := hx
  exact ⟨d, ⟨φ, n.same _ _ hx1, hx2⟩, fun dd e => by
    obtain ⟨kv, hk⟩ := hx3 dd e
    exact ⟨kv, n.same _ _ hk⟩⟩
end
end Sw
set_option maxRecDepth 100000
set_option maxHeartbeats 4000000
namespace Sw
open PySem PySem.Spec PyProof.Rows L2

/-! ### a op b op' c -/
def mChain (g g' : D → D → Option D) (ma mb' mc : M LV) : M D := mb ma fun p => mb mb' fun q => mb (rd2 g p q) fun z => match z with
  | .bl true => mb mc fun r => rd2 g' q r
  | .bl false => mp (.bl false)
  | _ => fun _ => .stk
section
variable {X : Cx} {W : WX} {a b c : Expr} {ma mb' mc : M LV} {g g' : D → D → Option D} {r r' : R2} {op op' : CmpOp} {pos : Pos}
theorem chain_core (hg : DOp X.K r g) (hg' : DOp X.K r' g') {σ : L2.St} {H : Hp} {Q : VK} (h : tD X.K W (mChain g g' ma mb' mc) σ H Q) : tChain r r' (tL X.K W ma) (tL X.K W mb') (tL X.K W mc) σ H Q := by
  obtain ⟨ln, c, Z, Fs, S, h⟩ := h
  refine ⟨ln, c, Z, Fs, S, h.bind.mono ?_⟩
  rintro p c1 H1 Z1 F1 ⟨S1, T1, h1⟩ v rv
  refine ⟨ln, c1, Z1, F1, S1, h1.bind.mono ?_⟩
  rintro q c2 H2 Z2 F2 ⟨S2, T2, h2⟩ u ru
  obtain ⟨x, y, z, ex, ey, ez, h3⟩ := rd2_run h2.bind
  refine hg H2 Z2 v u x y z (rv c2 H2 Z2 F2 x S2 T2 ex) (ru c2 H2 Z2 F2 y S2 .refl ey) S2.zl ez _ fun w H' Z' n rw' => ?_
  obtain ⟨S3, T3, h4⟩ := h3 H' Z' F2 (S2.new n) n.stp
  cases rw' with
  | bl k =>
    refine ⟨k, rfl, ?_⟩
    cases k with
    | false => exact h4.pure S3 _ (.bl false)
    | true =>
      refine ⟨ln, c2, Z', F2, S3, h4.bind.mono ?_⟩
      rintro p3 c4 H4 Z4 F4 ⟨S4, T4, h5⟩ u3 ru3
      obtain ⟨y2, x3, z3, ey2, ex3, ez3, h6⟩ := rd2_run h5
      exact hg' H4 Z4 u u3 y2 x3 z3 (ru c4 H4 Z4 F4 y2 S4 (T3.trans T4) ey2) (ru3 c4 H4 Z4 F4 x3 S4 .refl ex3) S4.zl ez3 Q fun w' H5 Z5 n5 rw5 => h6 H5 Z5 F4 (S4.new n5) n5.stp w' rw5
  | _ => exact h4.stuck.elim
theorem ed_chain (ho : OpR X (compareOp op) r) (hg : DOp X.K r g) (ho' : OpR X (compareOp op') r') (hg' : DOp X.K r' g') (ha : EL X W a ma) (hb : EL X W b mb') (hc : EL X W c mc)
    (hm : lastMarks [op, op'] [b, c] = false := by with_unfolding_all rfl) : ED X W (.Compare a [op, op'] [b, c] pos) (mChain g g' ma mb' mc) :=
  ⟨peImp (pe_chain ho ho' ha.pe hb.pe hc.pe hm) fun _ _ _ h => chain_core hg hg' h⟩
theorem et_chain (ho : OpR X (compareOp op) r) (hg : DOp X.K r g) (ho' : OpR X (compareOp op') r') (hg' : DOp X.K r' g') (ha : EL X W a ma) (hb : EL X W b mb') (hc : EL X W c mc)
    (hm : lastMarks [op, op'] [b, c] = false := by with_unfolding_all rfl) : ET X W (.Compare a [op, op'] [b, c] pos) (mT (mChain g g' ma mb' mc)) :=
  ⟨ptImp (pt_chain ho ho' ha.pe hb.pe hc.pe hm) fun _ _ _ h => chain_core hg hg' (mT_run h)⟩
end

/-! ### powers -/
instance (i j : Int) : Decidable (CPow i j) := inferInstanceAs (Decidable (_ ∧ _))
def gPow : D → D → Option D | .int i, .int j => if CPow i j then some (.int (i ^ j.toNat)) else none | _, _ => none
theorem dop_pow (K : PySem.W.Frag) : DOp K (rI CPow fun i j => .int (i ^ j.toNat)) gPow := (dop_I (C := CPow) (g := fun i j => i ^ j.toNat) K).of fun x y z h => by
  cases x <;> cases y <;> first | exact h | (cases h)

/-! ### l.index(x), s.upper() -/
def gIdx (xs : List D) (y : D) : Option D := if SeqAt.shaped (.list (D.pys xs)) = true ∧ SeqAt.shaped y.py = true then ((D.pys xs).findIdx? fun z => PyData.eqv z y.py).map fun (j : Nat) => .int j else none
def mIdx (ma mb' : M D) : M D := mb ma fun x => mb (ml (lstOf x)) fun xs => mb mb' fun y => ml (gIdx xs y)
def gUp : D → Option D
  | .str a => if a.length ≤ 5592405 then some (.str (Txt.upper a)) else none
  | _ => none
def mUp (ma : M D) : M D := mb ma fun x => ml (gUp x)
section
variable {X : Cx} {W : WX} {o e : Expr} {mo me : M D} {apos cpos : Pos}
theorem ed_index {k : Nat} (hr : Room k X.A) (ho : ED X W o mo) (he : ED X W e me)
    (hbase : attributeBase o "index" X.env (eval o X.env) = eval o X.env := by rfl)
    (hfew : ((backTo cpos (starEach [e] X.env)).all (fun x => !x.1) && (backToKw cpos (keywordEach [] X.env)).all (fun x => x.1.isSome)
      && decide (([e] : List Expr).length + ([] : List Keyword).length + (if ([] : List Keyword).isEmpty then 0 else 1) < 30)) = true := by rfl)
    (hline : (apos.endLine == cpos.line) = true := by rfl) (hs : starEach [e] X.env = (false, eval e X.env) :: starEach [] X.env := by rfl) (hplain : (backTo cpos (starEach [] X.env)).any (·.1) = false := by rfl) :
    ED X W (.Call (.Attribute o "index" apos) [e] [] cpos) (mIdx mo me) := by
  refine ⟨peImp (pe_bm PySem.F.plainAttrs_list PySem.F.slot_list_index PySem.F.type_list_index (mt_indexD (hu65 hr)) ho.pe (ea_cons he ea_nil hs).pa hbase hfew hline hs hplain) fun σ H Q q => ?_⟩
  obtain ⟨ln, c0, Z, Fs, S, q⟩ := q
  refine ⟨ln, c0, Z, Fs, S, q.bind.mono ?_⟩
  rintro x c1 H1 Z1 F1 ⟨S1, T1, h1⟩ v rv
  obtain ⟨xs, exs, h2⟩ := h1.bind.lift
  have h3 := (h2 H1 Z1 F1 S1 .refl).2.2
  clear h2 h1
  obtain rfl := lstOf_eq exs
  cases rv with
  | @lst a vs _ ha za r =>
    refine ⟨.inl ⟨rfl, vs, .inl (.inl ha)⟩, ln, c1, Z1, F1, S1, ?_⟩
    show Run X.K W (mCons me (mp [])) σ ln c1 H1 Z1 F1 _
    have h1 := h3.bind
    unfold Run mCons mb mp
    unfold Run at h1
    cases e1 : me c1 with
    | stk => rw [e1] at h1; exact h1
    | er y c' => rw [e1] at h1; exact fun cls d H' Z' Fs' S T r => h1 cls d H' Z' Fs' S T r
    | ok y c2 =>
      rw [e1] at h1
      intro H2 Z2 F2 S2 T2 us hus
      obtain ⟨_, _, h2⟩ := h1 H2 Z2 F2 S2 T2
      cases hus with
      | cons ry hn =>
        cases hn
        have h2 : Run X.K W (ml (gIdx xs y)) σ ln c2 H2 Z2 F2 (fun x c' H' Z' Fs' => ∀ v, Rp X.K H' Z' x v → Q v H') := h2
        obtain ⟨z, ez, h3⟩ := h2.lift
        unfold gIdx at ez
        split at ez
        case isFalse => cases ez
        rename_i hsh
        obtain ⟨j, hj, rfl⟩ := Option.map_eq_some_iff.mp ez
        obtain ⟨hjl, hje, hjn⟩ := List.findIdx?_eq_some_iff_getElem.mp hj
        have hpl : D.plains xs = true := D.plains_lay (SeqAt.canLay_of_shaped hsh.1)
        refine ⟨a, _, y.py, D.pys xs, j, (D.pys xs)[j], rfl, rfl, .lst (.inl (.inl (T2.ext.zk _ _ za ha))) ((r.ext T2.ext).dp hpl), ry.dp (D.plain_lay (SeqAt.canLay_of_shaped hsh.2)), hsh.1, hsh.2, List.getElem?_eq_getElem hjl, hje, fun m z' hm hz' => ?_, h3 H2 Z2 F2 S2 .refl _ (.int _)⟩
        obtain ⟨hml, rfl⟩ := List.getElem?_eq_some_iff.mp hz'
        simpa using hjn m hm
theorem ed_upper (ho : ED X W o mo) (hbase : attributeBase o "upper" X.env (eval o X.env) = eval o X.env := by rfl) (hline : (apos.endLine == cpos.line) = true := by rfl) : ED X W (.Call (.Attribute o "upper" apos) [] [] cpos) (mUp mo) := by
  refine ⟨peImp (pe_upper ho.pe hbase hline) fun σ H Q q => ?_⟩
  obtain ⟨ln, c0, Z, Fs, S, q⟩ := q
  refine ⟨ln, c0, Z, Fs, S, q.bind.mono ?_⟩
  rintro x c1 H1 Z1 F1 ⟨S1, T1, h1⟩ v rv
  obtain ⟨z, ez, h2⟩ := h1.lift
  cases rv with
  | str a =>
    have ez : (if a.length ≤ 5592405 then some (D.str (Txt.upper a)) else none) = some z := ez
    split at ez
    · cases ez
      rename_i hl
      exact ⟨⟨a, rfl⟩, a, rfl, rfl, hl, h2 H1 Z1 F1 S1 .refl _ (.str _)⟩
    · cases ez
  | _ => cases ez
end
end Sw
set_option maxRecDepth 100000
set_option maxHeartbeats 4000000
namespace Sw
open PySem PySem.Spec PyProof.Rows L2

/-! ### the classes of what is refused -/
def xcls : List Str := ["SwitchError", "NoField", "NoValue", "NoTest", "NoPlain", "TooGreat", "NoNet"]
def xis (t c : Str) : Bool := decide (c = t) || decide (t = "SwitchError") || decide (t = "ValueError")
def xsub (t c : Str) : Option Bool := if c ∈ xcls then some (xis t c) else none
def xsubs (ts : List Str) (c : Str) : Option Bool := if c ∈ xcls then some (ts.any fun t => xis t c) else none
def xfld (n : Str) : List Str := if n = "field" then ["NoField"] else if n = "value" then ["NoValue"] else if n = "saying" then ["NoTest", "NoPlain"] else if n = "number" then ["TooGreat"] else if n = "most" then ["TooGreat"] else []
abbrev veBm : List Value := [.type "ValueError", .type "Exception", .type "BaseException", .type "object"]
structure XCl (P : Program) (w : World) (K : PySem.W.Frag) (mg : Str → Option Value) (A : Str → Addr) (c : Str) (fs : List Str) : Prop where
  g : mg c = some (.ref (A c))
  T : OexC K (A c)
  kf : KFX K (A c)
  xf : XfC K (A c)
  no : ∀ f ∈ fs, PySem.W.findIn K (.ref (A c)) f = some none
  own : fs = [] → ∃ bmB newId, PySem.W.excIn K (A c) bmB newId = true ∧ ∃ B initId, ExcBaseFacts B newId initId bmB
  ini : fs ≠ [] → ∃ fI fd, PySem.W.findIn K (.ref (A c)) "__init__" = some (some (.ref fI)) ∧ PySem.W.typeIn K (.ref fI) = some (.type "function") ∧ BindA fd ("self" :: fs) ∧ ∀ base : Heap, FnOk P w K mg base (L2.CX P w) 1 fI fd ("self" :: fs) (spI (A c) fs)
structure XAll (P : Program) (w : World) (K : PySem.W.Frag) (mg : Str → Option Value) (A : Str → Addr) : Prop where
  SwitchError : XCl P w K mg A "SwitchError" []
  NoField : XCl P w K mg A "NoField" ["field"]
  NoValue : XCl P w K mg A "NoValue" ["value"]
  NoTest : XCl P w K mg A "NoTest" ["saying"]
  NoPlain : XCl P w K mg A "NoPlain" ["saying"]
  TooGreat : XCl P w K mg A "TooGreat" ["number", "most"]
  NoNet : XCl P w K mg A "NoNet" []
  sub : ∀ c ∈ xcls, ∀ t ∈ xcls, PySem.W.kitOne K (.ref (A c)) (.ref (A t)) = some (xis t c)
  ve : ∀ c ∈ xcls, PySem.W.kitOne K (.ref (A c)) (.type "ValueError") = some true
  exm : ∀ c ∈ xcls, PySem.W.exmOne K (.ref (A c)) (.ref (A "SwitchError")) = some true
section
variable {P : Program} {w : World} {K : PySem.W.Frag} {mg : Str → Option Value} {A : Str → Addr}
theorem XAll.cl (Xa : XAll P w K mg A) : ∀ c ∈ xcls, ∃ fs, XCl P w K mg A c fs := by
  intro c hc
  simp only [xcls, List.mem_cons, List.not_mem_nil, or_false] at hc
  rcases hc with rfl | rfl | rfl | rfl | rfl | rfl | rfl
  · exact ⟨_, Xa.SwitchError⟩
  · exact ⟨_, Xa.NoField⟩
  · exact ⟨_, Xa.NoValue⟩
  · exact ⟨_, Xa.NoTest⟩
  · exact ⟨_, Xa.NoPlain⟩
  · exact ⟨_, Xa.TooGreat⟩
  · exact ⟨_, Xa.NoNet⟩
theorem XAll.fld (Xa : XAll P w K mg A) (n : Str) : ∀ c ∈ xfld n, XfC K (A c) ∧ PySem.W.findIn K (.ref (A c)) n = some none := by
  intro c hc
  unfold xfld at hc
  split at hc
  · rename_i h; subst h
    rw [List.mem_singleton.mp hc]
    exact ⟨Xa.NoField.xf, Xa.NoField.no _ (by simp)⟩
  split at hc
  · rename_i h; subst h
    rw [List.mem_singleton.mp hc]
    exact ⟨Xa.NoValue.xf, Xa.NoValue.no _ (by simp)⟩
  split at hc
  · rename_i h; subst h
    simp only [List.mem_cons, List.not_mem_nil, or_false] at hc
    rcases hc with rfl | rfl
    · exact ⟨Xa.NoTest.xf, Xa.NoTest.no _ (by simp)⟩
    · exact ⟨Xa.NoPlain.xf, Xa.NoPlain.no _ (by simp)⟩
  split at hc
  · rename_i h; subst h
    rw [List.mem_singleton.mp hc]
    exact ⟨Xa.TooGreat.xf, Xa.TooGreat.no _ (by simp)⟩
  split at hc
  · rename_i h; subst h
    rw [List.mem_singleton.mp hc]
    exact ⟨Xa.TooGreat.xf, Xa.TooGreat.no _ (by simp)⟩
  · simp at hc
theorem kitAny_all {t : Value} {p : Str → Bool} : ∀ (ts : List Str), (∀ x ∈ ts, PySem.W.kitOne K t (.ref (A x)) = some (p x)) → PySem.W.kitAny K t (ts.map fun x => .ref (A x)) = some (ts.any p)
  | [], _ => rfl
  | x :: ts, h => by
    refine kitAny_cons (h x (by simp)) (fun e => ?_) fun e => ?_
    · rw [List.any_cons, e, Bool.false_or]
      exact kitAny_all ts fun y hy => h y (by simp [hy])
    · rw [List.any_cons, e, Bool.true_or]
theorem paired_cls : ∀ (ts : List Str), Paired ClsV (ts.map fun x => V.ref (A x)) (ts.map fun x => Value.ref (A x))
  | [] => .nil
  | x :: ts => .cons (.own _) (paired_cls ts)
end
section
variable {X : Cx} {W : WX} {A : Str → Addr} {c m : Str} {fs : List Str} {e : Expr} {es : List Expr} {me : M D} {ma : M (List D)} {j k : Nat} {p p2 p3 pos : Pos} {n t : Str}
theorem ex_ownC (C : XCl X.prog X.w X.K X.mg A c []) (hg : Gl X c) (hdb : (c == ("__debug__" : Str)) = false := by decide) : EX X W (.Call (.Name c p) [.Constant (.str m) j p2] [] pos) (mp ⟨c, A c, []⟩) := by
  obtain ⟨bmB, newId, h, B, initId, F⟩ := C.own rfl
  exact ex_own F h C.g C.T.kC (raises_own C.T.exC C.T.tyC) hg hdb
theorem ex_mkC (C : XCl X.prog X.w X.K X.mg A c fs) (hr : Room k X.A) (h2 : 2 ≤ k) (hne : fs ≠ []) (hg : Gl X c) (ha : EA X W (e :: es) ma) (hma : ∀ c xs c', ma c = .ok xs c' → xs.length = fs.length) (hl : fs.length ≤ 1000 := by decide)
    (hdb : (c == ("__debug__" : Str)) = false := by decide) (he : starEach (e :: es) X.env = (false, eval e X.env) :: starEach es X.env := by rfl) (hpl : (backTo pos (starEach es X.env)).any (·.1) = false := by rfl) : EX X W (.Call (.Name c p) (e :: es) [] pos) (mMk c (A c) fs ma) := by
  obtain ⟨fI, fd, h1, h3, hb, hF⟩ := C.ini hne
  exact ex_mk C.T h1 h3 (hF X.base) (hr.mono h2) hb.binds hg C.g ha hma hl hdb he hpl
theorem ed_xfC (Xa : XAll X.prog X.w X.K X.mg A) (he : ED X W e me) (hb : attributeBase e n X.env (eval e X.env) = eval e X.env := by rfl) : ED X W (.Attribute e n pos) (mXf A (xfld n) n me) := ed_xf (Xa.fld n) he hb
theorem ed_isXC (Xa : XAll X.prog X.w X.K X.mg A) (ht : t ∈ xcls) (hg : Gl X "isinstance") (hm : X.mg "isinstance" = none) (hgt : Gl X t) (he : ED X W e me) (hdb : (t == ("__debug__" : Str)) = false := by decide)
    (hs : starEach [e, .Name t p2] X.env = (false, eval e X.env) :: starEach [.Name t p2] X.env := by rfl) (hs2 : starEach [.Name t p2] X.env = (false, eval (.Name t p2) X.env) :: starEach [] X.env := by rfl) (hpl : (backTo pos (starEach [.Name t p2] X.env)).any (·.1) = false := by rfl) :
    ED X W (.Call (.Name "isinstance" p) [e, .Name t p2] [] pos) (mIsX A (xsub t) me) := by
  obtain ⟨_, C⟩ := Xa.cl t ht
  refine ed_isX hg hm (pe_glob hgt C.g (show RelV (V.ref (A t)) _ from rfl) hdb) (.own _) (fun c b e => ?_) he hs hs2 hpl
  unfold xsub at e
  split at e
  · rename_i hc
    cases e
    exact ⟨(Xa.cl c hc).elim fun _ C => C.kf, Xa.sub c hc t ht⟩
  · cases e
theorem ed_isXV (Xa : XAll X.prog X.w X.K X.mg A) (hg : Gl X "isinstance") (hm : X.mg "isinstance" = none) (hT : PE X (.Name "ValueError" p2) (tC (.ty "ValueError"))) (he : ED X W e me)
    (hs : starEach [e, .Name "ValueError" p2] X.env = (false, eval e X.env) :: starEach [.Name "ValueError" p2] X.env := by rfl) (hs2 : starEach [.Name "ValueError" p2] X.env = (false, eval (.Name "ValueError" p2) X.env) :: starEach [] X.env := by rfl) (hpl : (backTo pos (starEach [.Name "ValueError" p2] X.env)).any (·.1) = false := by rfl) :
    ED X W (.Call (.Name "isinstance" p) [e, .Name "ValueError" p2] [] pos) (mIsX A (xsub "ValueError") me) := by
  refine ed_isX hg hm hT (.ty _) (fun c b e => ?_) he hs hs2 hpl
  unfold xsub at e
  split at e
  · rename_i hc
    cases e
    refine ⟨(Xa.cl c hc).elim fun _ C => C.kf, ?_⟩
    rw [Xa.ve c hc]
    simp [xis]
  · cases e
theorem ed_isXTC {ts : List Str} {x1} (Xa : XAll X.prog X.w X.K X.mg A) (hts : ∀ t ∈ ts, t ∈ xcls) (hg : Gl X "isinstance") (hm : X.mg "isinstance" = none) (hT : PA X es (tKs (ts.map fun x => V.ref (A x)))) (hsz : ts.length ≤ 1000) (he : ED X W e me)
    (hs : starEach [e, .Tuple es x1 p2] X.env = (false, eval e X.env) :: starEach [.Tuple es x1 p2] X.env := by rfl) (hs2 : starEach [.Tuple es x1 p2] X.env = (false, eval (.Tuple es x1 p2) X.env) :: starEach [] X.env := by rfl) (hpl : (backTo pos (starEach [.Tuple es x1 p2] X.env)).any (·.1) = false := by rfl) :
    ED X W (.Call (.Name "isinstance" p) [e, .Tuple es x1 p2] [] pos) (mIsX A (xsubs ts) me) := by
  refine ed_isXT hg hm hT (by rw [List.length_map, sizeLine_eq]; omega) (paired_cls ts) (fun c b e => ?_) he hs hs2 hpl
  unfold xsubs at e
  split at e
  · rename_i hc
    cases e
    exact ⟨(Xa.cl c hc).elim fun _ C => C.kf, kitAny_all ts fun t ht => Xa.sub c hc t (hts t ht)⟩
  · cases e
theorem pks_nil : PA X [] (tKs []) := pa_nil
theorem pks_cons {cs : List V} (hg : Gl X c) (C : ∃ fs, XCl X.prog X.w X.K X.mg A c fs) (hr : PA X es (tKs cs)) (hdb : (c == ("__debug__" : Str)) = false := by decide) (hs : starEach (.Name c p :: es) X.env = (false, eval (.Name c p) X.env) :: starEach es X.env := by rfl) : PA X (.Name c p :: es) (tKs (.ref (A c) :: cs)) := by
  obtain ⟨fs, C⟩ := C
  exact pa_cons (pe_glob hg C.g (show RelV (V.ref (A c)) _ from rfl) hdb) hr hs
theorem namesC (C : ∃ fs, XCl X.prog X.w X.K X.mg A c fs) (hg : Gl X c) (hdb : (c == ("__debug__" : Str)) = false := by decide) : Names X c (.ref (A c)) := ⟨hg, hdb, .inl (C.elim fun _ C => C.g)⟩
end

/-! ### the law's end, for any addresses of classes -/
def spLaw (K : PySem.W.Frag) : Sp := fun vs H Q _ => ∃ (a : Addr) (ns : List Int), vs = [.ref a] ∧ ns.length ≤ 63 ∧ L2.Only H ∧ SqL K H a (ns.map V.int) ∧ ∀ H', Q (.bl true) H'
theorem law_sp {K : PySem.W.Frag} {F : Fd} (h : ∀ ns : List Int, ns.length ≤ 63 → ∃ c, F [.d (.nd .scr (ns.map .int))] = .ok (.d (.bl true)) c) : ∀ vs H Q E, spLaw K vs H Q E → spF K 1 F vs H Q E := by
  rintro vs H Q E ⟨a, ns, rfl, hl, ho, hs, q⟩
  obtain ⟨ln, args, Z, Fs, h1, h2, h3⟩ := law_ok h H a ns hl ho hs
  refine ⟨ln, args, Z, Fs, h1, h2, ?_⟩
  cases e : F args with
  | stk => rw [e] at h3; exact h3
  | er x c => rw [e] at h3; exact fun cls d H' Z' Fs' σ' S T r => (h3 cls d H' Z' Fs' σ' S T r).elim
  | ok r c =>
    rw [e] at h3
    intro v V' H' Z' Fs' σ' rv S T lo
    rw [h3 v V' H' Z' Fs' σ' rv S T lo]
    exact q H'
end Sw
set_option maxRecDepth 100000
set_option maxHeartbeats 4000000
namespace Sw
open PySem PySem.Spec PyProof.Rows L2

/-! ### the classes, from what the top has left -/
def xclB (K : PySem.W.Frag) (C : Addr) (fs : List Str) : Bool :=
  decide (PySem.W.findIn K (.ref C) "__setattr__" = some (some (.builtin "object.__setattr__"))) && (decide (PySem.W.subIn K (.ref C) (.type "BaseException") = some true) && (decide (PySem.W.typeIn K (.ref C) = some (.type "type")) && (PySem.W.keepIn K (.ref C) && ((PySem.W.clsIn K C).isSome &&
  (decide (PySem.W.findIn K (.ref C) "__getattribute__" = some (some (.builtin "BaseException.__getattribute__"))) && (decide (PySem.W.findIn K (.ref C) "__getattr__" = some none) && (decide (PySem.W.findIn K (.ref C) "__class__" = some (some (.builtin "object.__class__"))) && (decide (PySem.W.mroIn K C (.type "object") = some true) &&
  (xfB K C && fs.all fun f => decide (PySem.W.findIn K (.ref C) f = some none))))))))))
def xcomB (K : PySem.W.Frag) : Bool := decide (PySem.W.specialIn K (.builtin "object.__class__") "__get__" = some (some (.builtin "getset_descriptor.__get__"))) && decide (PySem.W.takesIn K (.builtin "object.__class__") = some true)
def xmatB (K : PySem.W.Frag) (S : Addr) (l : List (Str × Addr)) : Bool := l.all fun p => (l.all fun q => decide (PySem.W.kitOne K (.ref p.2) (.ref q.2) = some (xis q.1 p.1))) && (decide (PySem.W.kitOne K (.ref p.2) (.type "ValueError") = some true) && decide (PySem.W.exmOne K (.ref p.2) (.ref S) = some true))
def xA (a0 a1 a2 a3 a4 a5 a6 : Addr) (c : Str) : Addr := if c = "SwitchError" then a0 else if c = "NoField" then a1 else if c = "NoValue" then a2 else if c = "NoTest" then a3 else if c = "NoPlain" then a4 else if c = "TooGreat" then a5 else a6
section
variable {a0 a1 a2 a3 a4 a5 a6 : Addr}
theorem xA_0 : xA a0 a1 a2 a3 a4 a5 a6 "SwitchError" = a0 := by unfold xA; rw [if_pos rfl]
theorem xA_1 : xA a0 a1 a2 a3 a4 a5 a6 "NoField" = a1 := by unfold xA; rw [if_neg (by decide), if_pos rfl]
theorem xA_2 : xA a0 a1 a2 a3 a4 a5 a6 "NoValue" = a2 := by unfold xA; rw [if_neg (by decide), if_neg (by decide), if_pos rfl]
theorem xA_3 : xA a0 a1 a2 a3 a4 a5 a6 "NoTest" = a3 := by unfold xA; rw [if_neg (by decide), if_neg (by decide), if_neg (by decide), if_pos rfl]
theorem xA_4 : xA a0 a1 a2 a3 a4 a5 a6 "NoPlain" = a4 := by unfold xA; rw [if_neg (by decide), if_neg (by decide), if_neg (by decide), if_neg (by decide), if_pos rfl]
theorem xA_5 : xA a0 a1 a2 a3 a4 a5 a6 "TooGreat" = a5 := by unfold xA; rw [if_neg (by decide), if_neg (by decide), if_neg (by decide), if_neg (by decide), if_neg (by decide), if_pos rfl]
theorem xA_6 : xA a0 a1 a2 a3 a4 a5 a6 "NoNet" = a6 := by unfold xA; rw [if_neg (by decide), if_neg (by decide), if_neg (by decide), if_neg (by decide), if_neg (by decide), if_neg (by decide)]
end
/-- one class, at y -/
structure XTxt (K : PySem.W.Frag) (mg : Str → Option Value) (c : Str) (y : Addr) (fs : List Str) : Prop where
  g : mg c = some (.ref y)
  T : OexC K y
  kf : KFX K y
  xf : XfC K y
  no : ∀ f ∈ fs, PySem.W.findIn K (.ref y) f = some none
theorem xtxt_mk {K : PySem.W.Frag} {h : Heap} {mg : Str → Option Value} {c nm q : Str} {y N : Addr} {bs bm sub : List Value} {sn : List Str} {ab : Bool} {col : Option Bool} {dd : Option Addr} {k0 k1 k2 k3 k5 : Option Value} {fs : List Str} (X : K.In h) (G : h.Ns mainGlobals mg) (a : PySem.W.nsIn K mainGlobals c = some (some (.ref y)))
    (l : K.lookup y = some (excClassObj nm q y N bs bm true sn sub ab col dd k0 k1 k2 k3 k5 "ValueError.__new__")) (r : PySem.HandSPX.refsVE bm = true) (b : xclB K y fs = true) (cm : xcomB K = true) : XTxt K mg c y fs := by
  unfold xclB at b
  unfold xcomB at cm
  simp only [Bool.and_eq_true, decide_eq_true_eq, List.all_eq_true] at b cm
  obtain ⟨b1, b2, b3, b4, b5, b6, b7, b8, b9, b10, b11⟩ := b
  exact ⟨PySem.W.mg_of X G a, ⟨⟨nm, q, N, bs, bm, sn, sub, ab, col, dd, k0, k1, k2, k3, k5, l, r⟩, b1, b2, b3, b4⟩, ⟨b5, b6, b7, b2, b8, cm.1, cm.2, b9⟩, xfB_ok b10, b11⟩
section
variable {P : Program} {w : World} {K : PySem.W.Frag} {mg : Str → Option Value} {A : Str → Addr} {c : Str} {y : Addr} {fs : List Str}
theorem xcl_own (e : A c = y) (T : XTxt K mg c y []) (q : PySem.W.excIn K y veBm "ValueError.__new__" = true) : XCl P w K mg A c [] := by
  subst e
  exact ⟨T.g, T.T, T.kf, T.xf, T.no, fun _ => ⟨_, _, q, _, _, F.excBase_ValueError⟩, fun z => absurd rfl z⟩
theorem xcl_ini {fI : Addr} {fd : FuncData} (e : A c = y) (T : XTxt K mg c y fs) (hne : fs ≠ []) (h1 : PySem.W.findIn K (.ref y) "__init__" = some (some (.ref fI))) (h2 : PySem.W.typeIn K (.ref fI) = some (.type "function")) (hb : BindA fd ("self" :: fs))
    (hF : ∀ base : Heap, FnOk P w K mg base (L2.CX P w) 1 fI fd ("self" :: fs) (spI y fs)) : XCl P w K mg A c fs := by
  subst e
  exact ⟨T.g, T.T, T.kf, T.xf, T.no, fun z => absurd z hne, fun _ => ⟨fI, fd, h1, h2, hb, hF⟩⟩
end
theorem xall_mk {P : Program} {w : World} {K : PySem.W.Frag} {mg : Str → Option Value} {a0 a1 a2 a3 a4 a5 a6 : Addr} (h0 : XCl P w K mg (xA a0 a1 a2 a3 a4 a5 a6) "SwitchError" []) (h1 : XCl P w K mg (xA a0 a1 a2 a3 a4 a5 a6) "NoField" ["field"]) (h2 : XCl P w K mg (xA a0 a1 a2 a3 a4 a5 a6) "NoValue" ["value"])
    (h3 : XCl P w K mg (xA a0 a1 a2 a3 a4 a5 a6) "NoTest" ["saying"]) (h4 : XCl P w K mg (xA a0 a1 a2 a3 a4 a5 a6) "NoPlain" ["saying"]) (h5 : XCl P w K mg (xA a0 a1 a2 a3 a4 a5 a6) "TooGreat" ["number", "most"]) (h6 : XCl P w K mg (xA a0 a1 a2 a3 a4 a5 a6) "NoNet" [])
    (m : xmatB K a0 [("SwitchError", a0), ("NoField", a1), ("NoValue", a2), ("NoTest", a3), ("NoPlain", a4), ("TooGreat", a5), ("NoNet", a6)] = true) : XAll P w K mg (xA a0 a1 a2 a3 a4 a5 a6) := by
  have em : ∀ c ∈ xcls, (c, xA a0 a1 a2 a3 a4 a5 a6 c) ∈ ([("SwitchError", a0), ("NoField", a1), ("NoValue", a2), ("NoTest", a3), ("NoPlain", a4), ("TooGreat", a5), ("NoNet", a6)] : List (Str × Addr)) := by
    intro c hc
    simp only [xcls, List.mem_cons, List.not_mem_nil, or_false] at hc
    rcases hc with rfl | rfl | rfl | rfl | rfl | rfl | rfl
    · rw [xA_0]; simp
    · rw [xA_1]; simp
    · rw [xA_2]; simp
    · rw [xA_3]; simp
    · rw [xA_4]; simp
    · rw [xA_5]; simp
    · rw [xA_6]; simp
  unfold xmatB at m
  simp only [List.all_eq_true, Bool.and_eq_true, decide_eq_true_eq] at m
  refine ⟨h0, h1, h2, h3, h4, h5, h6, fun c hc t ht => (m _ (em c hc)).1 _ (em t ht), fun c hc => (m _ (em c hc)).2.1, fun c hc => ?_⟩
  rw [xA_0]
  exact (m _ (em c hc)).2.2
end Sw
set_option maxRecDepth 100000
set_option maxHeartbeats 4000000
namespace Sw
open PySem PySem.Spec L2

/-! ### exceptions, run (printed) -/
def clsS (s : Stmt) (j : Nat) : Stmt := match s with
  | .ClassDef _ _ _ body .. => body.getD j (.Pass ⟨0, 0, 0, 0⟩)
  | _ => s
theorem mCons_lenX {ma : M D} {mr : M (List D)} {n : Nat} (h : ∀ c xs c', mr c = .ok xs c' → xs.length = n) : ∀ c xs c', mCons ma mr c = .ok xs c' → xs.length = n + 1 := by
  intro c xs c' q
  unfold mCons mb mp at q
  cases e1 : ma c with
  | stk => rw [e1] at q; cases q
  | er _ _ => rw [e1] at q; cases q
  | ok x c1 =>
    rw [e1] at q
    simp only at q
    cases e2 : mr c1 with
    | stk => rw [e2] at q; cases q
    | er _ _ => rw [e2] at q; cases q
    | ok ys c2 =>
      rw [e2] at q
      cases q
      rw [List.length_cons, h _ _ _ e2]
section
variable {A : Str → Addr} {L : List Str} {n : Str} {c : Ctx}
def Rs.rse (r : Rs Ex) : Rs Out := match r with
  | .stk => .stk
  | .ok e c => .er e c
  | .er e c => .er e c
@[simp] theorem Rs.rse_ok {e : Ex} : (Rs.ok e c).rse = .er e c := rfl
@[simp] theorem Rs.rse_er {e : Ex} : (Rs.er e c : Rs Ex).rse = .er e c := rfl
@[simp] theorem mRaise_r {m : M Ex} : mRaise m c = (m c).rse := rfl
@[simp] theorem mMk_r {x : Str} {C : Addr} {fs : List Str} {ma : M (List D)} : mMk x C fs ma c = (ma c).bnd fun xs => mp ⟨x, C, (fs.zip xs).reverse⟩ := mb_r
@[simp] theorem mExV_r {m : M Ex} : mExV m c = (m c).bnd fun e => mp (excD e) := mb_r
@[simp] theorem excD_mk {x : Str} {C : Addr} {fs : List (Str × D)} : excD ⟨x, C, fs⟩ = .nd (.exc x C (fs.map (·.1))) (fs.map (·.2)) := rfl
@[simp] theorem mXf_r {me : M D} : mXf A L n me c = (me c).bnd fun x => ml (gXf A L n x) := mb_r
@[simp] theorem mIsX_r {f : Str → Option Bool} {me : M D} : mIsX A f me c = (me c).bnd fun x => ml (gIsX A f x) := mb_r
@[simp] theorem gIsX_e {f : Str → Option Bool} {x : Str} {fs : List Str} {xs : List D} : gIsX A f (.nd (.exc x (A x) fs) xs) = (f x).map .bl := if_pos rfl
def Rs.trk (i : Nat) : Rs Out → Rs Out
  | .ok .nx c2 => if i < c2.length then .ok .nx (c2.set i .no) else .stk
  | _ => .stk
@[simp] theorem Rs.trk_nx {i : Nat} : (Rs.ok Out.nx c).trk i = if i < c.length then .ok .nx (c.set i .no) else .stk := rfl
def Rs.tri (A : Str → Addr) (L : List Str) (i : Nat) (ms : M Out) : Rs Out → Rs Out
  | .stk => .stk
  | .ok o c' => .ok o c'
  | .er e c' => if e.c ∈ L ∧ e.C = A e.c ∧ i < c'.length then (ms (c'.set i (.d (excD e)))).trk i else .stk
@[simp] theorem Rs.tri_ok {i : Nat} {ms : M Out} {o : Out} : (Rs.ok o c).tri A L i ms = .ok o c := rfl
@[simp] theorem Rs.tri_er {i : Nat} {ms : M Out} {x : Str} {fs : List (Str × D)} : (Rs.er ⟨x, A x, fs⟩ c : Rs Out).tri A L i ms = if x ∈ L ∧ i < c.length then (ms (c.set i (.d (excD ⟨x, A x, fs⟩)))).trk i else .stk := by
  show (if x ∈ L ∧ A x = A x ∧ i < c.length then _ else _) = _
  by_cases h : x ∈ L ∧ i < c.length
  · rw [if_pos ⟨h.1, rfl, h.2⟩, if_pos h]
  · rw [if_neg fun z => h ⟨z.1, z.2.2⟩, if_neg h]
@[simp] theorem mTry_r {i : Nat} {mb' ms : M Out} : mTry A L i mb' ms c = (mb' c).tri A L i ms := by
  unfold mTry Rs.tri
  cases mb' c with
  | stk => rfl
  | ok o c' => rfl
  | er e c' =>
    simp only
    split
    · unfold Rs.trk
      rfl
    · rfl
@[simp] theorem mChain_r {g g' : D → D → Option D} {ma mb' mc : M LV} : mChain g g' ma mb' mc c = (ma c).bnd fun p => mb mb' fun q => mb (rd2 g p q) (vAk (mb mc fun r => rd2 g' q r)) := by
  unfold mChain
  rw [mb_r]
  refine congrArg (Rs.bnd _) (funext fun p => congrArg (mb mb') (funext fun q => congrArg (mb _) (funext fun z => ?_)))
  cases z with
  | bl b => cases b <;> rfl
  | _ => rfl
@[simp] theorem lstOf_l {xs : List D} : lstOf (.nd .lst xs) = some xs := rfl
@[simp] theorem mIdx_r {ma mb' : M D} : mIdx ma mb' c = (ma c).bnd fun x => mb (ml (lstOf x)) fun xs => mb mb' fun y => ml (gIdx xs y) := mb_r
@[simp] theorem mUp_r {ma : M D} : mUp ma c = (ma c).bnd fun x => ml (gUp x) := mb_r
theorem gUp_s {a : Str} (h : a.length ≤ 5592405) : gUp (.str a) = some (.str (Txt.upper a)) := if_pos h
theorem gXf_e {x : Str} {fs : List Str} {xs : List D} (h : x ∈ L) : gXf A L n (.nd (.exc x (A x) fs) xs) = (fs.zip xs).lookup n := if_pos ⟨rfl, h⟩
theorem gPow_i {i j : Int} (h : CPow i j) : gPow (.int i) (.int j) = some (.int (i ^ j.toNat)) := if_pos h

@[simp] theorem xm_SwitchError : (("SwitchError" : Str) ∈ xcls) = True := eq_true (by decide)
@[simp] theorem xm_NoField : (("NoField" : Str) ∈ xcls) = True := eq_true (by decide)
@[simp] theorem xm_NoValue : (("NoValue" : Str) ∈ xcls) = True := eq_true (by decide)
@[simp] theorem xm_NoTest : (("NoTest" : Str) ∈ xcls) = True := eq_true (by decide)
@[simp] theorem xm_NoPlain : (("NoPlain" : Str) ∈ xcls) = True := eq_true (by decide)
@[simp] theorem xm_TooGreat : (("TooGreat" : Str) ∈ xcls) = True := eq_true (by decide)
@[simp] theorem xm_NoNet : (("NoNet" : Str) ∈ xcls) = True := eq_true (by decide)
@[simp] theorem xs_SwitchError_SwitchError : xsub "SwitchError" "SwitchError" = some true := by decide
@[simp] theorem xs_SwitchError_NoField : xsub "SwitchError" "NoField" = some true := by decide
@[simp] theorem xs_SwitchError_NoValue : xsub "SwitchError" "NoValue" = some true := by decide
@[simp] theorem xs_SwitchError_NoTest : xsub "SwitchError" "NoTest" = some true := by decide
@[simp] theorem xs_SwitchError_NoPlain : xsub "SwitchError" "NoPlain" = some true := by decide
@[simp] theorem xs_SwitchError_TooGreat : xsub "SwitchError" "TooGreat" = some true := by decide
@[simp] theorem xs_SwitchError_NoNet : xsub "SwitchError" "NoNet" = some true := by decide
@[simp] theorem xs_NoField_SwitchError : xsub "NoField" "SwitchError" = some false := by decide
@[simp] theorem xs_NoField_NoField : xsub "NoField" "NoField" = some true := by decide
@[simp] theorem xs_NoField_NoValue : xsub "NoField" "NoValue" = some false := by decide
@[simp] theorem xs_NoField_NoTest : xsub "NoField" "NoTest" = some false := by decide
@[simp] theorem xs_NoField_NoPlain : xsub "NoField" "NoPlain" = some false := by decide
@[simp] theorem xs_NoField_TooGreat : xsub "NoField" "TooGreat" = some false := by decide
@[simp] theorem xs_NoField_NoNet : xsub "NoField" "NoNet" = some false := by decide
@[simp] theorem xs_NoValue_SwitchError : xsub "NoValue" "SwitchError" = some false := by decide
@[simp] theorem xs_NoValue_NoField : xsub "NoValue" "NoField" = some false := by decide
@[simp] theorem xs_NoValue_NoValue : xsub "NoValue" "NoValue" = some true := by decide
@[simp] theorem xs_NoValue_NoTest : xsub "NoValue" "NoTest" = some false := by decide
@[simp] theorem xs_NoValue_NoPlain : xsub "NoValue" "NoPlain" = some false := by decide
@[simp] theorem xs_NoValue_TooGreat : xsub "NoValue" "TooGreat" = some false := by decide
@[simp] theorem xs_NoValue_NoNet : xsub "NoValue" "NoNet" = some false := by decide
@[simp] theorem xs_NoTest_SwitchError : xsub "NoTest" "SwitchError" = some false := by decide
@[simp] theorem xs_NoTest_NoField : xsub "NoTest" "NoField" = some false := by decide
@[simp] theorem xs_NoTest_NoValue : xsub "NoTest" "NoValue" = some false := by decide
@[simp] theorem xs_NoTest_NoTest : xsub "NoTest" "NoTest" = some true := by decide
@[simp] theorem xs_NoTest_NoPlain : xsub "NoTest" "NoPlain" = some false := by decide
@[simp] theorem xs_NoTest_TooGreat : xsub "NoTest" "TooGreat" = some false := by decide
@[simp] theorem xs_NoTest_NoNet : xsub "NoTest" "NoNet" = some false := by decide
@[simp] theorem xs_NoPlain_SwitchError : xsub "NoPlain" "SwitchError" = some false := by decide
@[simp] theorem xs_NoPlain_NoField : xsub "NoPlain" "NoField" = some false := by decide
@[simp] theorem xs_NoPlain_NoValue : xsub "NoPlain" "NoValue" = some false := by decide
@[simp] theorem xs_NoPlain_NoTest : xsub "NoPlain" "NoTest" = some false := by decide
@[simp] theorem xs_NoPlain_NoPlain : xsub "NoPlain" "NoPlain" = some true := by decide
@[simp] theorem xs_NoPlain_TooGreat : xsub "NoPlain" "TooGreat" = some false := by decide
@[simp] theorem xs_NoPlain_NoNet : xsub "NoPlain" "NoNet" = some false := by decide
@[simp] theorem xs_TooGreat_SwitchError : xsub "TooGreat" "SwitchError" = some false := by decide
@[simp] theorem xs_TooGreat_NoField : xsub "TooGreat" "NoField" = some false := by decide
@[simp] theorem xs_TooGreat_NoValue : xsub "TooGreat" "NoValue" = some false := by decide
@[simp] theorem xs_TooGreat_NoTest : xsub "TooGreat" "NoTest" = some false := by decide
@[simp] theorem xs_TooGreat_NoPlain : xsub "TooGreat" "NoPlain" = some false := by decide
@[simp] theorem xs_TooGreat_TooGreat : xsub "TooGreat" "TooGreat" = some true := by decide
@[simp] theorem xs_TooGreat_NoNet : xsub "TooGreat" "NoNet" = some false := by decide
@[simp] theorem xs_NoNet_SwitchError : xsub "NoNet" "SwitchError" = some false := by decide
@[simp] theorem xs_NoNet_NoField : xsub "NoNet" "NoField" = some false := by decide
@[simp] theorem xs_NoNet_NoValue : xsub "NoNet" "NoValue" = some false := by decide
@[simp] theorem xs_NoNet_NoTest : xsub "NoNet" "NoTest" = some false := by decide
@[simp] theorem xs_NoNet_NoPlain : xsub "NoNet" "NoPlain" = some false := by decide
@[simp] theorem xs_NoNet_TooGreat : xsub "NoNet" "TooGreat" = some false := by decide
@[simp] theorem xs_NoNet_NoNet : xsub "NoNet" "NoNet" = some true := by decide
@[simp] theorem xs_ValueError_SwitchError : xsub "ValueError" "SwitchError" = some true := by decide
@[simp] theorem xs_ValueError_NoField : xsub "ValueError" "NoField" = some true := by decide
@[simp] theorem xs_ValueError_NoValue : xsub "ValueError" "NoValue" = some true := by decide
@[simp] theorem xs_ValueError_NoTest : xsub "ValueError" "NoTest" = some true := by decide
@[simp] theorem xs_ValueError_NoPlain : xsub "ValueError" "NoPlain" = some true := by decide
@[simp] theorem xs_ValueError_TooGreat : xsub "ValueError" "TooGreat" = some true := by decide
@[simp] theorem xs_ValueError_NoNet : xsub "ValueError" "NoNet" = some true := by decide
@[simp] theorem xt0_SwitchError : xsubs ["NoNet", "NoPlain", "NoTest", "TooGreat"] "SwitchError" = some false := by decide
@[simp] theorem xt0_NoField : xsubs ["NoNet", "NoPlain", "NoTest", "TooGreat"] "NoField" = some false := by decide
@[simp] theorem xt0_NoValue : xsubs ["NoNet", "NoPlain", "NoTest", "TooGreat"] "NoValue" = some false := by decide
@[simp] theorem xt0_NoTest : xsubs ["NoNet", "NoPlain", "NoTest", "TooGreat"] "NoTest" = some true := by decide
@[simp] theorem xt0_NoPlain : xsubs ["NoNet", "NoPlain", "NoTest", "TooGreat"] "NoPlain" = some true := by decide
@[simp] theorem xt0_TooGreat : xsubs ["NoNet", "NoPlain", "NoTest", "TooGreat"] "TooGreat" = some true := by decide
@[simp] theorem xt0_NoNet : xsubs ["NoNet", "NoPlain", "NoTest", "TooGreat"] "NoNet" = some true := by decide
@[simp] theorem xt1_SwitchError : xsubs ["NoNet", "NoPlain", "TooGreat"] "SwitchError" = some false := by decide
@[simp] theorem xt1_NoField : xsubs ["NoNet", "NoPlain", "TooGreat"] "NoField" = some false := by decide
@[simp] theorem xt1_NoValue : xsubs ["NoNet", "NoPlain", "TooGreat"] "NoValue" = some false := by decide
@[simp] theorem xt1_NoTest : xsubs ["NoNet", "NoPlain", "TooGreat"] "NoTest" = some false := by decide
@[simp] theorem xt1_NoPlain : xsubs ["NoNet", "NoPlain", "TooGreat"] "NoPlain" = some true := by decide
@[simp] theorem xt1_TooGreat : xsubs ["NoNet", "NoPlain", "TooGreat"] "TooGreat" = some true := by decide
@[simp] theorem xt1_NoNet : xsubs ["NoNet", "NoPlain", "TooGreat"] "NoNet" = some true := by decide
@[simp] theorem xf_NoField_field {x : D} : gXf A (xfld "field") "field" (.nd (.exc "NoField" (A "NoField") ["field"]) [x]) = some x := by
  rw [gXf_e (by decide)]
  simp [List.lookup]
@[simp] theorem xf_NoValue_value {x : D} : gXf A (xfld "value") "value" (.nd (.exc "NoValue" (A "NoValue") ["value"]) [x]) = some x := by
  rw [gXf_e (by decide)]
  simp [List.lookup]
@[simp] theorem xf_NoTest_saying {x : D} : gXf A (xfld "saying") "saying" (.nd (.exc "NoTest" (A "NoTest") ["saying"]) [x]) = some x := by
  rw [gXf_e (by decide)]
  simp [List.lookup]
@[simp] theorem xf_NoPlain_saying {x : D} : gXf A (xfld "saying") "saying" (.nd (.exc "NoPlain" (A "NoPlain") ["saying"]) [x]) = some x := by
  rw [gXf_e (by decide)]
  simp [List.lookup]
@[simp] theorem xf_TooGreat_number {x y : D} : gXf A (xfld "number") "number" (.nd (.exc "TooGreat" (A "TooGreat") ["most", "number"]) [y, x]) = some x := by
  rw [gXf_e (by decide)]
  rw [List.zip_cons_cons, List.lookup, show (("number" : Str) == ("most" : Str)) = false from by decide]
  simp [List.lookup]
@[simp] theorem xf_TooGreat_most {x y : D} : gXf A (xfld "most") "most" (.nd (.exc "TooGreat" (A "TooGreat") ["most", "number"]) [y, x]) = some y := by
  rw [gXf_e (by decide)]
  simp [List.lookup]
end
end Sw
set_option maxRecDepth 100000
set_option maxHeartbeats 4000000
namespace PySem
open Sem (wp)
theorem meets_enumT {v : Value} {o : Obj} {B0 : Heap → Prop} (B : Begins v o B0) : Meets (Builtin.«enumerate.__new__» ⟨[.type "enumerate", v], []⟩) (fun _ R s => B0 s.heap ∧
    R (.ok (.ret (.ref (s.heap.push o).objs.size))) { s with heap := (s.heap.push o).push { cls := .type "enumerate", data := .fields #[.none, .bool false, .ref s.heap.objs.size, rawInt 0, .none, .none] } }) := by
  refine .of_wp fun prog w A R s h => ?_
  obtain ⟨hp, g, d, tk, os⟩ := s
  obtain ⟨b0, h⟩ := h
  have sb := sub_enumerate
  have it : ∀ {A' : Around} {E Q : Value → Shared → Prop}, Q (.ref hp.objs.size) ⟨hp.push o, g, d, tk, os⟩ → wpAny (model prog w) A' (pyIter v) Q E ⟨hp, g, d, tk, os⟩ := fun q => B.iter _ _ _ _ ⟨hp, g, d, tk, os⟩ _ b0 q
  wp_walk using it
  refine wpAny_stack_any fun st => wpAny_pure ?_
  split
  · rename_i c _ _ _ _ _
    cases c == Value.type "enumerate" <;> (wp_walk using it; exact ⟨_, rfl, h⟩)
  · wp_walk using it
    exact ⟨_, rfl, h⟩
theorem call_enumT {prog : Program} {w : World} {A : Around} {E : Value → Shared → Prop} {s : Shared} {v : Value} {o : Obj} {B0 : Heap → Prop} {Q : Value → Shared → Prop} (B : Begins v o B0) (b0 : B0 s.heap)
    (h : ∀ h', IsEnum h' (s.heap.objs.size + 1) s.heap.objs.size 0 .none → h'.get? s.heap.objs.size = some o → (∀ b u, s.heap.get? b = some u → h'.get? b = some u) → Q (.ref (s.heap.objs.size + 1)) { s with heap := h' }) : wpAny (model prog w) A (call (.type "enumerate") [v]) Q E s := by
  refine callType_new F.called_enumerate (by decide) (F.typeCall_enumerate_1 _) (F.newCall_enumerate_1 _) (fun obj => F.args_object_init_2 obj _) F.entry_enumerate_new (meets_enumT B) ⟨b0, ?_⟩
  have sz : (s.heap.push o).objs.size = s.heap.objs.size + 1 := Heap.size_push ..
  have hen := Heap.get?_push_size (s.heap.push o) (o := { cls := .type "enumerate", data := .fields #[.none, .bool false, .ref s.heap.objs.size, rawInt 0, .none, .none] }) rfl
  show _ ∧ _
  rw [sz] at hen ⊢
  exact ⟨⟨_, hen, rfl⟩, h _ hen (Heap.get?_push_of_some _ (Heap.get?_push_size _ B.free)) fun b u q => Heap.get?_push_of_some _ (Heap.get?_push_of_some _ q)⟩
end PySem
namespace Sw
open PySem PySem.Spec PyProof.Rows L2

/-! ### enumerate(a tuple) -/
def IteT (K : PySem.W.Frag) (a : Addr) : It :=
  ⟨fun i H => ∃ (xs : List V) (x : V), SqT K H a xs ∧ xs[i]? = some x, fun i H v H' => ∃ T x, v = .ref T ∧ H T = none ∧ H' = upd H T (.tup [.int (i : Nat), x]) ∧ ∀ xs, SqT K H a xs → xs[i]? = some x, fun i H => ∃ xs : List V, SqT K H a xs ∧ xs.length ≤ i⟩
theorem turn_enumT {P : Program} {w : World} {K : PySem.W.Frag} {elts : List Expr} {kk : Nat} {tpos : Pos} (a e it : Addr) :
    Turn P w K (.Tuple elts kk tpos) (IteT K a) [e, it] e (fun i h => (∃ old, IsEnum h e it ((i : Nat) : Int) old) ∧ h.IsTupleIter it a i) where
  mem := by simp
  obj := fun i h st b hb => by
    obtain ⟨⟨old, he⟩, o, ho, _, hd⟩ := st
    rcases List.mem_cons.mp hb with z | z
    · exact ⟨_, by rw [z]; exact he, fun v q => by
        have q' : Data.fields _ = Data.cell v := q
        cases q'⟩
    · exact ⟨o, by rw [List.mem_singleton.mp z]; exact ho, fun v q => by rw [hd] at q; cases q⟩
  keep := fun i h h' st k => ⟨st.1.elim fun old he => ⟨old, k e (by simp) _ he⟩, st.2.at fun o q => k it (by simp) o q⟩
  item := by
    intro X hP hw hK hc i pins s σ H E I hf st hg
    subst hP hw hK
    obtain ⟨⟨old, he⟩, hit⟩ := st
    obtain ⟨xs, x, hq, hx⟩ := hg
    obtain ⟨its, rv, tup, hz⟩ := I.tuple hq
    have isT : s.heap.IsTuple a its.toArray := tup
    have cls : ∀ b {o : Obj}, s.heap.get? b = some o → b = a → o.cls = .type "tuple" := fun b {o} q z => by
      obtain ⟨o2, q2, c2, _⟩ := isT
      rw [z, q2] at q
      cases q
      exact c2
    have hne : e ≠ it := fun z => by
      obtain ⟨o, ho, hc, _⟩ := hit
      rw [← z, he] at ho
      cases ho
      simp at hc
    have hea : e ≠ a := fun z => by simpa using cls e he z
    have hia : a ≠ it := fun z => by
      obtain ⟨o, ho, hc, _⟩ := hit
      have q := cls it ho z.symm
      rw [hc] at q
      simp at q
    have hli : i < its.toArray.size := by
      have h1 := (List.getElem?_eq_some_iff.mp hx).1
      have h2 := rv.length
      simp
      omega
    obtain ⟨u, hu, ru⟩ := rv.get hx
    refine wpAny_pyNext_enum_itemD (Draws.tuple (A := X.A.in1) (I.ok.hd hc) it a hia its.toArray) he ⟨hit, isT⟩ hli hne (by simp [hne, hea]) fun y h' tk hy ho st' hT hsz hk => ?_
    obtain rfl : y = u := by
      have q : its.toArray[i]? = some u := by simpa using hu
      have hy : its.toArray[i]? = some y := hy
      rw [q] at hy
      exact (Option.some.inj hy).symm
    refine ⟨_, rfl, wpAny_letOwnedTupleGo_enum (s := { s with heap := h', toks := tk + 1 }) ho fun h2 he2 sb => ?_⟩
    have hel : e < s.heap.objs.size := Heap.lt_size he
    have hil : it < s.heap.objs.size := by obtain ⟨_, q, _⟩ := hit; exact Heap.lt_size q
    have hT2 := (sb.2 _ (Nat.ne_of_gt hel)).trans hT
    have new : ObjOk X.prog X.w (upd H s.heap.objs.size (.tup [.int (i : Nat), x])) h2 s.heap.objs.size (.tup [.int (i : Nat), x]) :=
      ⟨by show 2 ≤ sizeLine; decide, [_, y], .cons ⟨_, rfl⟩ (.cons ru .nil), ⟨_, hT2, rfl, _, rfl⟩⟩
    have I1 := I.turnedNew (t' := tk + 1) (ch := [e, it]) (fun b ob hb q => (sb.2 b fun z => hb (by simp [z])).trans (hk b ob (fun z => hb (by simp [z])) (fun z => hb (by simp [z])) q)) hf (Nat.le_refl _) new
    refine ⟨.ref s.heap.objs.size, _, I1, rfl, ⟨_, x, rfl, I.hok.fresh (Nat.le_refl _), rfl, fun ys hy => by rw [I.tuple_inj hy hq]; exact hx⟩, ⟨⟨y, ?_⟩, st'.1.at fun o q => (sb.2 it (Ne.symm hne)).trans q⟩, fun b hb => ?_⟩
    · rw [show ((i + 1 : Nat) : Int) = (i : Int) + 1 by omega]
      exact he2
    · have lt : b < s.heap.objs.size := by
        rcases List.mem_cons.mp hb with z | z
        · rw [z]; exact hel
        · rw [List.mem_singleton.mp z]; exact hil
      exact (upd_ne (Nat.ne_of_lt lt)).trans (hf b hb).1
  done := by
    intro X hP hw hK hc i pins s σ H E I hf st hg
    subst hP hw hK
    obtain ⟨⟨old, he⟩, hit⟩ := st
    obtain ⟨xs, hq, hx⟩ := hg
    obtain ⟨its, rv, tup, hz⟩ := I.tuple hq
    have isT : s.heap.IsTuple a its.toArray := tup
    have hia : a ≠ it := fun z => by
      obtain ⟨o, ho, hc, _⟩ := hit
      obtain ⟨o2, q2, c2, _⟩ := isT
      rw [← z, q2] at ho
      cases ho
      rw [c2] at hc
      simp at hc
    obtain ⟨f0, f1, f2, f3, f4, f5⟩ := hf it (by simp)
    have hl := rv.length
    have hend : s.heap.IsTupleIter it a i ∧ s.heap.IsTuple a its.toArray := ⟨hit, isT⟩
    have hh : X.A.in1.handled = none := I.ok.hd hc
    have hT : s.TypeIs (.ref e) "enumerate" := ⟨_, he, rfl⟩
    refine wpAny_bind (wpAny_attempt (wpAny_callSpecial?_slot (name := Str.ofString "__next__") hT F.slot_enumerate_next (wpAny_call_entry F.slot_enumerate_next hT F.entry_enumerate_next ?_ (F.args_enumerate_next_1 _))))
    show wpAny _ _ (field (.ref e) 2 >>= _) _ _ _
    refine wpAny_bind (wpAny_field he rfl (x := .ref it) rfl (wpAny_bind (wpAny_nextOf_tuple_end hh hit isT (by simp; omega) fun h' x he' hx' => ?_)))
    obtain ⟨o, ho, hc'⟩ := hx'
    refine wpAny_bind (wpAny_isInstance (T := "StopIteration") (b := true) ⟨o, ho, hc'⟩ isSubtype_stop ?_)
    exact wpAny_pure ⟨rfl, I.turned (t' := s.toks) (fun b o hb q => he' b o hb q) f0 f1 f3 f4 f5⟩
  self := fun A i s Q E st h => st.1.elim fun _ he => wpAny_pyIter_enum he h
def iEnumT (K : PySem.W.Frag) (ta : TA) : TI := fun σ H R => ta σ H fun vs H1 => ∃ a xs, vs = [.ref a] ∧ SqT K H1 a xs ∧ R (IteT K a) H1
theorem pi_enumT {X : Cx} {e : Expr} {ta : TA} {p pos tpos : Pos} {elts : List Expr} {kk : Nat} (hg : Gl X "enumerate") (hm : X.mg "enumerate" = none) (ha : PA X [e] ta) (hs : starEach [e] X.env = [(false, eval e X.env)] := by rfl) :
    PI X (.Tuple elts kk tpos) (.Call (.Name "enumerate" p) [e] [] pos) (iEnumT X.K ta) := by
  constructor
  intro pins s σ H R I h
  refine Call_ (ld_blt I hg hm boot_enumerate (PyProof.Rows.callWith_type1 (thn (ha.run pos pins s σ H _ I h) fun us s1 ⟨vs, H1, I1, r1, a, xs, ex, hq, q⟩ => ?_) hs rfl))
  subst ex
  cases r1 with
  | cons r rr =>
    cases rr
    cases r
    obtain ⟨its, rv, tup, hz⟩ := I1.tuple hq
    have isT : s1.heap.IsTuple a its.toArray := tup
    refine call_enumT (begins_tuple a its.toArray) isT fun h' he hit hk => wpAny_pyIter_enum he ?_
    refine ⟨s1.heap.objs.size + 1, [s1.heap.objs.size + 1, s1.heap.objs.size], _, _, H1, rfl, I1.kept (t' := s1.toks) hk, turn_enumT a _ _, ⟨⟨_, he⟩, ⟨_, hit, rfl, rfl⟩⟩, fun b hb => ?_, q⟩
    have le : s1.heap.objs.size ≤ b := by
      rcases List.mem_cons.mp hb with z | z
      · rw [z]; omega
      · rw [List.mem_singleton.mp z]; exact Nat.le_refl _
    exact I1.fpOk le (I1.hok.fresh le)
def enuD (xs : List D) : List D := (List.range xs.length).zipWith (fun (i : Nat) x => D.nd .tup [.int i, x]) xs
def itEnum (me : M D) : M (List D) := mb me fun x => ml ((asT x).map enuD)
theorem enu_get {xs : List D} {i : Nat} {x : D} (h : (enuD xs)[i]? = some x) : ∃ y, xs[i]? = some y ∧ x = .nd .tup [.int i, y] := by
  unfold enuD at h
  rw [List.getElem?_zipWith] at h
  cases e : xs[i]? with
  | none => rw [e] at h; cases h2 : (List.range xs.length)[i]? <;> rw [h2] at h <;> simp at h
  | some y =>
    have hi := (List.getElem?_eq_some_iff.mp e).1
    rw [e, List.getElem?_range hi] at h
    exact ⟨y, rfl, by simpa using h.symm⟩
theorem enu_len {xs : List D} : (enuD xs).length = xs.length := by simp [enuD]
theorem ei_enum {X : Cx} {W : WX} {e : Expr} {me : M D} {p pos tpos : Pos} {elts : List Expr} {kk : Nat} (hg : Gl X "enumerate") (hm : X.mg "enumerate" = none) (he : ED X W e me) (hs : starEach [e] X.env = [(false, eval e X.env)] := by rfl) :
    EI X W (.Tuple elts kk tpos) (.Call (.Name "enumerate" p) [e] [] pos) (itEnum me) := by
  refine ⟨piImp (pi_enumT hg hm (ea_cons he ea_nil (by rw [hs]; rfl)).pa hs) fun σ H R q => ?_⟩
  obtain ⟨ln, c, Z, Fs, S, q⟩ := q
  refine ⟨ln, c, Z, Fs, S, ?_⟩
  unfold Run mCons itEnum mb mp at *
  cases e1 : me c with
  | stk => rw [e1] at q; exact q
  | er y c' => rw [e1] at q; exact q
  | ok y c1 =>
    rw [e1] at q
    simp only at q
    intro H1 Z1 F1 S1 T1 vs rvs
    have q : Run X.K W (ml ((asT y).map enuD)) σ ln c1 H Z Fs (fun xs c' H' Z' Fs' => ∀ J, Yl X.K J H' Z' xs → R J H') := q
    obtain ⟨ys, ey, h2⟩ := q.lift
    obtain ⟨xs, ex, rfl⟩ := Option.map_eq_some_iff.mp ey
    cases rvs with
    | cons r rr =>
      cases rr
      cases r with
      | @tup a us _ ha ra =>
        cases ex
        refine ⟨a, us, rfl, ha, h2 H1 Z1 F1 S1 T1 _ fun H' Z' E zl i => ?_⟩
        have qa := E.sqT ha
        refine ⟨fun x hx => ?_, fun hi => ⟨us, qa, by rw [enu_len] at hi; rw [← ra.length]; exact hi⟩⟩
        obtain ⟨y, hy, rfl⟩ := enu_get hx
        obtain ⟨u, hu, ru⟩ := ra.get' hy
        refine ⟨⟨us, u, qa, hu⟩, fun v H2 yl => ?_⟩
        obtain ⟨T, z, rfl, hT, rfl, f⟩ := yl
        have e3 : some z = some u := (f us qa).symm.trans hu
        obtain rfl : z = u := Option.some.inj e3
        have n := newTup (Z := Z') hT (.tup [.int (i : Nat), z])
        exact ⟨Z', n, rp_tup upd_same (.cons (.int _) (.cons ((ru.ext E).ext n.ext) .nil))⟩
      | _ => cases ex
@[simp] theorem itEnum_r {me : M D} {c : Ctx} : itEnum me c = (me c).bnd fun x => ml ((asT x).map enuD) := mb_r
@[simp] theorem asT_t {xs : List D} : asT (.nd .tup xs) = some xs := rfl
end Sw
set_option maxRecDepth 100000
set_option maxHeartbeats 4000000
namespace L2
open PySem PySem.Spec PyProof.Rows
theorem tuple_mul1 (l : Addr) (items : Array Value) (n : Nat) (dd : Option Addr) (sl : Array (Option Value)) (u : Tok) :
    Meets (Builtin.«tuple.__mul__» ⟨[.ref l, .int 1 u], []⟩) (fun _ R s => s.heap.get? l = some { cls := .type "tuple", dict := dd, data := .seq items n, slots := sl } ∧ R (.ok (.ret (Value.ref l))) s) := by
  refine .of_wp fun prog w A R s h => ?_
  obtain ⟨hp, g, d, tk, os⟩ := s
  obtain ⟨hl, h⟩ := h
  have f1 := AutoSeq1.idx_int
  have b : (items.isEmpty || (1 : Int) == 1) = true := by simp
  wp_walk using wpAny_loadPart' hl
  exact ⟨_, rfl, h⟩
def rRep1 (K : PySem.W.Frag) : R2 := fun x y H Q => ∃ l xs, x = .ref l ∧ y = .int 1 ∧ SqT K H l xs ∧ Q (.ref l) H
theorem op_rep1 {X : Cx} : OpR X (binaryOp .Mult) (rRep1 X.K) := by
  intro pins s σ H x y v u Q I rx ry h
  obtain ⟨l, xs, rfl, rfl, hT, q⟩ := h
  cases rx
  obtain ⟨t, rfl⟩ := ry
  obtain ⟨its, r, ⟨⟨cls, dd, data, sl⟩, ho, hc, n, hd⟩, hs⟩ := I.tuple hT
  simp only at hc hd
  subst hc hd
  exact wpAny_binaryOp_repeat_ref (T := "tuple") (U := "int") (by decide) ⟨_, ho, rfl⟩ (fun s' => typeIs_int s' 1 t) noFill_tuple_mul F.fills_int_mul F.slot_int_rmul repeat_tuple F.slot_int_index.lookup
    (call_meets F.slot_int_rmul (typeIs_int s 1 t) F.entry_int_rmul (F.args_int_rmul_2 _ _) (int_rmul_tuple 1 t l its.toArray n dd sl)
      ⟨ho, rfl, ⟨_, ho, rfl⟩, call_meets F.slot_tuple_mul ⟨_, ho, rfl⟩ F.entry_tuple_mul (F.args_tuple_mul_2 _ _) (tuple_mul1 l its.toArray n dd sl t) ⟨ho, .ref l, H, I, rfl, q⟩⟩)
end L2
namespace Sw
open PySem PySem.Spec L2
/-! ### a tuple, so many times -/
def gTMul : D → D → Option D
  | .nd .tup xs, .int k => if xs ≠ [] ∧ xs.length ≤ 1000 ∧ 1 ≤ k ∧ k ≤ 1000 then some (.nd .tup (List.replicate k.toNat xs).flatten) else none
  | _, _ => none
def rTM (K : PySem.W.Frag) : R2 := fun x y H Q => rRepT K x y H Q ∨ rRep1 K x y H Q
theorem op_tmul {X : Cx} : OpR X (binaryOp .Mult) (rTM X.K) := op_repT.or op_rep1
theorem rps_rep {K : PySem.W.Frag} {H : Hp} {Z : Zs} {xs : List D} {vs : List V} (r : Rps K H Z xs vs) : ∀ n : Nat, Rps K H Z (List.replicate n xs).flatten (List.replicate n vs).flatten
  | 0 => .nil
  | n + 1 => by
    rw [List.replicate_succ, List.replicate_succ, List.flatten_cons, List.flatten_cons]
    exact r.append (rps_rep r n)
theorem dop_tmul (K : PySem.W.Frag) : DOp K (rTM K) gTMul := by
  intro H Z x y dx dy dz rx ry zl e Q q
  unfold gTMul at e
  split at e
  · split at e
    · rename_i k h
      cases e
      cases ry.i
      obtain ⟨a, vs, rfl, ha, r⟩ := rx.tp
      have hl := r.length
      by_cases h1 : k = 1
      · subst h1
        refine .inr ⟨a, vs, rfl, rfl, ha, q _ H Z .refl ?_⟩
        rw [show (List.replicate (1 : Int).toNat _).flatten = _ from List.append_nil _]
        exact .tup ha r
      · refine .inl ⟨a, k, vs, rfl, rfl, ha, fun z => h.1 (by rw [z] at hl; exact List.eq_nil_of_length_eq_zero hl), by omega, h.2.2.2, by omega, fun p hp => ?_⟩
        have n := newTup (Z := Z) hp (.tup (List.replicate k.toNat vs).flatten)
        exact q _ _ Z n (rp_tup upd_same (rps_rep (r.ext n.ext) _))
    · cases e
  · cases e
theorem gTMul_i {xs : List D} {k : Int} (h : xs ≠ [] ∧ xs.length ≤ 1000 ∧ 1 ≤ k ∧ k ≤ 1000) : gTMul (.nd .tup xs) (.int k) = some (.nd .tup (List.replicate k.toNat xs).flatten) := if_pos h
end Sw
set_option maxRecDepth 100000
set_option maxHeartbeats 4000000
namespace Sw
open PySem PySem.Spec L2

/-! ### the purse, a draw -/
def tkv (p : Int × Int) (n : Int) : Int := if p.1 = 0 then p.2 % n else p.1 % n
def tkp (p : Int × Int) (n : Int) : Int × Int := if p.1 = 0 then (p.1, p.2 / n) else (p.1 / n, p.2)
def enP (p : Int × Int) : O := .lst [.int p.1, .int p.2]
theorem tkv_lo (p : Int × Int) {n : Int} (h : 0 < n) : 0 ≤ tkv p n := by
  unfold tkv
  split <;> exact Int.emod_nonneg _ (by omega)
theorem tkv_hi (p : Int × Int) {n : Int} (h : 0 < n) : tkv p n < n := by
  unfold tkv
  split <;> exact Int.emod_lt_of_pos _ h
def mTakeD : M Out :=
  mSeq (mSet 2 (mCl gInt (lCons (lv (m2 hEq (lv (m2 gIx (lName 0) (lv (mp (.int 0))))) (lv (mp (.int 0))))) (mp []))))
  (mSeq (mSet 3 (m2 gMod (lv (m2 gIx (lName 0) (lv (mVar 2)))) (lv (mVar 1))))
  (mSeq (mPut 0 (m2 gDiv (lv (m2 gIx (lName 0) (lv (mVar 2)))) (lv (mVar 1))) (mVar 2))
  (mRet (mVar 3))))
def fTake : Fd := fnM 4 mTakeD
theorem take_run (p : Int × Int) {n : Int} (hn : 0 < n) (hn2 : n < 1000) : ∃ x y, fTake [.l (enP p), .d (.int n)] = .ok (.d (.int (tkv p n))) [.l (enP (tkp p n)), .d (.int n), x, y] := by
  obtain ⟨a, b⟩ := p
  have hc : ∀ i, L2.CDiv i n := fun i => ⟨hn, by omega⟩
  unfold fTake
  rw [fnM_r]
  unfold mTakeD enP tkv tkp
  by_cases h : a = 0
  · subst h
    simp [gMod_i hn, gDiv_i (hc _), lPut_r]
  · simp [h, gMod_i hn, gDiv_i (hc _), lPut_r]
/-- the call of it, within -/
theorem take_call {i : Nat} {n : Int} {c : Ctx} {k : O → Sv} {p : Int × Int} (hk : k = Sv.o ∨ k = Sv.l) (hc : c.getD i .no = k (enP p)) (hn : 0 < n) (hn2 : n < 1000) :
    mCallA fTake (aL i (aD (mp (.int n)) aNil)) c = .ok (.d (.int (tkv p n))) (c.set i (k (enP (tkp p n)))) := by
  obtain ⟨x, y, e⟩ := take_run p hn hn2
  have hc' : c[i]?.getD .no = k (enP p) := by rw [← List.getD_eq_getElem?_getD]; exact hc
  rcases hk with rfl | rfl
  · rw [mCallA_r, aL_r, hc]
    simp [hc', e]
  · rw [mCallA_r, aL_r, hc]
    simp [hc', e]
def mPurseD : M Out :=
  mSeq (mSet 1 (m2 gMod (lv (mVar 0)) (lv (mp (.int 2147483647)))))
  (mSeq (mSet 2 (mp (.int 1)))
  (mSeq (mForS (itR rng1 (mCons (mp (.int 16)) (mp []))) (gN 3) (mSeq (mSet 1 (m2 gMod (lv (m2 gAdd (lv (m2 gAdd (lv (m2 gAdd (lv (m2 gMul (lv (mVar 1)) (lv (mVar 1)))) (lv (m2 gMul (lv (m2 gMul (lv (mp (.int 48271))) (lv (mVar 3)))) (lv (mVar 3)))))) (lv (mVar 3)))) (lv (mp (.int 3))))) (lv (mp (.int 2147483629)))))
  (mSet 2 (m2 gAdd (lv (m2 gMul (lv (mVar 2)) (lv (mp (.int 2147483587))))) (lv (m2 gMod (lv (m2 gMul (lv (mVar 1)) (lv (mVar 1)))) (lv (mp (.int 2147483587)))))))))
  (mSeq (mIfS (mT (m2 hEq (lv (m2 gMod (lv (mVar 0)) (lv (mp (.int 2))))) (lv (mp (.int 0))))) (mRetO (mLst (mCons (m2 gDiv (lv (mCl gAbs (lCons (lv (mVar 0)) (mp [])))) (lv (mp (.int 2)))) (mCons (mVar 2) (mp []))))) (mp .nx))
  (mRetO (mLst (mCons (mp (.int 0)) (mCons (mVar 2) (mp []))))))))
def fPurse : Fd := fnM 4 mPurseD
def mPurseB : M Out := mSeq (mSet 1 (m2 gMod (lv (m2 gAdd (lv (m2 gAdd (lv (m2 gAdd (lv (m2 gMul (lv (mVar 1)) (lv (mVar 1)))) (lv (m2 gMul (lv (m2 gMul (lv (mp (.int 48271))) (lv (mVar 3)))) (lv (mVar 3)))))) (lv (mVar 3)))) (lv (mp (.int 3))))) (lv (mp (.int 2147483629)))))
  (mSet 2 (m2 gAdd (lv (m2 gMul (lv (mVar 2)) (lv (mp (.int 2147483587))))) (lv (m2 gMod (lv (m2 gMul (lv (mVar 1)) (lv (mVar 1)))) (lv (mp (.int 2147483587)))))))
theorem mod_pos {i j : Int} (h : 0 < j) : 0 ≤ i % j ∧ i % j < j := ⟨Int.emod_nonneg _ (by omega), Int.emod_lt_of_pos _ h⟩
theorem purse_step (z n g i A B C : Int) (hA : A = 48271) (hB : B = 2147483629) (hC : C = 2147483587) (n0 : 0 ≤ n) (n1 : n < 2147483648) (i0 : 0 ≤ i) (i1 : i < 16) :
    ∃ n' g', (mSeq (mSet 1 (m2 gMod (lv (m2 gAdd (lv (m2 gAdd (lv (m2 gAdd (lv (m2 gMul (lv (mVar 1)) (lv (mVar 1)))) (lv (m2 gMul (lv (m2 gMul (lv (mp (.int A))) (lv (mVar 3)))) (lv (mVar 3)))))) (lv (mVar 3)))) (lv (mp (.int 3))))) (lv (mp (.int B)))))
  (mSet 2 (m2 gAdd (lv (m2 gMul (lv (mVar 2)) (lv (mp (.int C))))) (lv (m2 gMod (lv (m2 gMul (lv (mVar 1)) (lv (mVar 1)))) (lv (mp (.int C)))))))) [.d (.int z), .d (.int n), .d (.int g), .d (.int i)] = .ok .nx [.d (.int z), .d (.int n'), .d (.int g'), .d (.int i)] ∧ 0 ≤ n' ∧ n' < 2147483648 := by
  have hB0 : 0 < B := by omega
  have hC0 : 0 < C := by omega
  have m1 : CMul n n := .inl ⟨by omega, by omega⟩
  have m2' : CMul A i := .inl ⟨by omega, by omega⟩
  have m3 : CMul (A * i) i := .inr ⟨by omega, by omega⟩
  have m4 : CMul g C := .inr ⟨by omega, by omega⟩
  obtain ⟨q0, q1⟩ := mod_pos (i := n * n + A * i * i + i + 3) hB0
  have m5 : CMul ((n * n + A * i * i + i + 3) % B) ((n * n + A * i * i + i + 3) % B) := .inl ⟨by omega, by omega⟩
  refine ⟨(n * n + A * i * i + i + 3) % B, g * C + (n * n + A * i * i + i + 3) % B * ((n * n + A * i * i + i + 3) % B) % C, ?_, q0, by omega⟩
  generalize hq : (n * n + A * i * i + i + 3) % B = nn at *
  simp [gMul_i m1, gMul_i m2', gMul_i m3, gMul_i m4, gMod_i hB0, gMod_i hC0, hq, gMul_i m5]
theorem purse_loop (z f n0' : Int) (h0 : 0 ≤ n0') (h1 : n0' < 2147483648) : ∃ c', mFor (gN 3) (mSeq (mSet 1 (m2 gMod (lv (m2 gAdd (lv (m2 gAdd (lv (m2 gAdd (lv (m2 gMul (lv (mVar 1)) (lv (mVar 1)))) (lv (m2 gMul (lv (m2 gMul (lv (mp (.int 48271))) (lv (mVar 3)))) (lv (mVar 3)))))) (lv (mVar 3)))) (lv (mp (.int 3))))) (lv (mp (.int 2147483629)))))
  (mSet 2 (m2 gAdd (lv (m2 gMul (lv (mVar 2)) (lv (mp (.int 2147483587))))) (lv (m2 gMod (lv (m2 gMul (lv (mVar 1)) (lv (mVar 1)))) (lv (mp (.int 2147483587)))))))) (rng 0 16) [.d (.int z), .d (.int n0'), .d (.int f), .no] = .ok .nx c' ∧ ∃ n g s, c' = [.d (.int z), .d (.int n), .d (.int g), s] ∧ 0 ≤ n ∧ n < 2147483648 := by
  refine mFor_run (fun _ c' => ∃ n g s, c' = [.d (.int z), .d (.int n), .d (.int g), s] ∧ 0 ≤ n ∧ n < 2147483648) ⟨_, _, _, rfl, h0, h1⟩ ?_
  rintro i x c hx ⟨n, g, s, rfl, n0, n1⟩
  obtain ⟨hi, rfl⟩ := rng_get hx
  rw [Int.zero_add]
  obtain ⟨n', g', e, a, b⟩ := purse_step z n g i 48271 2147483629 2147483587 rfl rfl rfl n0 n1 (by omega) (by omega)
  exact ⟨_, _, rfl, .inl e, _, _, _, rfl, a, b⟩
theorem purse_run (z : Int) : ∃ p c, fPurse [.d (.int z)] = .ok (.o (enP p)) c := by
  unfold fPurse
  rw [fnM_r]
  unfold mPurseD
  obtain ⟨h0, h1⟩ := mod_pos (i := z) (j := 2147483647) (by omega)
  obtain ⟨c', e, n, g, s, rfl, n0, n1⟩ := purse_loop z 1 (z % 2147483647) h0 (by omega)
  have hd : ∀ i : Int, CDiv i 2 := fun i => ⟨by decide, by decide⟩
  by_cases h2 : z % 2 = 0
  · refine ⟨((if z < 0 then -z else z) / 2, g), [.d (.int z), .d (.int n), .d (.int g), s], ?_⟩
    simp [gMod_i, e, h2, gDiv_i (hd _), rng1_i, enP]
  · refine ⟨(0, g), [.d (.int z), .d (.int n), .d (.int g), s], ?_⟩
    simp [gMod_i, e, h2, gDiv_i (hd _), rng1_i, enP]
end Sw
set_option maxRecDepth 100000
set_option maxHeartbeats 4000000
namespace Sw
open PySem PySem.Spec L2

/-! ### a speech, drawn -/
abbrev Sp := List (Str × Int)
def enF (q : Str × Int) : D := .nd .tup [.str q.1, .int q.2]
def enSp (sp : Sp) : D := .nd .tup (sp.map enF)
def prodN : List (Str × Int) → Int
  | [] => 1
  | q :: r => q.2 * prodN r
theorem prodN_app (a : List (Str × Int)) (q : Str × Int) : prodN (a ++ [q]) = prodN a * q.2 := by
  induction a with
  | nil => simp [prodN]
  | cons x a ih => simp only [List.cons_append, prodN, ih, Int.mul_assoc]
def signN (f : Int) (j : Nat) : Nat := 97 + ((f + 9 * (j : Int)) % 26).toNat
def nameOf (f : Int) (tail : Str) (j : Nat) : Str := (⟨#[signN f j]⟩ : Str) ++ tail
structure GoodSp (sp : Sp) (f : Int) (tail : Str) : Prop where
  len : sp.length ≤ 3
  pos : 1 ≤ sp.length
  cnt : ∀ q ∈ sp, 1 ≤ q.2 ∧ q.2 ≤ 6
  prod : prodN sp ≤ 24
  f0 : 0 ≤ f
  f1 : f < 26
  tl : tail.length ≤ 7
  tk : PySem.PyData.strOk tail = true
  asc : tail.cps.toList.all (fun c => decide (c < 128)) = true
  names : sp.map (·.1) = (List.range sp.length).map (nameOf f tail)
theorem az_at {i : Int} (h0 : 0 ≤ i) (h1 : i < 26) : gIx (.str "abcdefghijklmnopqrstuvwxyz") (.int i) = some (.str ⟨#[97 + i.toNat]⟩) := by
  have e : ("abcdefghijklmnopqrstuvwxyz" : Str).cps.toList = (List.range 26).map (97 + ·) := by decide +kernel
  have l : ("abcdefghijklmnopqrstuvwxyz" : Str).length ≤ sizeLine := by rw [sizeLine_big]; decide +kernel
  show (if ("abcdefghijklmnopqrstuvwxyz" : Str).length ≤ sizeLine then (L2.atI ("abcdefghijklmnopqrstuvwxyz" : Str).cps.toList i).map fun c => D.str ⟨#[c]⟩ else none) = _
  rw [if_pos l, e, atI_pos h0, List.getElem?_map, List.getElem?_range (by omega)]
  rfl
theorem tail_ok {t : Int} (h0 : 0 ≤ t) (h1 : t < 8) : (cutS "abcdefg" none (some t)).length ≤ 7 ∧ PySem.PyData.strOk (cutS "abcdefg" none (some t)) = true := by
  have h : t = 0 ∨ t = 1 ∨ t = 2 ∨ t = 3 ∨ t = 4 ∨ t = 5 ∨ t = 6 ∨ t = 7 := by omega
  rcases h with rfl | rfl | rfl | rfl | rfl | rfl | rfl | rfl <;> decide +kernel
theorem tail_asc {t : Int} (h0 : 0 ≤ t) (h1 : t < 8) : (cutS "abcdefg" none (some t)).cps.toList.all (fun c => decide (c < 128)) = true := by
  have h : t = 0 ∨ t = 1 ∨ t = 2 ∨ t = 3 ∨ t = 4 ∨ t = 5 ∨ t = 6 ∨ t = 7 := by omega
  rcases h with rfl | rfl | rfl | rfl | rfl | rfl | rfl | rfl <;> decide +kernel
theorem eight {t : Int} (h0 : 0 ≤ t) (h1 : t < 8) : ∃ v : Int, L2.atI [D.int 8, .int 8, .int 6, .int 8, .int 12, .int 8, .int 4, .int 24] t = some (.int v) ∧ 1 ≤ v ∧ v ≤ 24 := by
  have h : t = 0 ∨ t = 1 ∨ t = 2 ∨ t = 3 ∨ t = 4 ∨ t = 5 ∨ t = 6 ∨ t = 7 := by omega
  rcases h with rfl | rfl | rfl | rfl | rfl | rfl | rfl | rfl
  · exact ⟨8, rfl, by omega, by omega⟩
  · exact ⟨8, rfl, by omega, by omega⟩
  · exact ⟨6, rfl, by omega, by omega⟩
  · exact ⟨8, rfl, by omega, by omega⟩
  · exact ⟨12, rfl, by omega, by omega⟩
  · exact ⟨8, rfl, by omega, by omega⟩
  · exact ⟨4, rfl, by omega, by omega⟩
  · exact ⟨24, rfl, by omega, by omega⟩
theorem six {t : Int} (h0 : 0 ≤ t) (h1 : t < 6) : ∃ v : Int, L2.atI [D.int 2, .int 3, .int 4, .int 1, .int 6, .int 5] t = some (.int v) ∧ 1 ≤ v ∧ v ≤ 6 := by
  have h : t = 0 ∨ t = 1 ∨ t = 2 ∨ t = 3 ∨ t = 4 ∨ t = 5 := by omega
  rcases h with rfl | rfl | rfl | rfl | rfl | rfl
  · exact ⟨2, rfl, by omega, by omega⟩
  · exact ⟨3, rfl, by omega, by omega⟩
  · exact ⟨4, rfl, by omega, by omega⟩
  · exact ⟨1, rfl, by omega, by omega⟩
  · exact ⟨6, rfl, by omega, by omega⟩
  · exact ⟨5, rfl, by omega, by omega⟩
/-- the body of the loop over the fields -/
def mSpB (F_law_take : Fd) : M Out := mSeq (mSet 10 (mCl gMin (lCons (lv (m2 gIx (lv (mFz (mLst (mCons (mp (.int 2)) (mCons (mp (.int 3)) (mCons (mp (.int 4)) (mCons (mp (.int 1)) (mCons (mp (.int 6)) (mCons (mp (.int 5)) (mp [])))))))))) (lv (mRvD (mCallA F_law_take (aL 2 (aD (mp (.int 6)) (aNil)))))))) (lCons (lv (mVar 5)) (mp [])))))
  (mSeq (mSet 5 (m2 gDiv (lv (mVar 5)) (lv (mVar 10))))
  (mDrop (mApp 8 (mTup (mCons (m2 gAdd (lv (m2 gIx (lv (mVar 4)) (lv (m2 gMod (lv (m2 gAdd (lv (mVar 3)) (lv (m2 gMul (lv (mp (.int 9))) (lv (mVar 9)))))) (lv (mp (.int 26))))))) (lv (mVar 7))) (mCons (mVar 10) (mp [])))))))
def cxSp (z ls : D) (p : Int × Int) (first left many : Int) (tail : Str) (acc : Sp) (a b : Sv) : Ctx :=
  [.d z, .d ls, .o (enP p), .d (.int first), .d (.str "abcdefghijklmnopqrstuvwxyz"), .d (.int left), .d (.int many), .d (.str tail), .o (.lst (acc.map enF)), a, b]
theorem spB_run {z ls : D} {p : Int × Int} {first left many : Int} {tail : Str} {acc : Sp} {b : Sv} {k : Nat} (hl : 1 ≤ left) (ht : tail.length ≤ 7) (ha : acc.length < 10) (hk : k < 10) :
    ∃ cnt : Int, ∃ p', (mSpB fTake) (cxSp z ls p first left many tail acc (.d (.int (k : Int))) b) = .ok .nx (cxSp z ls p' first (left / cnt) many tail (acc ++ [(nameOf first tail k, cnt)]) (.d (.int (k : Int))) (.d (.int cnt))) ∧ 1 ≤ cnt ∧ cnt ≤ 6 ∧ cnt ≤ left := by
  obtain ⟨v, ev, v1, v6⟩ := six (tkv_lo p (n := 6) (by omega)) (tkv_hi p (by omega))
  obtain ⟨x, y, et⟩ := take_run p (n := 6) (by omega) (by omega)
  obtain ⟨cnt, hc⟩ : ∃ cnt, (if left < v then left else v) = cnt := ⟨_, rfl⟩
  have hcc : 1 ≤ cnt ∧ cnt ≤ 6 ∧ cnt ≤ left := by rw [← hc]; split <;> omega
  have hd : CDiv left cnt := ⟨by omega, by omega⟩
  have hm : CMul 9 (k : Int) := .inl ⟨by decide, by decide⟩
  obtain ⟨m0, m1⟩ := mod_pos (i := first + 9 * (k : Int)) (j := 26) (by omega)
  have en : gAdd (.str ⟨#[97 + ((first + 9 * (k : Int)) % 26).toNat]⟩) (.str tail) = some (.str (nameOf first tail k)) := by
    rw [gAdd_s (by show 1 + tail.length ≤ _; omega)]
    rfl
  refine ⟨cnt, tkp p 6, ?_, hcc⟩
  unfold mSpB cxSp
  have ha2 : acc.length < 16777216 := by omega
  simp [et, ev, hc, gDiv_i hd, gMul_i hm, gMod_i, az_at m0 m1, en, ha2, enF]
/-- the fields, all of them -/
theorem spFor_run {z ls : D} {p : Int × Int} {first left many : Int} {tail : Str} (hl : 1 ≤ left) (hl2 : left ≤ 24) (ht : tail.length ≤ 7) (hm0 : 0 ≤ many) (hm : many < 10) :
    ∃ p' left' acc a b, mFor (gN 9) (mSpB fTake) (rng 0 many.toNat) (cxSp z ls p first left many tail [] .no .no) = .ok .nx (cxSp z ls p' first left' many tail acc a b) ∧ acc.length = many.toNat ∧ (∀ q ∈ acc, 1 ≤ q.2 ∧ q.2 ≤ 6) ∧ prodN acc ≤ 24 ∧
      acc.map (·.1) = (List.range acc.length).map (nameOf first tail) := by
  obtain ⟨c', e, p', left', acc, a, b, rfl, h1, h2, h3, h4, h5, h6⟩ := mFor_run (g := gN 9) (b := mSpB fTake) (xs := rng 0 many.toNat) (c := cxSp z ls p first left many tail [] .no .no)
    (fun i c => ∃ p' left' acc a b, c = cxSp z ls p' first left' many tail acc a b ∧ acc.length = i ∧ 1 ≤ left' ∧ (∀ q ∈ acc, 1 ≤ q.2 ∧ q.2 ≤ 6) ∧ 1 ≤ prodN acc ∧ prodN acc * left' ≤ 24 ∧ acc.map (·.1) = (List.range acc.length).map (nameOf first tail))
    ⟨p, left, [], .no, .no, rfl, rfl, hl, fun q h => by simp at h, by simp [prodN], by simp [prodN]; omega, rfl⟩ (by
      rintro i x c hx ⟨p1, left1, acc, a, b, rfl, h1, h2, h3, h4, h5, h6⟩
      obtain ⟨hi, rfl⟩ := rng_get hx
      rw [Int.zero_add]
      obtain ⟨cnt, p2, e, c1, c6, cl⟩ := spB_run (z := z) (ls := ls) (p := p1) (first := first) (left := left1) (many := many) (tail := tail) (acc := acc) (b := b) (k := i) h2 ht (by omega) (by omega)
      have d1 : 1 ≤ left1 / cnt := by
        have := Int.le_ediv_of_mul_le (by omega : (0 : Int) < cnt) (by omega : 1 * cnt ≤ left1)
        omega
      have d2 : cnt * (left1 / cnt) ≤ left1 := Int.mul_ediv_self_le (by omega)
      have d3 : prodN acc * (cnt * (left1 / cnt)) ≤ prodN acc * left1 := Int.mul_le_mul_of_nonneg_left d2 (by omega)
      refine ⟨cxSp z ls p1 first left1 many tail acc (.d (.int (i : Int))) b, _, by simp [cxSp], .inl e, p2, _, _, _, _, rfl, by simp [h1], d1, fun q hq => ?_, ?_, ?_, ?_⟩
      · rcases List.mem_append.mp hq with hq | hq
        · exact h3 q hq
        · rw [List.mem_singleton.mp hq]; exact ⟨c1, c6⟩
      · rw [prodN_app]
        have := Int.mul_le_mul (a := 1) (b := 1) (c := prodN acc) (d := cnt) h4 c1 (by omega) (by omega)
        show 1 ≤ prodN acc * cnt
        omega
      · rw [prodN_app]
        show prodN acc * cnt * (left1 / cnt) ≤ 24
        rw [Int.mul_assoc]
        omega
      · rw [List.map_append, List.length_append, h6, List.length_singleton, List.range_succ, List.map_append, List.map_singleton, List.map_singleton, h1])
  refine ⟨p', left', acc, a, b, e, ?_, h3, ?_, h6⟩
  · rw [h1]; simp [rng]
  · have : prodN acc * 1 ≤ prodN acc * left' := Int.mul_le_mul_of_nonneg_left h2 (by omega)
    omega
def mSpeechD (F_law_purse : Fd) (F_law_take : Fd) : M Out :=
  mSeq (mSetO 2 (mRvO (mCallA F_law_purse (aD (mVar 0) (aNil)))))
  (mSeq (mSet 3 (mRvD (mCallA F_law_take (aL 2 (aD (mp (.int 26)) (aNil))))))
  (mSeq (mSet 4 (mp (.str "abcdefghijklmnopqrstuvwxyz")))
  (mSeq (mSet 5 (m2 gIx (lv (mFz (mLst (mCons (mp (.int 8)) (mCons (mp (.int 8)) (mCons (mp (.int 6)) (mCons (mp (.int 8)) (mCons (mp (.int 12)) (mCons (mp (.int 8)) (mCons (mp (.int 4)) (mCons (mp (.int 24)) (mp [])))))))))))) (lv (mRvD (mCallA F_law_take (aL 2 (aD (mp (.int 8)) (aNil))))))))
  (mSeq (mSet 6 (mCl gMax (lCons (lv (mVar 1)) (lCons (lv (m2 gAdd (lv (mp (.int 1))) (lv (mRvD (mCallA F_law_take (aL 2 (aD (mp (.int 3)) (aNil)))))))) (mp [])))))
  (mSeq (mSet 7 (mSl gSl (lv (mp (.str "abcdefg"))) (mp none) (mPart (mRvD (mCallA F_law_take (aL 2 (aD (mp (.int 8)) (aNil))))))))
  (mSeq (mSetO 8 (mLst (mp [])))
  (mSeq (mForS (itR rng1 (mCons (mVar 6) (mp []))) (gN 9) (mSpB F_law_take))
  (mRet (mCl gTuple (lCons (lName 8) (mp [])))))))))))
def fSpeech : Fd := fnM 11 (mSpeechD fPurse fTake)
theorem speech_run (z least : Int) (h1 : 1 ≤ least) (h3 : least ≤ 3) : ∃ sp f tail c, fSpeech [.d (.int z), .d (.int least)] = .ok (.d (enSp sp)) c ∧ GoodSp sp f tail ∧ least ≤ sp.length := by
  obtain ⟨p0, c0, ep⟩ := purse_run z
  obtain ⟨x1, y1, e1⟩ := take_run p0 (n := 26) (by omega) (by omega)
  obtain ⟨x2, y2, e2⟩ := take_run (tkp p0 26) (n := 8) (by omega) (by omega)
  obtain ⟨x3, y3, e3⟩ := take_run (tkp (tkp p0 26) 8) (n := 3) (by omega) (by omega)
  obtain ⟨x4, y4, e4⟩ := take_run (tkp (tkp (tkp p0 26) 8) 3) (n := 8) (by omega) (by omega)
  have f0 := tkv_lo p0 (n := 26) (by omega)
  have f1 := tkv_hi p0 (n := 26) (by omega)
  obtain ⟨left, el, l1, l24⟩ := eight (tkv_lo (tkp p0 26) (n := 8) (by omega)) (tkv_hi (tkp p0 26) (by omega))
  have t0 := tkv_lo (tkp (tkp p0 26) 8) (n := 3) (by omega)
  have t1 := tkv_hi (tkp (tkp p0 26) 8) (n := 3) (by omega)
  have u0 := tkv_lo (tkp (tkp (tkp p0 26) 8) 3) (n := 8) (by omega)
  have u1 := tkv_hi (tkp (tkp (tkp p0 26) 8) 3) (n := 8) (by omega)
  obtain ⟨many, hm⟩ : ∃ many, (if 1 + tkv (tkp (tkp p0 26) 8) 3 > least then 1 + tkv (tkp (tkp p0 26) 8) 3 else least) = many := ⟨_, rfl⟩
  have hmm : least ≤ many ∧ many ≤ 3 := by rw [← hm]; split <;> omega
  obtain ⟨tl, tk⟩ := tail_ok u0 u1
  have et : gSl (.str "abcdefg") none (some (tkv (tkp (tkp (tkp p0 26) 8) 3) 8)) = some (.str (cutS "abcdefg" none (some (tkv (tkp (tkp (tkp p0 26) 8) 3) 8)))) := gSl_str (by decide +kernel)
  obtain ⟨p', left', acc, a, b, ef, h4, h5, h6, h7⟩ := spFor_run (z := .int z) (ls := .int least) (p := tkp (tkp (tkp (tkp p0 26) 8) 3) 8) (first := tkv p0 26) (left := left) (many := many) (tail := cutS "abcdefg" none (some (tkv (tkp (tkp (tkp p0 26) 8) 3) 8))) l1 l24 tl (by omega) (by omega)
  refine ⟨acc, tkv p0 26, cutS "abcdefg" none (some (tkv (tkp (tkp (tkp p0 26) 8) 3) 8)), cxSp (.int z) (.int least) p' (tkv p0 26) left' many (cutS "abcdefg" none (some (tkv (tkp (tkp (tkp p0 26) 8) 3) 8))) acc a b, ?_, ⟨by omega, by omega, h5, h6, f0, f1, tl, tk, tail_asc u0 u1, h7⟩, by omega⟩
  unfold fSpeech
  rw [fnM_r]
  unfold mSpeechD
  have hr : rng1 [.int many] = some (rng 0 many.toNat) := rng1_i ⟨by omega, by omega⟩
  unfold cxSp at ef ⊢
  rw [List.map_nil] at ef
  simp [ep, e1, e2, e3, e4, el, hm, et, hr, ef, enSp]
end Sw
set_option maxRecDepth 100000
set_option maxHeartbeats 4000000
namespace Sw
open PySem PySem.Spec L2

/-! ### all letters -/
def csOf (sp : Sp) : List Nat := sp.map fun q => q.2.toNat
def addV (l : List Int) : D → D
  | .int v => enL (l ++ [v])
  | _ => .non
theorem rng_addV (l : List Int) (n : Nat) : (rng 0 n).map (addV l) = (grow1 n l).map enL := by
  unfold rng grow1
  rw [List.map_map, List.map_map]
  refine List.map_congr_left fun v _ => ?_
  show enL (l ++ [0 + (v : Int)]) = enL (l ++ [(v : Int)])
  rw [Int.zero_add]
theorem foldl_grow_le : ∀ (ds : List Nat) (fs : List (List Int)), (∀ d ∈ ds, 1 ≤ d) → fs.length ≤ (ds.foldl growL fs).length
  | [], fs, _ => Nat.le_refl _
  | d :: ds, fs, h => by
    have h1 := h d List.mem_cons_self
    have := foldl_grow_le ds (growL fs d) fun e he => h e (List.mem_cons_of_mem _ he)
    rw [growL_length] at this
    have h2 : fs.length * 1 ≤ fs.length * d := Nat.mul_le_mul_left _ h1
    rw [List.foldl_cons]
    omega
theorem lettersC_take_le {cs : List Nat} (h : ∀ d ∈ cs, 1 ≤ d) (i : Nat) : (lettersC (cs.take i)).length ≤ (lettersC cs).length := by
  have e : lettersC cs = (cs.drop i).foldl growL (lettersC (cs.take i)) := by
    unfold lettersC
    rw [← List.foldl_append, List.take_append_drop]
  rw [e]
  exact foldl_grow_le _ _ fun d hd => h d (List.mem_of_mem_drop hd)
theorem lettersC_snoc {cs : List Nat} {i d : Nat} (h : cs[i]? = some d) : lettersC (cs.take (i + 1)) = growL (lettersC (cs.take i)) d := by
  unfold lettersC
  rw [List.take_add_one, h, List.foldl_append]
  rfl
/-- the letters one longer, of one letter -/
theorem one_run {c : Ctx} {l : List Int} {n : Int} {a b : Nat} (ha : c.getD 5 .no = .d (enL l)) (hn : c.getD 3 .no = .d (.int n)) (n0 : 0 ≤ n) (n1 : n ≤ 1000) (hl : l.length ≤ 1000) (h7 : c.length = 7) :
    mLc [6] (itR rng1 (mCons (mVar 3) (mp []))) (gN 6) (mp true) (m2 gAdd (lv (mVar 5)) (lv (mTup (mCons (mVar 6) (mp []))))) c = .ok (.lst ((grow1 n.toNat l).map enL)) (c.set 6 .no) := by
  rw [← rng_addV]
  match c, h7 with
  | [c0, c1, c2, c3, c4, c5, c6], _ =>
  have ha : c5 = .d (enL l) := ha
  have hn : c3 = .d (.int n) := hn
  subst ha hn
  refine mLc_map (addV l) (c1 := [c0, c1, c2, .d (.int n), c4, .d (enL l), c6]) ?_ (by simp) (fun x hx => ?_) (by simp [rng]; omega)
  · simp [rng1_i (show -(2 ^ 60) ≤ n ∧ n < 2 ^ 60 from ⟨by omega, by omega⟩)]
  · obtain ⟨v, hv, rfl⟩ := List.mem_map.mp hx
    refine ⟨[c0, c1, c2, .d (.int n), c4, .d (enL l), .d (.int (0 + (v : Int)))], ?_, by simp⟩
    simp [enL, gAdd_t (show (l.map D.int).length + [D.int (v : Int)].length ≤ 16777216 by simp; omega), addV]
def mLettersP : M Out :=
  mSeq (mSetO 1 (mLst (mCons (mTup (mp [])) (mp []))))
  (mSeq (mForS (itS (mVar 0)) (gS 2 (gCons' (gN 2) (gCons' (gN 3) (gNil')))) (mSeq (mSetO 4 (mLst (mp [])))
  (mSeq (mForOwn 1 (gN 5) (mAugL 4 (mFz (mLc [6] (itR rng1 (mCons (mVar 3) (mp []))) (gN 6) (mp true) (m2 gAdd (lv (mVar 5)) (lv (mTup (mCons (mVar 6) (mp [])))))))))
  (mSetO 1 (mTake 4)))))
  (mRetO (mTake 1)))
def fLettersP : Fd := fnM 7 mLettersP
theorem lettersP_inner {S : D} {f : Sv} {n : Int} {s5 s6 : Sv} {fs : List (List Int)} (n0 : 0 ≤ n) (n1 : n ≤ 1000) (hf : ∀ l ∈ fs, l.length ≤ 1000) (hz : fs.length ≤ 1000) :
    ∃ s5' s6', mForOwn 1 (gN 5) (mAugL 4 (mFz (mLc [6] (itR rng1 (mCons (mVar 3) (mp []))) (gN 6) (mp true) (m2 gAdd (lv (mVar 5)) (lv (mTup (mCons (mVar 6) (mp [])))))))) [.d S, .o (.lst (fs.map enL)), f, .d (.int n), .o (.lst []), s5, s6] =
      .ok .nx [.d S, .o (.lst (fs.map enL)), f, .d (.int n), .o (.lst ((growL fs n.toNat).map enL)), s5', s6'] := by
  obtain ⟨c', e, s5', s6', rfl⟩ := mForOwn_run (i := 1) (g := gN 5) (b := mAugL 4 (mFz (mLc [6] (itR rng1 (mCons (mVar 3) (mp []))) (gN 6) (mp true) (m2 gAdd (lv (mVar 5)) (lv (mTup (mCons (mVar 6) (mp []))))))))
    (xs := fs.map enL) (c := [.d S, .o (.lst (fs.map enL)), f, .d (.int n), .o (.lst []), s5, s6]) rfl
    (fun k c => ∃ s5 s6, c = [.d S, .l (.lst (fs.map enL)), f, .d (.int n), .o (.lst ((growL (fs.take k) n.toNat).map enL)), s5, s6]) ⟨s5, s6, rfl⟩ (by rintro k c ⟨_, _, rfl⟩; rfl) (by
      rintro k x c hx ⟨s5, s6, rfl⟩
      rw [List.getElem?_map] at hx
      obtain ⟨l, hl, rfl⟩ := Option.map_eq_some_iff.mp hx
      have hm : l ∈ fs := List.mem_of_getElem? hl
      have e1 := one_run (a := 0) (b := 0) (c := [.d S, .l (.lst (fs.map enL)), f, .d (.int n), .o (.lst ((growL (fs.take k) n.toNat).map enL)), .d (enL l), s6]) rfl rfl n0 n1 (hf l hm) rfl
      have hk : (growL (fs.take k) n.toNat).length ≤ 1000 * 1000 := by
        rw [growL_length]
        refine Nat.mul_le_mul ?_ (by omega)
        rw [List.length_take]
        omega
      have hg : (grow1 n.toNat l).length ≤ 1000 := by
        unfold grow1
        simp
        omega
      refine ⟨[.d S, .l (.lst (fs.map enL)), f, .d (.int n), .o (.lst ((growL (fs.take k) n.toNat).map enL)), .d (enL l), s6], [.d S, .l (.lst (fs.map enL)), f, .d (.int n), .o (.lst ((growL (fs.take (k + 1)) n.toNat).map enL)), .d (enL l), .no], by simp, .inl ?_, .d (enL l), .no, rfl⟩
      have hs : (growL (fs.take k) n.toNat).length + (grow1 n.toNat l).length ≤ 16777216 := by omega
      have eg : growL (fs.take (k + 1)) n.toNat = growL (fs.take k) n.toNat ++ grow1 n.toNat l := by
        rw [List.take_add_one, hl, growL_app]
        show _ ++ growL [l] n.toNat = _
        unfold growL
        simp
      rw [eg]
      simp [e1, hs])
  refine ⟨s5', s6', ?_⟩
  rw [e, unl_l (y := .lst (fs.map enL)) rfl, List.length_map, List.take_length]
  rfl
end Sw
set_option maxRecDepth 100000
set_option maxHeartbeats 4000000
namespace Sw
open PySem PySem.Spec L2

/-! ### the order of letters -/
theorem pys_ints (l : List Int) : D.pys (l.map .int) = l.map PyData.int := by
  induction l with
  | nil => rfl
  | cons x l ih => rw [List.map_cons, D.pys, ih]; rfl
theorem py_enL (l : List Int) : (enL l).py = .tuple (l.map PyData.int) := by
  unfold enL
  rw [D.py, pys_ints]
theorem dataLt_enL (a b : List Int) : PySem.W.dataLt (enL a).py (enL b).py = decide (a < b) := by
  rw [py_enL, py_enL, PySem.W.dataLt_tuple]
  exact PySem.W.dataLt_ints a b
theorem alike_enL (a b : List Int) : PySem.W.alike (enL a).py (enL b).py = true := by
  rw [py_enL, py_enL]
  show PySem.W.alikeAll _ _ = true
  exact PySem.W.alike_ints a b
theorem gCmpT_enL {f : PyData → PyData → Bool} (a b : List Int) : gCmpT f (enL a) (enL b) = some (.bl (f (enL a).py (enL b).py)) := by
  unfold gCmpT
  rw [if_pos]
  have p : ∀ l : List Int, (enL l).plain = true := fun l => D.plain_lay (D.pl_lay _ (pl_enL l)).1
  refine ⟨rfl, by rw [p, p]; rfl, alike_enL a b, ?_⟩
  rw [(D.pl_lay _ (pl_enL a)).2, dp_enL]
  omega
@[simp] theorem hGe_L (a b : List Int) : gOr gGe (gCmpT fun d e => !PySem.W.dataLt d e) (enL a) (enL b) = some (.bl (!decide (a < b))) := by
  have e : gGe (enL a) (enL b) = none := rfl
  unfold gOr
  rw [e]
  show gCmpT (fun d e => !PySem.W.dataLt d e) (enL a) (enL b) = _
  rw [gCmpT_enL, dataLt_enL]
@[simp] theorem hLt_L (a b : List Int) : gOr gLt (gCmpT PySem.W.dataLt) (enL a) (enL b) = some (.bl (decide (a < b))) := by
  have e : gLt (enL a) (enL b) = none := rfl
  unfold gOr
  rw [e]
  show gCmpT PySem.W.dataLt (enL a) (enL b) = _
  rw [gCmpT_enL, dataLt_enL]
theorem lt_app : ∀ {a b : List Int} {c d : List Int}, a.length = b.length → a < b → a ++ c < b ++ d
  | [], [], _, _, _, h => absurd h (List.lt_irrefl _)
  | [], _ :: _, _, _, h, _ => by simp at h
  | _ :: _, [], _, _, h, _ => by simp at h
  | x :: a, y :: b, c, d, hl, h => by
    rw [List.cons_append, List.cons_append, List.cons_lt_cons_iff]
    rw [List.cons_lt_cons_iff] at h
    rcases h with h | ⟨rfl, h⟩
    · exact .inl h
    · exact .inr ⟨rfl, lt_app (by simpa using hl) h⟩
theorem lt_app_same : ∀ {a : List Int} {c d : List Int}, c < d → a ++ c < a ++ d
  | [], _, _, h => h
  | x :: a, c, d, h => by
    rw [List.cons_append, List.cons_append, List.cons_lt_cons_iff]
    exact .inr ⟨rfl, lt_app_same h⟩
theorem mem_grow1 {n : Nat} {l x : List Int} : x ∈ grow1 n l ↔ ∃ v : Nat, v < n ∧ x = l ++ [(v : Int)] := by
  unfold grow1
  constructor
  · intro h
    obtain ⟨v, hv, rfl⟩ := List.mem_map.mp h
    exact ⟨v, List.mem_range.mp hv, rfl⟩
  · rintro ⟨v, hv, rfl⟩
    exact List.mem_map.mpr ⟨v, List.mem_range.mpr hv, rfl⟩
theorem mem_growL {n : Nat} {fs : List (List Int)} {x : List Int} : x ∈ growL fs n ↔ ∃ l ∈ fs, ∃ v : Nat, v < n ∧ x = l ++ [(v : Int)] := by
  unfold growL
  rw [List.mem_flatMap]
  constructor
  · rintro ⟨l, hl, h⟩
    exact ⟨l, hl, mem_grow1.mp h⟩
  · rintro ⟨l, hl, h⟩
    exact ⟨l, hl, mem_grow1.mpr h⟩
/-- as long as the fields are many, each value one of its field -/
structure LetOk (cs : List Nat) (l : List Int) : Prop where
  len : l.length = cs.length
  val : ∀ (j : Nat) (v : Int) (c : Nat), l[j]? = some v → cs[j]? = some c → 0 ≤ v ∧ v < c
theorem grow_pw {fs : List (List Int)} {n m : Nat} (hl : ∀ l ∈ fs, l.length = m) (h : fs.Pairwise (· < ·)) : (growL fs n).Pairwise (· < ·) := by
  unfold growL
  induction fs with
  | nil => exact .nil
  | cons x fs ih =>
    rw [List.flatMap_cons, List.pairwise_append]
    rw [List.pairwise_cons] at h
    refine ⟨?_, ih (fun l h => hl l (List.mem_cons_of_mem _ h)) h.2, fun a ha b hb => ?_⟩
    · unfold grow1
      rw [List.pairwise_map]
      refine List.Pairwise.imp (fun {a b} hab => ?_) List.pairwise_lt_range
      exact lt_app_same (by rw [List.cons_lt_cons_iff]; exact .inl (by omega))
    · obtain ⟨v, _, rfl⟩ := mem_grow1.mp ha
      obtain ⟨l, hl2, hb⟩ := List.mem_flatMap.mp hb
      obtain ⟨w, _, rfl⟩ := mem_grow1.mp hb
      exact lt_app (by rw [hl x List.mem_cons_self, hl l (List.mem_cons_of_mem _ hl2)]) (h.1 l hl2)
theorem foldl_grow_ok : ∀ (ds cs : List Nat) (fs : List (List Int)), (∀ l, l ∈ fs ↔ LetOk cs l) → fs.Pairwise (· < ·) → (∀ l, l ∈ ds.foldl growL fs ↔ LetOk (cs ++ ds) l) ∧ (ds.foldl growL fs).Pairwise (· < ·)
  | [], cs, fs, h, p => ⟨by rw [List.append_nil]; exact h, p⟩
  | d :: ds, cs, fs, h, p => by
    have step : ∀ l, l ∈ growL fs d ↔ LetOk (cs ++ [d]) l := by
      intro l
      rw [mem_growL]
      constructor
      · rintro ⟨k, hk, v, hv, rfl⟩
        have ok := (h k).mp hk
        refine ⟨by simp [ok.len], fun j w c hj hc => ?_⟩
        by_cases hlt : j < k.length
        · rw [List.getElem?_append_left hlt] at hj
          rw [List.getElem?_append_left (by rw [← ok.len]; exact hlt)] at hc
          exact ok.val j w c hj hc
        · rw [List.getElem?_append_right (by omega)] at hj
          rw [List.getElem?_append_right (by rw [← ok.len]; omega), ← ok.len] at hc
          cases e : j - k.length with
          | zero =>
            rw [e] at hj hc
            cases hj
            cases hc
            omega
          | succ q => rw [e] at hj; simp at hj
      · intro ok
        have hl : l.length = cs.length + 1 := by rw [ok.len]; simp
        have hne : l ≠ [] := fun z => by rw [z] at hl; simp at hl
        have e0 : l.dropLast ++ [l.getLast hne] = l := List.dropLast_concat_getLast hne
        have lst := ok.val cs.length (l.getLast hne) d (by
          rw [List.getLast_eq_getElem, List.getElem?_eq_getElem (by omega)]
          congr 1
          congr 1
          omega) (by rw [List.getElem?_append_right (Nat.le_refl _), Nat.sub_self]; rfl)
        refine ⟨l.dropLast, (h _).mpr ⟨by rw [List.length_dropLast]; omega, fun j w c hj hc => ?_⟩, (l.getLast hne).toNat, by omega, ?_⟩
        · obtain ⟨hj1, hj2⟩ := List.getElem?_eq_some_iff.mp hj
          rw [List.length_dropLast] at hj1
          refine ok.val j w c ?_ (by rw [List.getElem?_append_left (by omega)]; exact hc)
          rw [← hj2, List.getElem_dropLast]
          exact List.getElem?_eq_getElem (by omega)
        · rw [Int.toNat_of_nonneg lst.1, e0]
    have hlen : ∀ l ∈ fs, l.length = cs.length := fun l hl => ((h l).mp hl).len
    have r := foldl_grow_ok ds (cs ++ [d]) (growL fs d) step (grow_pw hlen p)
    rw [List.append_assoc] at r
    exact r
theorem lettersC_ok (cs : List Nat) : (∀ l, l ∈ lettersC cs ↔ LetOk cs l) ∧ (lettersC cs).Pairwise (· < ·) := by
  have r := foldl_grow_ok cs [] [[]] (fun l => by
    rw [List.mem_singleton]
    constructor
    · rintro rfl
      exact ⟨rfl, fun j v c h => by simp at h⟩
    · intro ok
      exact List.length_eq_zero_iff.mp ok.len) (List.pairwise_singleton _ _)
  exact r
theorem mem_lettersC {cs : List Nat} {l : List Int} : l ∈ lettersC cs ↔ LetOk cs l := (lettersC_ok cs).1 l
theorem lettersC_lt (cs : List Nat) : (lettersC cs).Pairwise (· < ·) := (lettersC_ok cs).2
theorem lettersC_nodup (cs : List Nat) : (lettersC cs).Nodup := (lettersC_lt cs).imp fun h e => by rw [e] at h; exact List.lt_irrefl _ h
theorem foldl_grow_length : ∀ (ds : List Nat) (fs : List (List Int)), (ds.foldl growL fs).length = fs.length * ds.foldl (· * ·) 1
  | [], fs => by simp
  | d :: ds, fs => by
    rw [List.foldl_cons, foldl_grow_length ds, growL_length, List.foldl_cons, Nat.one_mul]
    have key : ∀ (ds : List Nat) (a b : Nat), ds.foldl (· * ·) (a * b) = a * ds.foldl (· * ·) b := by
      intro ds
      induction ds with
      | nil => intro a b; rfl
      | cons x ds ih => intro a b; rw [List.foldl_cons, List.foldl_cons, Nat.mul_assoc, ih]
    rw [Nat.mul_assoc]
    congr 1
    have := key ds d 1
    rw [Nat.mul_one] at this
    exact this.symm
theorem lettersC_length (sp : Sp) (h : ∀ q ∈ sp, 1 ≤ q.2) : ((lettersC (csOf sp)).length : Int) = prodN sp := by
  unfold lettersC
  rw [foldl_grow_length]
  have key : ∀ (sp : Sp) (a : Nat), (∀ q ∈ sp, 1 ≤ q.2) → (((csOf sp).foldl (· * ·) a : Nat) : Int) = a * prodN sp := by
    intro sp
    induction sp with
    | nil => intro a _; simp [csOf, prodN]
    | cons q sp ih =>
      intro a h
      have h1 := h q List.mem_cons_self
      show (((csOf sp).foldl (· * ·) (a * q.2.toNat) : Nat) : Int) = _
      rw [ih _ fun r hr => h r (List.mem_cons_of_mem _ hr), prodN]
      rw [Int.natCast_mul, Int.toNat_of_nonneg (by omega), Int.mul_assoc]
  have := key sp 1 h
  simpa using this
theorem csOf_pos {sp : Sp} (h : ∀ q ∈ sp, 1 ≤ q.2) : ∀ d ∈ csOf sp, 1 ≤ d := by
  intro d hd
  obtain ⟨q, hq, rfl⟩ := List.mem_map.mp hd
  have := h q hq
  omega
/-- letters_of -/
theorem lettersP_run {sp : Sp} {f : Int} {tail : Str} (G : GoodSp sp f tail) : ∃ c, fLettersP [.d (enSp sp)] = .ok (.o (.lst ((lettersC (csOf sp)).map enL))) c := by
  have hpos : ∀ q ∈ sp, 1 ≤ q.2 := fun q hq => (G.cnt q hq).1
  have total : (lettersC (csOf sp)).length ≤ 24 := by
    have := lettersC_length sp hpos
    have := G.prod
    omega
  unfold fLettersP
  rw [fnM_r]
  unfold mLettersP
  obtain ⟨c', e, f', n', lo, s5, s6, rfl⟩ := mFor_run (g := gS 2 (gCons' (gN 2) (gCons' (gN 3) (gNil')))) (b := mSeq (mSetO 4 (mLst (mp [])))
  (mSeq (mForOwn 1 (gN 5) (mAugL 4 (mFz (mLc [6] (itR rng1 (mCons (mVar 3) (mp []))) (gN 6) (mp true) (m2 gAdd (lv (mVar 5)) (lv (mTup (mCons (mVar 6) (mp [])))))))))
  (mSetO 1 (mTake 4)))) (xs := sp.map enF) (c := [.d (enSp sp), .o (.lst [enL []]), .no, .no, .no, .no, .no])
    (fun i c => ∃ f n lo s5 s6, c = [.d (enSp sp), .o (.lst ((lettersC ((csOf sp).take i)).map enL)), f, n, lo, s5, s6]) ⟨.no, .no, .no, .no, .no, rfl⟩ (by
      rintro i x c hx ⟨f, n, lo, s5, s6, rfl⟩
      rw [List.getElem?_map] at hx
      obtain ⟨q, hq, rfl⟩ := Option.map_eq_some_iff.mp hx
      have hm : q ∈ sp := List.mem_of_getElem? hq
      obtain ⟨q1, q6⟩ := G.cnt q hm
      have hc : (csOf sp)[i]? = some q.2.toNat := by unfold csOf; rw [List.getElem?_map, hq]; rfl
      have hlen : ∀ l ∈ lettersC ((csOf sp).take i), l.length ≤ 1000 := fun l hl => by
        rw [(mem_lettersC.mp hl).len, List.length_take]
        have : (csOf sp).length ≤ 3 := by unfold csOf; rw [List.length_map]; exact G.len
        omega
      have hz : (lettersC ((csOf sp).take i)).length ≤ 1000 := by
        have := lettersC_take_le (csOf_pos hpos) i
        omega
      obtain ⟨s5', s6', e1⟩ := lettersP_inner (S := enSp sp) (f := .d (.str q.1)) (n := q.2) (s5 := s5) (s6 := s6) (by omega) (by omega) hlen hz
      refine ⟨[.d (enSp sp), .o (.lst ((lettersC ((csOf sp).take i)).map enL)), .d (.str q.1), .d (.int q.2), lo, s5, s6], [.d (enSp sp), .o (.lst ((lettersC ((csOf sp).take (i + 1))).map enL)), .d (.str q.1), .d (.int q.2), .no, s5', s6'], by simp [enF], .inl ?_, _, _, _, _, _, rfl⟩
      rw [lettersC_snoc hc]
      simp [e1])
  have e2 : (csOf sp).take (sp.map enF).length = csOf sp := List.take_of_length_le (by unfold csOf; simp)
  rw [e2] at e
  refine ⟨[.d (enSp sp), .no, f', n', lo, s5, s6], ?_⟩
  unfold enSp at e ⊢
  have el : D.nd .tup [] = enL [] := rfl
  simp [el, e]
end Sw
set_option maxRecDepth 100000
set_option maxHeartbeats 4000000
namespace Sw
open PySem PySem.Spec L2

/-! ### all letters, as the laws reckon them -/
def mLettersLi : M Out := mSet 4 (m2 gAdd (lv (mVar 4)) (lv (mFz (mLc [6] (itR rng1 (mCons (mVar 3) (mp []))) (gN 6) (mp true) (m2 gAdd (lv (mVar 5)) (lv (mTup (mCons (mVar 6) (mp [])))))))))
def mLettersL : M Out :=
  mSeq (mSet 1 (mFz (mLst (mCons (mTup (mp [])) (mp [])))))
  (mSeq (mForS (itS (mVar 0)) (gS 2 (gCons' (gN 2) (gCons' (gN 3) (gNil')))) (mSeq (mSet 4 (mFz (mLst (mp []))))
  (mSeq (mForS (itS (mVar 1)) (gN 5) mLettersLi)
  (mSet 1 (mVar 4)))))
  (mRet (mVar 1)))
def fLettersL : Fd := fnM 7 mLettersL
theorem lettersL_inner {S : D} {f : Sv} {n : Int} {s5 s6 : Sv} {fs : List (List Int)} (n0 : 0 ≤ n) (n1 : n ≤ 1000) (hf : ∀ l ∈ fs, l.length ≤ 1000) (hz : fs.length ≤ 1000) :
    ∃ s5' s6', mFor (gN 5) mLettersLi (fs.map enL) [.d S, .d (enLs fs), f, .d (.int n), .d (.nd .lst []), s5, s6] =
      .ok .nx [.d S, .d (enLs fs), f, .d (.int n), .d (enLs (growL fs n.toNat)), s5', s6'] := by
  obtain ⟨c', e, s5', s6', rfl⟩ := mFor_run (g := gN 5) (b := mLettersLi)
    (xs := fs.map enL) (c := [.d S, .d (enLs fs), f, .d (.int n), .d (.nd .lst []), s5, s6])
    (fun k c => ∃ s5 s6, c = [.d S, .d (enLs fs), f, .d (.int n), .d (enLs (growL (fs.take k) n.toNat)), s5, s6]) ⟨s5, s6, rfl⟩ (by
      rintro k x c hx ⟨s5, s6, rfl⟩
      rw [List.getElem?_map] at hx
      obtain ⟨l, hl, rfl⟩ := Option.map_eq_some_iff.mp hx
      have hm : l ∈ fs := List.mem_of_getElem? hl
      have e1 := one_run (a := 0) (b := 0) (c := [.d S, .d (enLs fs), f, .d (.int n), .d (enLs (growL (fs.take k) n.toNat)), .d (enL l), s6]) rfl rfl n0 n1 (hf l hm) rfl
      have hk : (growL (fs.take k) n.toNat).length ≤ 1000 * 1000 := by
        rw [growL_length]
        refine Nat.mul_le_mul ?_ (by omega)
        rw [List.length_take]
        omega
      have hg : (grow1 n.toNat l).length ≤ 1000 := by
        unfold grow1
        simp
        omega
      refine ⟨[.d S, .d (enLs fs), f, .d (.int n), .d (enLs (growL (fs.take k) n.toNat)), .d (enL l), s6], [.d S, .d (enLs fs), f, .d (.int n), .d (enLs (growL (fs.take (k + 1)) n.toNat)), .d (enL l), .no], by simp, .inl ?_, .d (enL l), .no, rfl⟩
      have eg : growL (fs.take (k + 1)) n.toNat = growL (fs.take k) n.toNat ++ grow1 n.toNat l := by
        rw [List.take_add_one, hl, growL_app]
        show _ ++ growL [l] n.toNat = _
        unfold growL
        simp
      have ea : gAdd (enLs (growL (fs.take k) n.toNat)) (.nd .lst ((grow1 n.toNat l).map enL)) = some (enLs (growL (fs.take (k + 1)) n.toNat)) := by
        unfold enLs
        rw [gAdd_l (by simp only [List.length_map]; omega), eg, List.map_append]
      unfold mLettersLi
      simp [e1, ea])
  refine ⟨s5', s6', ?_⟩
  rw [e, List.length_map, List.take_length]
theorem lettersL_run {sp : Sp} {f : Int} {tail : Str} (G : GoodSp sp f tail) : ∃ c, fLettersL [.d (enSp sp)] = .ok (.d (enLs (lettersC (csOf sp)))) c := by
  have hpos : ∀ q ∈ sp, 1 ≤ q.2 := fun q hq => (G.cnt q hq).1
  have total : (lettersC (csOf sp)).length ≤ 24 := by
    have := lettersC_length sp hpos
    have := G.prod
    omega
  unfold fLettersL
  rw [fnM_r]
  unfold mLettersL
  obtain ⟨c', e, f', n', lo, s5, s6, rfl⟩ := mFor_run (g := gS 2 (gCons' (gN 2) (gCons' (gN 3) (gNil')))) (b := mSeq (mSet 4 (mFz (mLst (mp []))))
  (mSeq (mForS (itS (mVar 1)) (gN 5) mLettersLi)
  (mSet 1 (mVar 4)))) (xs := sp.map enF) (c := [.d (enSp sp), .d (enLs [[]]), .no, .no, .no, .no, .no])
    (fun i c => ∃ f n lo s5 s6, c = [.d (enSp sp), .d (enLs (lettersC ((csOf sp).take i))), f, n, lo, s5, s6]) ⟨.no, .no, .no, .no, .no, rfl⟩ (by
      rintro i x c hx ⟨f, n, lo, s5, s6, rfl⟩
      rw [List.getElem?_map] at hx
      obtain ⟨q, hq, rfl⟩ := Option.map_eq_some_iff.mp hx
      have hm : q ∈ sp := List.mem_of_getElem? hq
      obtain ⟨q1, q6⟩ := G.cnt q hm
      have hc : (csOf sp)[i]? = some q.2.toNat := by unfold csOf; rw [List.getElem?_map, hq]; rfl
      have hlen : ∀ l ∈ lettersC ((csOf sp).take i), l.length ≤ 1000 := fun l hl => by
        rw [(mem_lettersC.mp hl).len, List.length_take]
        have : (csOf sp).length ≤ 3 := by unfold csOf; rw [List.length_map]; exact G.len
        omega
      have hz : (lettersC ((csOf sp).take i)).length ≤ 1000 := by
        have := lettersC_take_le (csOf_pos hpos) i
        omega
      obtain ⟨s5', s6', e1⟩ := lettersL_inner (S := enSp sp) (f := .d (.str q.1)) (n := q.2) (s5 := s5) (s6 := s6) (by omega) (by omega) hlen hz
      refine ⟨[.d (enSp sp), .d (enLs (lettersC ((csOf sp).take i))), .d (.str q.1), .d (.int q.2), lo, s5, s6], [.d (enSp sp), .d (enLs (lettersC ((csOf sp).take (i + 1)))), .d (.str q.1), .d (.int q.2), .d (enLs (lettersC ((csOf sp).take (i + 1)))), s5', s6'], by simp [enF], .inl ?_, _, _, _, _, _, rfl⟩
      rw [lettersC_snoc hc]
      have ea : asS (enLs (lettersC ((csOf sp).take i))) = some ((lettersC ((csOf sp).take i)).map enL) := rfl
      simp [e1, ea])
  have e2 : (csOf sp).take (sp.map enF).length = csOf sp := List.take_of_length_le (by unfold csOf; simp)
  rw [e2] at e
  refine ⟨[.d (enSp sp), .d (enLs (lettersC (csOf sp))), f', n', lo, s5, s6], ?_⟩
  have el : D.nd .lst [D.nd .tup []] = enLs [[]] := rfl
  have ea : asS (enSp sp) = some (sp.map enF) := rfl
  simp [el, e, ea]
end Sw
set_option maxRecDepth 100000
set_option maxHeartbeats 4000000
namespace Sw
open PySem PySem.Spec L2

/-! ### comprehensions and loops over what is encoded -/
theorem lcLoop_fm {α : Type} {enc : α → D} {vs : List Nat} {g : D → M Out} {tt : M Bool} {me : M D} (F : α → Option D) {cw : Ctx} : ∀ {ys : List α} {acc : List D} {c : Ctx}, wipeC c vs = cw →
    (∀ y ∈ ys, ∃ c1 b c2, g (enc y) cw = .ok .nx c1 ∧ tt c1 = .ok b c2 ∧ ((b = false ∧ wipeC c2 vs = cw ∧ F y = none) ∨ (b = true ∧ ∃ z c3, me c2 = .ok z c3 ∧ wipeC c3 vs = cw ∧ F y = some z))) →
    acc.length + ys.length ≤ 16777216 → lcLoop vs g tt me (ys.map enc) acc c = .ok (acc ++ ys.filterMap F) cw
  | [], acc, c, hw, _, _ => by
    rw [List.map_nil, lcLoop]
    show Rs.ok acc (wipeC c vs) = _
    rw [hw, List.filterMap_nil, List.append_nil]
  | x :: xs, acc, c, hw, one, hl => by
    rw [List.length_cons] at hl
    obtain ⟨c1, b, c2, e1, e2, h⟩ := one x List.mem_cons_self
    rw [List.map_cons, lcLoop]
    dsimp only
    rw [hw, mb_r, e1, Rs.bnd_ok]
    show mb tt _ c1 = _
    rw [mb_r, e2, Rs.bnd_ok]
    rcases h with ⟨rfl, w, f⟩ | ⟨rfl, y, c3, e3, w, f⟩
    · rw [if_neg Bool.false_ne_true, lcLoop_fm F w (fun z hz => one z (List.mem_cons_of_mem _ hz)) (by omega), List.filterMap_cons, f]
    · rw [if_pos rfl, mb_r, e3, Rs.bnd_ok, if_pos (by rw [sizeLine_big]; omega), lcLoop_fm F w (fun z hz => one z (List.mem_cons_of_mem _ hz)) (by rw [List.length_append]; simp; omega), List.filterMap_cons, f]
      simp
theorem mLc_fm {α : Type} {enc : α → D} {vs : List Nat} {mi : M (List D)} {g : D → M Out} {tt : M Bool} {me : M D} {c c1 : Ctx} (F : α → Option D) (ys : List α) (hi : mi c = .ok (ys.map enc) c1)
    (one : ∀ y ∈ ys, ∃ c2 b c3, g (enc y) (wipeC c1 vs) = .ok .nx c2 ∧ tt c2 = .ok b c3 ∧ ((b = false ∧ wipeC c3 vs = wipeC c1 vs ∧ F y = none) ∨ (b = true ∧ ∃ z c4, me c3 = .ok z c4 ∧ wipeC c4 vs = wipeC c1 vs ∧ F y = some z)))
    (hl : ys.length ≤ 16777216) : mLc vs mi g tt me c = .ok (.lst (ys.filterMap F)) (wipeC c1 vs) := by
  unfold mLc
  rw [mb_r, hi, Rs.bnd_ok, mb_r, mq_r, lcLoop_fm F rfl one (by simpa using hl)]
  simp
/-- .. without a test -/
theorem mLc_mp {α : Type} {enc : α → D} {vs : List Nat} {mi : M (List D)} {g : D → M Out} {me : M D} {c c1 : Ctx} (f : α → D) (ys : List α) (hi : mi c = .ok (ys.map enc) c1)
    (one : ∀ y ∈ ys, ∃ c2 c4, g (enc y) (wipeC c1 vs) = .ok .nx c2 ∧ me c2 = .ok (f y) c4 ∧ wipeC c4 vs = wipeC c1 vs)
    (hl : ys.length ≤ 16777216) : mLc vs mi g (mp true) me c = .ok (.lst (ys.map f)) (wipeC c1 vs) := by
  rw [← List.filterMap_eq_map]
  refine mLc_fm (fun y => some (f y)) ys hi (fun y hy => ?_) hl
  obtain ⟨c2, c4, a, b, w⟩ := one y hy
  exact ⟨c2, true, c2, a, rfl, .inr ⟨rfl, _, c4, b, w, rfl⟩⟩
/-- .. with a test -/
theorem mLc_if {α : Type} {enc : α → D} {vs : List Nat} {mi : M (List D)} {g : D → M Out} {tt : M Bool} {me : M D} {c c1 : Ctx} (p : α → Bool) (f : α → D) (ys : List α) (hi : mi c = .ok (ys.map enc) c1)
    (one : ∀ y ∈ ys, ∃ c2 c3, g (enc y) (wipeC c1 vs) = .ok .nx c2 ∧ tt c2 = .ok (p y) c3 ∧ wipeC c3 vs = wipeC c1 vs ∧ (p y = true → ∃ c4, me c3 = .ok (f y) c4 ∧ wipeC c4 vs = wipeC c1 vs))
    (hl : ys.length ≤ 16777216) : mLc vs mi g tt me c = .ok (.lst ((ys.filter p).map f)) (wipeC c1 vs) := by
  have e : (ys.filter p).map f = ys.filterMap fun y => if p y = true then some (f y) else none := by
    clear hi one hl
    induction ys with
    | nil => rfl
    | cons y ys ih =>
      rw [List.filter_cons, List.filterMap_cons]
      cases hp : p y with
      | true => rw [if_pos rfl, List.map_cons, ih]; rfl
      | false => rw [if_neg Bool.false_ne_true, ih]; rfl
  rw [e]
  refine mLc_fm _ ys hi (fun y hy => ?_) hl
  obtain ⟨c2, c3, a, b, w, h⟩ := one y hy
  refine ⟨c2, p y, c3, a, b, ?_⟩
  cases hp : p y with
  | false => exact .inl ⟨rfl, w, by rw [if_neg Bool.false_ne_true]⟩
  | true =>
    obtain ⟨c4, e4, w4⟩ := h hp
    exact .inr ⟨rfl, f y, c4, e4, w4, by rw [if_pos rfl]⟩
/-- the first that fits answers -/
theorem mFor_first {α : Type} {enc : α → D} {g : D → M Out} {b : M Out} {C : Ctx → Prop} {p : α → Bool} {v : α → Rv} : ∀ (ys : List α) (c : Ctx), C c →
    (∀ y ∈ ys, ∀ c, C c → ∃ c1, g (enc y) c = .ok .nx c1 ∧ ((p y = false ∧ ∃ c2, (b c1 = .ok .nx c2 ∨ b c1 = .ok .ct c2) ∧ C c2) ∨ (p y = true ∧ ∃ c2, b c1 = .ok (.rt (v y)) c2))) →
    (ys.find? p = none ∧ ∃ c', mFor g b (ys.map enc) c = .ok .nx c' ∧ C c') ∨ ∃ y c', ys.find? p = some y ∧ mFor g b (ys.map enc) c = .ok (.rt (v y)) c'
  | [], c, h, _ => .inl ⟨rfl, c, rfl, h⟩
  | y :: ys, c, h, one => by
    obtain ⟨c1, e1, h1⟩ := one y List.mem_cons_self c h
    rw [List.map_cons, mFor_cons, e1, Rs.qt_ok, Rs.bnd_ok, tk1_nx]
    rcases h1 with ⟨hp, c2, e2, h2⟩ | ⟨hp, c2, e2⟩
    · have r := mFor_first ys c2 h2 fun z hz => one z (List.mem_cons_of_mem _ hz)
      rw [List.find?_cons, hp]
      rcases e2 with e2 | e2
      · rw [e2, Rs.bnd_ok, tk2_nx]
        exact r
      · rw [e2, Rs.bnd_ok, tk2_ct]
        exact r
    · rw [e2, Rs.bnd_ok, tk2_rt, List.find?_cons, hp]
      exact .inr ⟨y, c2, rfl, rfl⟩
/-- a fold: each turn a new state -/
theorem mFor_fold {α β : Type} {enc : α → D} {g : D → M Out} {b : M Out} (st : β → Ctx → Prop) (f : β → α → β) : ∀ (ys : List α) (s : β) (c : Ctx), st s c →
    (∀ y ∈ ys, ∀ s c, st s c → ∃ c1 c2, g (enc y) c = .ok .nx c1 ∧ (b c1 = .ok .nx c2 ∨ b c1 = .ok .ct c2) ∧ st (f s y) c2) → ∃ c', mFor g b (ys.map enc) c = .ok .nx c' ∧ st (ys.foldl f s) c'
  | [], s, c, h, _ => ⟨c, rfl, h⟩
  | y :: ys, s, c, h, one => by
    obtain ⟨c1, c2, e1, e2, h2⟩ := one y List.mem_cons_self s c h
    obtain ⟨c3, e3, h3⟩ := mFor_fold st f ys (f s y) c2 h2 fun z hz => one z (List.mem_cons_of_mem _ hz)
    refine ⟨c3, ?_, h3⟩
    rw [List.map_cons, mFor_cons, e1, Rs.qt_ok, Rs.bnd_ok, tk1_nx]
    rcases e2 with e2 | e2
    · rw [e2, Rs.bnd_ok, tk2_nx, e3]
    · rw [e2, Rs.bnd_ok, tk2_ct, e3]

/-! ### rows of a table -/
def enO : Option Int → D
  | none => .non
  | some v => .int v
abbrev Pat := List (Option Int)
def enM (m : Pat) : D := .nd .tup (m.map enO)
abbrev Row := Pat × List Pat
def enRow (r : Row) : D := .nd .tup [enM r.1, .nd .tup (r.2.map enM)]
def fit1 (o : Option Int) (v : Int) : Bool := match o with
  | none => true
  | some w => decide (w = v)
def fitsB (m : Pat) (l : List Int) : Bool := (m.zip l).all fun p => fit1 p.1 p.2
def deedOf (m : Pat) (l : List Int) : List Int := (m.zip l).map fun p => p.1.getD p.2
def byTab (tab : List Row) (l : List Int) : List (List Int) := match tab.find? fun r => fitsB r.1 l with
  | none => []
  | some r => sortU (r.2.map fun m => deedOf m l)
theorem zipD_ML (m : Pat) (l : List Int) : zipD [enM m, enL l] = some ((m.zip l).map fun p => .nd .tup [enO p.1, .int p.2]) := by
  show some (List.zipWith (fun x y => D.nd .tup [x, y]) (m.map enO) (l.map .int)) = _
  congr 1
  rw [List.zipWith_map, List.zip, List.map_zipWith]
@[simp] theorem isNon_enO (o : Option Int) : isNon (enO o) = o.isNone := by cases o <;> rfl
theorem pl_enO (o : Option Int) : D.pl (enO o) = true := by cases o <;> rfl
theorem dp_enO (o : Option Int) : D.dp (enO o) = 0 := by cases o <;> rfl
@[simp] theorem hEq_oi {o : Option Int} {v : Int} : gEqN id (enO o) (.int v) = some (.bl (decide (o = some v))) := by
  rw [gEqN_pl (pl_enO o) rfl (by rw [dp_enO]; omega)]
  cases o with
  | none => simp [enO]
  | some w => simp [enO]
@[simp] theorem hNe_oi {o : Option Int} {v : Int} : gEqN not (enO o) (.int v) = some (.bl (!decide (o = some v))) := by
  rw [gEqN_pl (pl_enO o) rfl (by rw [dp_enO]; omega)]
  cases o with
  | none => simp [enO]
  | some w => simp [enO]
def mMatches : M Out :=
  mRet (mCl gAll (lCons (lv (mFz (mLc [2, 3] (itR zipD (mCons (mVar 0) (mCons (mVar 1) (mp [])))) (gS 2 (gCons' (gN 2) (gCons' (gN 3) (gNil')))) (mp true) (vOr (m2 gIsN (lv (mVar 2)) (lv (mp .non))) (m2 hEq (lv (mVar 2)) (lv (mVar 3))))))) (mp [])))
def fMatches : Fd := fnM 4 mMatches
theorem matches_run (m : Pat) (l : List Int) (hl : l.length ≤ 1000) : ∃ c, fMatches [.d (enM m), .d (enL l)] = .ok (.d (.bl (fitsB m l))) c := by
  unfold fMatches
  rw [fnM_r]
  unfold mMatches
  have hz : (m.zip l).length ≤ 16777216 := by rw [List.length_zip]; omega
  have e := mLc_mp (enc := fun p : Option Int × Int => D.nd .tup [enO p.1, .int p.2]) (vs := [2, 3]) (mi := itR zipD (mCons (mVar 0) (mCons (mVar 1) (mp [])))) (g := gS 2 (gCons' (gN 2) (gCons' (gN 3) (gNil')))) (me := vOr (m2 gIsN (lv (mVar 2)) (lv (mp .non))) (m2 hEq (lv (mVar 2)) (lv (mVar 3)))) (c := [.d (enM m), .d (enL l), .no, .no]) (c1 := [.d (enM m), .d (enL l), .no, .no])
    (fun p => .bl (fit1 p.1 p.2)) (m.zip l) (by simp [zipD_ML]) (fun p _ => by
      refine ⟨[.d (enM m), .d (enL l), .d (enO p.1), .d (.int p.2)], [.d (enM m), .d (enL l), .d (enO p.1), .d (.int p.2)], by simp, ?_, by simp⟩
      obtain ⟨o, v⟩ := p
      cases o with
      | none => simp [fit1, enO, vOk_b]
      | some w => simp [fit1, enO, vOk_b]) hz
  refine ⟨[.d (enM m), .d (enL l), .no, .no], ?_⟩
  have ea : gAll [.nd .lst ((m.zip l).map fun p => .bl (fit1 p.1 p.2))] = some (.bl (fitsB m l)) := by
    have := gAll_l ((m.zip l).map fun p => fit1 p.1 p.2)
    rw [List.map_map] at this
    rw [show ((m.zip l).map fun p => D.bl (fit1 p.1 p.2)) = (m.zip l).map (D.bl ∘ fun p => fit1 p.1 p.2) from rfl, this]
    unfold fitsB
    rw [List.all_map]
    rfl
  simp [e, ea]
def mDeedOf : M Out :=
  mRet (mCl gTuple (lCons (lv (mFz (mLc [2, 3] (itR zipD (mCons (mVar 0) (mCons (mVar 1) (mp [])))) (gS 2 (gCons' (gN 2) (gCons' (gN 3) (gNil')))) (mp true) (mIf (mT (m2 gIsN (lv (mVar 2)) (lv (mp .non)))) (mVar 3) (mVar 2))))) (mp [])))
def fDeedOf : Fd := fnM 4 mDeedOf
theorem deedOf_run (m : Pat) (l : List Int) (hl : l.length ≤ 1000) : ∃ c, fDeedOf [.d (enM m), .d (enL l)] = .ok (.d (enL (deedOf m l))) c := by
  unfold fDeedOf
  rw [fnM_r]
  unfold mDeedOf
  have hz : (m.zip l).length ≤ 16777216 := by rw [List.length_zip]; omega
  have e := mLc_mp (enc := fun p : Option Int × Int => D.nd .tup [enO p.1, .int p.2]) (vs := [2, 3]) (mi := itR zipD (mCons (mVar 0) (mCons (mVar 1) (mp [])))) (g := gS 2 (gCons' (gN 2) (gCons' (gN 3) (gNil')))) (me := mIf (mT (m2 gIsN (lv (mVar 2)) (lv (mp .non)))) (mVar 3) (mVar 2)) (c := [.d (enM m), .d (enL l), .no, .no]) (c1 := [.d (enM m), .d (enL l), .no, .no])
    (fun p => .int (p.1.getD p.2)) (m.zip l) (by simp [zipD_ML]) (fun p _ => by
      refine ⟨[.d (enM m), .d (enL l), .d (enO p.1), .d (.int p.2)], [.d (enM m), .d (enL l), .d (enO p.1), .d (.int p.2)], by simp, ?_, by simp⟩
      obtain ⟨o, v⟩ := p
      cases o with
      | none => simp [enO]
      | some w => simp [enO]) hz
  refine ⟨[.d (enM m), .d (enL l), .no, .no], ?_⟩
  have ea : D.nd .tup ((m.zip l).map fun p => .int (p.1.getD p.2)) = enL (deedOf m l) := by
    unfold enL deedOf
    rw [List.map_map]
    rfl
  simp [e, ea]
/-- what a table bids, so that it can be sorted -/
def TabOk (tab : List Row) (l : List Int) : Prop := l.length ≤ 1000 ∧ ∀ r ∈ tab, setOk (r.2.map fun m => deedOf m l) = true
theorem setOk_len {ls : List (List Int)} (h : setOk ls = true) : ls.length < 64 := by
  unfold setOk at h
  rw [Bool.and_eq_true, decide_eq_true_eq] at h
  exact h.1
theorem gSortSet_ok {ls : List (List Int)} (h : setOk ls = true) : gSortSet (.nd .lst (ls.map enL)) = some (.lst ((sortU ls).map enL)) := by
  show (match tupsD (ls.map enL) with | some ls => if setOk ls = true then some (O.lst ((sortU ls).map enL)) else none | none => none) = _
  rw [tupsD_map]
  simp only
  rw [if_pos h]
@[simp] theorem oSortSet_r {me : M D} {c : Ctx} : oSortSet me c = (me c).bnd fun x => ml (gSortSet x) := mb_r
def mByTable (F_matches F_deed_of : Fd) : M Out :=
  mSeq (mForS (itS (mVar 0)) (gS 2 (gCons' (gN 2) (gCons' (gN 3) (gNil')))) (mIfS (mT (mRvD (mCallA F_matches (aD (mVar 2) (aD (mVar 1) (aNil)))))) (mRetO (oSortSet (mFz (mLc [4] (itS (mVar 3)) (gN 4) (mp true) (mRvD (mCallA F_deed_of (aD (mVar 4) (aD (mVar 1) (aNil))))))))) (mp .nx)))
  (mRetO (mLst (mp [])))
def fByTable : Fd := fnM 5 (mByTable fMatches fDeedOf)
theorem byTable_run {t : Tag} (ht : t = .lst ∨ t = .tup) (tab : List Row) (l : List Int) (hok : TabOk tab l) : ∃ c, fByTable [.d (.nd t (tab.map enRow)), .d (enL l)] = .ok (.o (.lst ((byTab tab l).map enL))) c := by
  obtain ⟨hl, hok⟩ := hok
  unfold fByTable
  rw [fnM_r]
  unfold mByTable
  have hs : asS (.nd t (tab.map enRow)) = some (tab.map enRow) := by rcases ht with rfl | rfl <;> rfl
  have key := mFor_first (enc := enRow) (g := gS 2 (gCons' (gN 2) (gCons' (gN 3) (gNil')))) (b := mIfS (mT (mRvD (mCallA fMatches (aD (mVar 2) (aD (mVar 1) (aNil)))))) (mRetO (oSortSet (mFz (mLc [4] (itS (mVar 3)) (gN 4) (mp true) (mRvD (mCallA fDeedOf (aD (mVar 4) (aD (mVar 1) (aNil))))))))) (mp .nx))
    (C := fun c => ∃ a b d, c = [.d (.nd t (tab.map enRow)), .d (enL l), a, b, d]) (p := fun r => fitsB r.1 l) (v := fun r => .o (.lst ((sortU (r.2.map fun m => deedOf m l)).map enL)))
    tab [.d (.nd t (tab.map enRow)), .d (enL l), .no, .no, .no] ⟨_, _, _, rfl⟩ (by
      rintro r hr c ⟨a, b, d, rfl⟩
      refine ⟨[.d (.nd t (tab.map enRow)), .d (enL l), .d (enM r.1), .d (.nd .tup (r.2.map enM)), d], by simp [enRow], ?_⟩
      obtain ⟨cm, em⟩ := matches_run r.1 l hl
      cases hf : fitsB r.1 l with
      | false => exact .inl ⟨rfl, [.d (.nd t (tab.map enRow)), .d (enL l), .d (enM r.1), .d (.nd .tup (r.2.map enM)), d], .inl (by simp [em, hf]), _, _, _, rfl⟩
      | true =>
        refine .inr ⟨rfl, [.d (.nd t (tab.map enRow)), .d (enL l), .d (enM r.1), .d (.nd .tup (r.2.map enM)), .no], ?_⟩
        have h64 := setOk_len (hok r hr)
        rw [List.length_map] at h64
        have e := mLc_mp (enc := enM) (vs := [4]) (mi := itS (mVar 3)) (g := gN 4) (me := mRvD (mCallA fDeedOf (aD (mVar 4) (aD (mVar 1) (aNil))))) (c := [.d (.nd t (tab.map enRow)), .d (enL l), .d (enM r.1), .d (.nd .tup (r.2.map enM)), d]) (c1 := [.d (.nd t (tab.map enRow)), .d (enL l), .d (enM r.1), .d (.nd .tup (r.2.map enM)), d])
          (fun m => enL (deedOf m l)) r.2 (by simp) (fun m _ => by
            obtain ⟨cd, ed⟩ := deedOf_run m l hl
            refine ⟨[.d (.nd t (tab.map enRow)), .d (enL l), .d (enM r.1), .d (.nd .tup (r.2.map enM)), .d (enM m)], [.d (.nd t (tab.map enRow)), .d (enL l), .d (enM r.1), .d (.nd .tup (r.2.map enM)), .d (enM m)], by simp, by simp [ed], by simp⟩) (by omega)
        have es := gSortSet_ok (hok r hr)
        rw [List.map_map] at es
        have es : gSortSet (.nd .lst (r.2.map fun m => enL (deedOf m l))) = _ := es
        simp [em, hf, e, es])
  unfold byTab
  rcases key with ⟨hn, c', e, a, b, d, rfl⟩ | ⟨r, c', hf, e⟩
  · refine ⟨[.d (.nd t (tab.map enRow)), .d (enL l), a, b, d], ?_⟩
    rw [hn]
    simp [hs, e]
  · refine ⟨c', ?_⟩
    rw [hf]
    simp [hs, e]
end Sw
set_option maxRecDepth 100000
set_option maxHeartbeats 4000000
namespace Sw
open PySem PySem.Spec L2

/-! ### small things, for simp -/
@[simp] theorem sok_is : PySem.PyData.strOk "is" = true := by decide +kernel
@[simp] theorem sok_put : PySem.PyData.strOk "put" = true := by decide +kernel
@[simp] theorem sok_all : PySem.PyData.strOk "all" = true := by decide +kernel
@[simp] theorem sok_none : PySem.PyData.strOk "none" = true := by decide +kernel
@[simp] theorem sok_note : PySem.PyData.strOk "note" = true := by decide +kernel
@[simp] theorem sok_not : PySem.PyData.strOk "not" = true := by decide +kernel
@[simp] theorem sok_either : PySem.PyData.strOk "either" = true := by decide +kernel
@[simp] theorem sok_then : PySem.PyData.strOk "then" = true := by decide +kernel
@[simp] theorem sok_again : PySem.PyData.strOk "again" = true := by decide +kernel
@[simp] theorem sok_field : PySem.PyData.strOk "field" = true := by decide +kernel
@[simp] theorem sok_value : PySem.PyData.strOk "value" = true := by decide +kernel
@[simp] theorem sok_test : PySem.PyData.strOk "test" = true := by decide +kernel
@[simp] theorem sok_plain : PySem.PyData.strOk "plain" = true := by decide +kernel
@[simp] theorem sok_net : PySem.PyData.strOk "net" = true := by decide +kernel
@[simp] theorem sok_zz : PySem.PyData.strOk "zz" = true := by decide +kernel
@[simp] theorem sne_is_put : (("is" : Str) = "put") = False := eq_false (by decide)
@[simp] theorem sne_is_all : (("is" : Str) = "all") = False := eq_false (by decide)
@[simp] theorem sne_is_none : (("is" : Str) = "none") = False := eq_false (by decide)
@[simp] theorem sne_is_note : (("is" : Str) = "note") = False := eq_false (by decide)
@[simp] theorem sne_is_not : (("is" : Str) = "not") = False := eq_false (by decide)
@[simp] theorem sne_is_either : (("is" : Str) = "either") = False := eq_false (by decide)
@[simp] theorem sne_is_then : (("is" : Str) = "then") = False := eq_false (by decide)
@[simp] theorem sne_is_again : (("is" : Str) = "again") = False := eq_false (by decide)
@[simp] theorem sne_is_field : (("is" : Str) = "field") = False := eq_false (by decide)
@[simp] theorem sne_is_value : (("is" : Str) = "value") = False := eq_false (by decide)
@[simp] theorem sne_is_test : (("is" : Str) = "test") = False := eq_false (by decide)
@[simp] theorem sne_is_plain : (("is" : Str) = "plain") = False := eq_false (by decide)
@[simp] theorem sne_is_net : (("is" : Str) = "net") = False := eq_false (by decide)
@[simp] theorem sne_is_zz : (("is" : Str) = "zz") = False := eq_false (by decide)
@[simp] theorem sne_put_is : (("put" : Str) = "is") = False := eq_false (by decide)
@[simp] theorem sne_put_all : (("put" : Str) = "all") = False := eq_false (by decide)
@[simp] theorem sne_put_none : (("put" : Str) = "none") = False := eq_false (by decide)
@[simp] theorem sne_put_note : (("put" : Str) = "note") = False := eq_false (by decide)
@[simp] theorem sne_put_not : (("put" : Str) = "not") = False := eq_false (by decide)
@[simp] theorem sne_put_either : (("put" : Str) = "either") = False := eq_false (by decide)
@[simp] theorem sne_put_then : (("put" : Str) = "then") = False := eq_false (by decide)
@[simp] theorem sne_put_again : (("put" : Str) = "again") = False := eq_false (by decide)
@[simp] theorem sne_put_field : (("put" : Str) = "field") = False := eq_false (by decide)
@[simp] theorem sne_put_value : (("put" : Str) = "value") = False := eq_false (by decide)
@[simp] theorem sne_put_test : (("put" : Str) = "test") = False := eq_false (by decide)
@[simp] theorem sne_put_plain : (("put" : Str) = "plain") = False := eq_false (by decide)
@[simp] theorem sne_put_net : (("put" : Str) = "net") = False := eq_false (by decide)
@[simp] theorem sne_put_zz : (("put" : Str) = "zz") = False := eq_false (by decide)
@[simp] theorem sne_all_is : (("all" : Str) = "is") = False := eq_false (by decide)
@[simp] theorem sne_all_put : (("all" : Str) = "put") = False := eq_false (by decide)
@[simp] theorem sne_all_none : (("all" : Str) = "none") = False := eq_false (by decide)
@[simp] theorem sne_all_note : (("all" : Str) = "note") = False := eq_false (by decide)
@[simp] theorem sne_all_not : (("all" : Str) = "not") = False := eq_false (by decide)
@[simp] theorem sne_all_either : (("all" : Str) = "either") = False := eq_false (by decide)
@[simp] theorem sne_all_then : (("all" : Str) = "then") = False := eq_false (by decide)
@[simp] theorem sne_all_again : (("all" : Str) = "again") = False := eq_false (by decide)
@[simp] theorem sne_all_field : (("all" : Str) = "field") = False := eq_false (by decide)
@[simp] theorem sne_all_value : (("all" : Str) = "value") = False := eq_false (by decide)
@[simp] theorem sne_all_test : (("all" : Str) = "test") = False := eq_false (by decide)
@[simp] theorem sne_all_plain : (("all" : Str) = "plain") = False := eq_false (by decide)
@[simp] theorem sne_all_net : (("all" : Str) = "net") = False := eq_false (by decide)
@[simp] theorem sne_all_zz : (("all" : Str) = "zz") = False := eq_false (by decide)
@[simp] theorem sne_none_is : (("none" : Str) = "is") = False := eq_false (by decide)
@[simp] theorem sne_none_put : (("none" : Str) = "put") = False := eq_false (by decide)
@[simp] theorem sne_none_all : (("none" : Str) = "all") = False := eq_false (by decide)
@[simp] theorem sne_none_note : (("none" : Str) = "note") = False := eq_false (by decide)
@[simp] theorem sne_none_not : (("none" : Str) = "not") = False := eq_false (by decide)
@[simp] theorem sne_none_either : (("none" : Str) = "either") = False := eq_false (by decide)
@[simp] theorem sne_none_then : (("none" : Str) = "then") = False := eq_false (by decide)
@[simp] theorem sne_none_again : (("none" : Str) = "again") = False := eq_false (by decide)
@[simp] theorem sne_none_field : (("none" : Str) = "field") = False := eq_false (by decide)
@[simp] theorem sne_none_value : (("none" : Str) = "value") = False := eq_false (by decide)
@[simp] theorem sne_none_test : (("none" : Str) = "test") = False := eq_false (by decide)
@[simp] theorem sne_none_plain : (("none" : Str) = "plain") = False := eq_false (by decide)
@[simp] theorem sne_none_net : (("none" : Str) = "net") = False := eq_false (by decide)
@[simp] theorem sne_none_zz : (("none" : Str) = "zz") = False := eq_false (by decide)
@[simp] theorem sne_note_is : (("note" : Str) = "is") = False := eq_false (by decide)
@[simp] theorem sne_note_put : (("note" : Str) = "put") = False := eq_false (by decide)
@[simp] theorem sne_note_all : (("note" : Str) = "all") = False := eq_false (by decide)
@[simp] theorem sne_note_none : (("note" : Str) = "none") = False := eq_false (by decide)
@[simp] theorem sne_note_not : (("note" : Str) = "not") = False := eq_false (by decide)
@[simp] theorem sne_note_either : (("note" : Str) = "either") = False := eq_false (by decide)
@[simp] theorem sne_note_then : (("note" : Str) = "then") = False := eq_false (by decide)
@[simp] theorem sne_note_again : (("note" : Str) = "again") = False := eq_false (by decide)
@[simp] theorem sne_note_field : (("note" : Str) = "field") = False := eq_false (by decide)
@[simp] theorem sne_note_value : (("note" : Str) = "value") = False := eq_false (by decide)
@[simp] theorem sne_note_test : (("note" : Str) = "test") = False := eq_false (by decide)
@[simp] theorem sne_note_plain : (("note" : Str) = "plain") = False := eq_false (by decide)
@[simp] theorem sne_note_net : (("note" : Str) = "net") = False := eq_false (by decide)
@[simp] theorem sne_note_zz : (("note" : Str) = "zz") = False := eq_false (by decide)
@[simp] theorem sne_not_is : (("not" : Str) = "is") = False := eq_false (by decide)
@[simp] theorem sne_not_put : (("not" : Str) = "put") = False := eq_false (by decide)
@[simp] theorem sne_not_all : (("not" : Str) = "all") = False := eq_false (by decide)
@[simp] theorem sne_not_none : (("not" : Str) = "none") = False := eq_false (by decide)
@[simp] theorem sne_not_note : (("not" : Str) = "note") = False := eq_false (by decide)
@[simp] theorem sne_not_either : (("not" : Str) = "either") = False := eq_false (by decide)
@[simp] theorem sne_not_then : (("not" : Str) = "then") = False := eq_false (by decide)
@[simp] theorem sne_not_again : (("not" : Str) = "again") = False := eq_false (by decide)
@[simp] theorem sne_not_field : (("not" : Str) = "field") = False := eq_false (by decide)
@[simp] theorem sne_not_value : (("not" : Str) = "value") = False := eq_false (by decide)
@[simp] theorem sne_not_test : (("not" : Str) = "test") = False := eq_false (by decide)
@[simp] theorem sne_not_plain : (("not" : Str) = "plain") = False := eq_false (by decide)
@[simp] theorem sne_not_net : (("not" : Str) = "net") = False := eq_false (by decide)
@[simp] theorem sne_not_zz : (("not" : Str) = "zz") = False := eq_false (by decide)
@[simp] theorem sne_either_is : (("either" : Str) = "is") = False := eq_false (by decide)
@[simp] theorem sne_either_put : (("either" : Str) = "put") = False := eq_false (by decide)
@[simp] theorem sne_either_all : (("either" : Str) = "all") = False := eq_false (by decide)
@[simp] theorem sne_either_none : (("either" : Str) = "none") = False := eq_false (by decide)
@[simp] theorem sne_either_note : (("either" : Str) = "note") = False := eq_false (by decide)
@[simp] theorem sne_either_not : (("either" : Str) = "not") = False := eq_false (by decide)
@[simp] theorem sne_either_then : (("either" : Str) = "then") = False := eq_false (by decide)
@[simp] theorem sne_either_again : (("either" : Str) = "again") = False := eq_false (by decide)
@[simp] theorem sne_either_field : (("either" : Str) = "field") = False := eq_false (by decide)
@[simp] theorem sne_either_value : (("either" : Str) = "value") = False := eq_false (by decide)
@[simp] theorem sne_either_test : (("either" : Str) = "test") = False := eq_false (by decide)
@[simp] theorem sne_either_plain : (("either" : Str) = "plain") = False := eq_false (by decide)
@[simp] theorem sne_either_net : (("either" : Str) = "net") = False := eq_false (by decide)
@[simp] theorem sne_either_zz : (("either" : Str) = "zz") = False := eq_false (by decide)
@[simp] theorem sne_then_is : (("then" : Str) = "is") = False := eq_false (by decide)
@[simp] theorem sne_then_put : (("then" : Str) = "put") = False := eq_false (by decide)
@[simp] theorem sne_then_all : (("then" : Str) = "all") = False := eq_false (by decide)
@[simp] theorem sne_then_none : (("then" : Str) = "none") = False := eq_false (by decide)
@[simp] theorem sne_then_note : (("then" : Str) = "note") = False := eq_false (by decide)
@[simp] theorem sne_then_not : (("then" : Str) = "not") = False := eq_false (by decide)
@[simp] theorem sne_then_either : (("then" : Str) = "either") = False := eq_false (by decide)
@[simp] theorem sne_then_again : (("then" : Str) = "again") = False := eq_false (by decide)
@[simp] theorem sne_then_field : (("then" : Str) = "field") = False := eq_false (by decide)
@[simp] theorem sne_then_value : (("then" : Str) = "value") = False := eq_false (by decide)
@[simp] theorem sne_then_test : (("then" : Str) = "test") = False := eq_false (by decide)
@[simp] theorem sne_then_plain : (("then" : Str) = "plain") = False := eq_false (by decide)
@[simp] theorem sne_then_net : (("then" : Str) = "net") = False := eq_false (by decide)
@[simp] theorem sne_then_zz : (("then" : Str) = "zz") = False := eq_false (by decide)
@[simp] theorem sne_again_is : (("again" : Str) = "is") = False := eq_false (by decide)
@[simp] theorem sne_again_put : (("again" : Str) = "put") = False := eq_false (by decide)
@[simp] theorem sne_again_all : (("again" : Str) = "all") = False := eq_false (by decide)
@[simp] theorem sne_again_none : (("again" : Str) = "none") = False := eq_false (by decide)
@[simp] theorem sne_again_note : (("again" : Str) = "note") = False := eq_false (by decide)
@[simp] theorem sne_again_not : (("again" : Str) = "not") = False := eq_false (by decide)
@[simp] theorem sne_again_either : (("again" : Str) = "either") = False := eq_false (by decide)
@[simp] theorem sne_again_then : (("again" : Str) = "then") = False := eq_false (by decide)
@[simp] theorem sne_again_field : (("again" : Str) = "field") = False := eq_false (by decide)
@[simp] theorem sne_again_value : (("again" : Str) = "value") = False := eq_false (by decide)
@[simp] theorem sne_again_test : (("again" : Str) = "test") = False := eq_false (by decide)
@[simp] theorem sne_again_plain : (("again" : Str) = "plain") = False := eq_false (by decide)
@[simp] theorem sne_again_net : (("again" : Str) = "net") = False := eq_false (by decide)
@[simp] theorem sne_again_zz : (("again" : Str) = "zz") = False := eq_false (by decide)
@[simp] theorem sne_field_is : (("field" : Str) = "is") = False := eq_false (by decide)
@[simp] theorem sne_field_put : (("field" : Str) = "put") = False := eq_false (by decide)
@[simp] theorem sne_field_all : (("field" : Str) = "all") = False := eq_false (by decide)
@[simp] theorem sne_field_none : (("field" : Str) = "none") = False := eq_false (by decide)
@[simp] theorem sne_field_note : (("field" : Str) = "note") = False := eq_false (by decide)
@[simp] theorem sne_field_not : (("field" : Str) = "not") = False := eq_false (by decide)
@[simp] theorem sne_field_either : (("field" : Str) = "either") = False := eq_false (by decide)
@[simp] theorem sne_field_then : (("field" : Str) = "then") = False := eq_false (by decide)
@[simp] theorem sne_field_again : (("field" : Str) = "again") = False := eq_false (by decide)
@[simp] theorem sne_field_value : (("field" : Str) = "value") = False := eq_false (by decide)
@[simp] theorem sne_field_test : (("field" : Str) = "test") = False := eq_false (by decide)
@[simp] theorem sne_field_plain : (("field" : Str) = "plain") = False := eq_false (by decide)
@[simp] theorem sne_field_net : (("field" : Str) = "net") = False := eq_false (by decide)
@[simp] theorem sne_field_zz : (("field" : Str) = "zz") = False := eq_false (by decide)
@[simp] theorem sne_value_is : (("value" : Str) = "is") = False := eq_false (by decide)
@[simp] theorem sne_value_put : (("value" : Str) = "put") = False := eq_false (by decide)
@[simp] theorem sne_value_all : (("value" : Str) = "all") = False := eq_false (by decide)
@[simp] theorem sne_value_none : (("value" : Str) = "none") = False := eq_false (by decide)
@[simp] theorem sne_value_note : (("value" : Str) = "note") = False := eq_false (by decide)
@[simp] theorem sne_value_not : (("value" : Str) = "not") = False := eq_false (by decide)
@[simp] theorem sne_value_either : (("value" : Str) = "either") = False := eq_false (by decide)
@[simp] theorem sne_value_then : (("value" : Str) = "then") = False := eq_false (by decide)
@[simp] theorem sne_value_again : (("value" : Str) = "again") = False := eq_false (by decide)
@[simp] theorem sne_value_field : (("value" : Str) = "field") = False := eq_false (by decide)
@[simp] theorem sne_value_test : (("value" : Str) = "test") = False := eq_false (by decide)
@[simp] theorem sne_value_plain : (("value" : Str) = "plain") = False := eq_false (by decide)
@[simp] theorem sne_value_net : (("value" : Str) = "net") = False := eq_false (by decide)
@[simp] theorem sne_value_zz : (("value" : Str) = "zz") = False := eq_false (by decide)
@[simp] theorem sne_test_is : (("test" : Str) = "is") = False := eq_false (by decide)
@[simp] theorem sne_test_put : (("test" : Str) = "put") = False := eq_false (by decide)
@[simp] theorem sne_test_all : (("test" : Str) = "all") = False := eq_false (by decide)
@[simp] theorem sne_test_none : (("test" : Str) = "none") = False := eq_false (by decide)
@[simp] theorem sne_test_note : (("test" : Str) = "note") = False := eq_false (by decide)
@[simp] theorem sne_test_not : (("test" : Str) = "not") = False := eq_false (by decide)
@[simp] theorem sne_test_either : (("test" : Str) = "either") = False := eq_false (by decide)
@[simp] theorem sne_test_then : (("test" : Str) = "then") = False := eq_false (by decide)
@[simp] theorem sne_test_again : (("test" : Str) = "again") = False := eq_false (by decide)
@[simp] theorem sne_test_field : (("test" : Str) = "field") = False := eq_false (by decide)
@[simp] theorem sne_test_value : (("test" : Str) = "value") = False := eq_false (by decide)
@[simp] theorem sne_test_plain : (("test" : Str) = "plain") = False := eq_false (by decide)
@[simp] theorem sne_test_net : (("test" : Str) = "net") = False := eq_false (by decide)
@[simp] theorem sne_test_zz : (("test" : Str) = "zz") = False := eq_false (by decide)
@[simp] theorem sne_plain_is : (("plain" : Str) = "is") = False := eq_false (by decide)
@[simp] theorem sne_plain_put : (("plain" : Str) = "put") = False := eq_false (by decide)
@[simp] theorem sne_plain_all : (("plain" : Str) = "all") = False := eq_false (by decide)
@[simp] theorem sne_plain_none : (("plain" : Str) = "none") = False := eq_false (by decide)
@[simp] theorem sne_plain_note : (("plain" : Str) = "note") = False := eq_false (by decide)
@[simp] theorem sne_plain_not : (("plain" : Str) = "not") = False := eq_false (by decide)
@[simp] theorem sne_plain_either : (("plain" : Str) = "either") = False := eq_false (by decide)
@[simp] theorem sne_plain_then : (("plain" : Str) = "then") = False := eq_false (by decide)
@[simp] theorem sne_plain_again : (("plain" : Str) = "again") = False := eq_false (by decide)
@[simp] theorem sne_plain_field : (("plain" : Str) = "field") = False := eq_false (by decide)
@[simp] theorem sne_plain_value : (("plain" : Str) = "value") = False := eq_false (by decide)
@[simp] theorem sne_plain_test : (("plain" : Str) = "test") = False := eq_false (by decide)
@[simp] theorem sne_plain_net : (("plain" : Str) = "net") = False := eq_false (by decide)
@[simp] theorem sne_plain_zz : (("plain" : Str) = "zz") = False := eq_false (by decide)
@[simp] theorem sne_net_is : (("net" : Str) = "is") = False := eq_false (by decide)
@[simp] theorem sne_net_put : (("net" : Str) = "put") = False := eq_false (by decide)
@[simp] theorem sne_net_all : (("net" : Str) = "all") = False := eq_false (by decide)
@[simp] theorem sne_net_none : (("net" : Str) = "none") = False := eq_false (by decide)
@[simp] theorem sne_net_note : (("net" : Str) = "note") = False := eq_false (by decide)
@[simp] theorem sne_net_not : (("net" : Str) = "not") = False := eq_false (by decide)
@[simp] theorem sne_net_either : (("net" : Str) = "either") = False := eq_false (by decide)
@[simp] theorem sne_net_then : (("net" : Str) = "then") = False := eq_false (by decide)
@[simp] theorem sne_net_again : (("net" : Str) = "again") = False := eq_false (by decide)
@[simp] theorem sne_net_field : (("net" : Str) = "field") = False := eq_false (by decide)
@[simp] theorem sne_net_value : (("net" : Str) = "value") = False := eq_false (by decide)
@[simp] theorem sne_net_test : (("net" : Str) = "test") = False := eq_false (by decide)
@[simp] theorem sne_net_plain : (("net" : Str) = "plain") = False := eq_false (by decide)
@[simp] theorem sne_net_zz : (("net" : Str) = "zz") = False := eq_false (by decide)
@[simp] theorem sne_zz_is : (("zz" : Str) = "is") = False := eq_false (by decide)
@[simp] theorem sne_zz_put : (("zz" : Str) = "put") = False := eq_false (by decide)
@[simp] theorem sne_zz_all : (("zz" : Str) = "all") = False := eq_false (by decide)
@[simp] theorem sne_zz_none : (("zz" : Str) = "none") = False := eq_false (by decide)
@[simp] theorem sne_zz_note : (("zz" : Str) = "note") = False := eq_false (by decide)
@[simp] theorem sne_zz_not : (("zz" : Str) = "not") = False := eq_false (by decide)
@[simp] theorem sne_zz_either : (("zz" : Str) = "either") = False := eq_false (by decide)
@[simp] theorem sne_zz_then : (("zz" : Str) = "then") = False := eq_false (by decide)
@[simp] theorem sne_zz_again : (("zz" : Str) = "again") = False := eq_false (by decide)
@[simp] theorem sne_zz_field : (("zz" : Str) = "field") = False := eq_false (by decide)
@[simp] theorem sne_zz_value : (("zz" : Str) = "value") = False := eq_false (by decide)
@[simp] theorem sne_zz_test : (("zz" : Str) = "test") = False := eq_false (by decide)
@[simp] theorem sne_zz_plain : (("zz" : Str) = "plain") = False := eq_false (by decide)
@[simp] theorem sne_zz_net : (("zz" : Str) = "net") = False := eq_false (by decide)

@[simp] theorem pl_str {x : Str} : D.pl (.str x) = PySem.PyData.strOk x := rfl
@[simp] theorem pl_int {i : Int} : D.pl (.int i) = true := rfl
@[simp] theorem pl_non : D.pl .non = true := rfl
@[simp] theorem pl_tup {xs : List D} : D.pl (.nd .tup xs) = D.pls xs := by simp [D.pl, Tag.pl]
@[simp] theorem pl_lst {xs : List D} : D.pl (.nd .lst xs) = D.pls xs := by simp [D.pl, Tag.pl]
@[simp] theorem pls_nil : D.pls [] = true := rfl
@[simp] theorem pls_cons {x : D} {xs : List D} : D.pls (x :: xs) = (D.pl x && D.pls xs) := rfl
@[simp] theorem dp_str {x : Str} : D.dp (.str x) = 0 := rfl
@[simp] theorem dp_int {i : Int} : D.dp (.int i) = 0 := rfl
@[simp] theorem dp_non : D.dp .non = 0 := rfl
@[simp] theorem dp_nd {t : Tag} {xs : List D} : D.dp (.nd t xs) = D.dps xs + 1 := rfl
@[simp] theorem dps_nil : D.dps [] = 0 := rfl
@[simp] theorem dps_cons {x : D} {xs : List D} : D.dps (x :: xs) = max (D.dp x) (D.dps xs) := rfl
theorem hEq_s {f : Bool → Bool} {x y : Str} (hx : PySem.PyData.strOk x = true) (hy : PySem.PyData.strOk y = true) : gEqN f (.str x) (.str y) = some (.bl (f (decide (x = y)))) := by
  rw [gEqN_pl (x := .str x) (y := .str y) hx hy (by simp)]
  simp
theorem hIn_t {f : Bool → Bool} {x : D} {ys : List D} (hx : D.pl x = true) (hy : D.pls ys = true) (hn : min (D.dps ys) x.dp ≤ 180) : gInN f x (.nd .tup ys) = some (.bl (f (decide (x ∈ ys)))) := gInN_pl (.inl rfl) hx hy hn
theorem hIn_l {f : Bool → Bool} {x : D} {ys : List D} (hx : D.pl x = true) (hy : D.pls ys = true) (hn : min (D.dps ys) x.dp ≤ 180) : gInN f x (.nd .lst ys) = some (.bl (f (decide (x ∈ ys)))) := gInN_pl (.inr rfl) hx hy hn
theorem rng_enc' (n : Nat) : rng 0 n = (List.range n).map fun k : Nat => D.int (k : Int) := by
  unfold rng
  refine List.map_congr_left fun k _ => ?_
  rw [Int.zero_add]
@[simp] theorem asS_L' (l : List Int) : asS (enL l) = some (l.map .int) := rfl
@[simp] theorem gIx_L' (l : List Int) (i : Int) : gIx (enL l) (.int i) = L2.atI (l.map D.int) i := rfl
@[simp] theorem gLen_L0 (l : List Int) : gLen [enL l] = some (.int l.length) := by
  show some (D.int ((l.map D.int).length : Int)) = _
  rw [List.length_map]
theorem rng1_k {n : Nat} (h : n ≤ 1000000) : rng1 [.int (n : Int)] = some (rng 0 n) := by
  have e := rng1_i (j := (n : Int)) ⟨by omega, by omega⟩
  rw [Int.toNat_natCast] at e
  exact e
theorem cutD_map {α : Type} {enc : α → D} (ns : List α) (lo hi : Option Int) : ∃ zs : List α, cutD (ns.map enc) lo hi = zs.map enc ∧ zs.length ≤ ns.length ∧ ∀ z ∈ zs, z ∈ ns := by
  unfold cutD
  rw [← List.map_drop, ← List.map_take]
  refine ⟨_, rfl, ?_, fun z hz => List.mem_of_mem_drop (List.mem_of_mem_take hz)⟩
  rw [List.length_take, List.length_drop]
  omega
theorem cut_len (xs : List D) (lo hi : Option Int) : (cutD xs lo hi).length ≤ xs.length := by
  unfold cutD
  rw [List.length_take, List.length_drop]
  omega
/-- all but the last k, the last k -/
theorem cutD_butlast (xs : List D) (k : Nat) (h : k ≤ xs.length) (hk : 0 < k) : cutD xs none (some (-(k : Int))) = xs.take (xs.length - k) := by
  unfold cutD
  have e : HT.sIx xs.length xs.length (some (-(k : Int))) = xs.length - k := by
    show (if (-(k : Int)) < 0 then (-(k : Int) + (xs.length : Int)).toNat else _) = _
    rw [if_pos (by omega)]
    omega
  rw [e, HT.sIx_none, List.drop_zero, Nat.sub_zero]
theorem cutD_last (xs : List D) (k : Nat) (h : k ≤ xs.length) (hk : 0 < k) : cutD xs (some (-(k : Int))) none = xs.drop (xs.length - k) := by
  unfold cutD
  have e : HT.sIx xs.length 0 (some (-(k : Int))) = xs.length - k := by
    show (if (-(k : Int)) < 0 then (-(k : Int) + (xs.length : Int)).toNat else _) = _
    rw [if_pos (by omega)]
    omega
  rw [e, HT.sIx_none]
  exact List.take_of_length_le (by rw [List.length_drop]; omega)
def mCellD : M Out :=
  mSeq (mIfS (mT (m2 hLt (lv (mVar 1)) (lv (mCl gLen (lCons (lv (mVar 0)) (mp [])))))) (mRet (m2 gIx (lv (mVar 0)) (lv (mVar 1)))) (mp .nx))
  (mRet (mp (.int 0)))
def fCellD : Fd := fnM 2 mCellD
theorem cellD_run (ns : List Int) (k : Nat) : ∃ z c, fCellD [.d (.nd .scr (ns.map .int)), .d (.int (k : Int))] = .ok (.d (.int z)) c := by
  unfold fCellD
  rw [fnM_r]
  unfold mCellD
  by_cases h : k < ns.length
  · refine ⟨ns[k], [.d (.nd .scr (ns.map .int)), .d (.int (k : Int))], ?_⟩
    simp [h]
  · refine ⟨0, [.d (.nd .scr (ns.map .int)), .d (.int (k : Int))], ?_⟩
    simp [h]
end Sw
set_option maxRecDepth 100000
namespace K12
open PySem PySem.Spec L2 Sw
-- slots: 0 saying
def m_inside  : M Out :=
  mSeq (mIfS (mT (m2 hIn (lv (m2 gIx (lv (mVar 0)) (lv (mp (.int 0))))) (lv (mTup (mCons (mp (.str "not")) (mCons (mp (.str "again")) (mp []))))))) (mRet (mFz (mLst (mCons (m2 gIx (lv (mVar 0)) (lv (mp (.int 1)))) (mp []))))) (mp .nx))
  (mSeq (mIfS (mT (m2 hIn (lv (m2 gIx (lv (mVar 0)) (lv (mp (.int 0))))) (lv (mTup (mCons (mp (.str "either")) (mCons (mp (.str "then")) (mp []))))))) (mRet (mFz (mLst (mCons (m2 gIx (lv (mVar 0)) (lv (mp (.int 1)))) (mCons (m2 gIx (lv (mVar 0)) (lv (mp (.int 2)))) (mp [])))))) (mp .nx))
  (mRet (mFz (mLst (mp [])))))
-- slots: 0 saying, 1 one
def m_is_test (F_inside : Fd) (F_is_test : Fd) : M Out :=
  mSeq (mIfS (mT (m2 hIn (lv (m2 gIx (lv (mVar 0)) (lv (mp (.int 0))))) (lv (mTup (mCons (mp (.str "put")) (mCons (mp (.str "again")) (mCons (mp (.str "note")) (mp [])))))))) (mRet (mp (.bl false))) (mp .nx))
  (mRet (mCl gAll (lCons (lv (mFz (mLc [1] (itS (mRvD (mCallA F_inside (aD (mVar 0) (aNil))))) (gN 1) (mp true) (mRvD (mCallA F_is_test (aD (mVar 1) (aNil))))))) (mp []))))
-- slots: 0 saying, 1 one
def m_notes_in (F_inside : Fd) (F_notes_in : Fd) : M Out :=
  mRet (m2 gAdd (lv (mCl gInt (lCons (lv (m2 hEq (lv (m2 gIx (lv (mVar 0)) (lv (mp (.int 0))))) (lv (mp (.str "note"))))) (mp [])))) (lv (mCl gSum (lCons (lv (mFz (mLc [1] (itS (mRvD (mCallA F_inside (aD (mVar 0) (aNil))))) (gN 1) (mp true) (mRvD (mCallA F_notes_in (aD (mVar 1) (aNil))))))) (mp [])))))
-- slots: 0 _law_script, 1 _law_k
def m_law_cell  : M Out :=
  mSeq (mIfS (mT (m2 hLt (lv (mVar 1)) (lv (mCl gLen (lCons (lv (mVar 0)) (mp [])))))) (mRet (m2 gIx (lv (mVar 0)) (lv (mVar 1)))) (mp .nx))
  (mRet (mp (.int 0)))
-- slots: 0 _law_cell_here, 1 _law_number, 2 _law_found, 3 _law_k
def m_law_purse  : M Out :=
  mSeq (mSet 1 (m2 gMod (lv (mVar 0)) (lv (mp (.int 2147483647)))))
  (mSeq (mSet 2 (mp (.int 1)))
  (mSeq (mForS (itR rng1 (mCons (mp (.int 16)) (mp []))) (gN 3) (mSeq (mSet 1 (m2 gMod (lv (m2 gAdd (lv (m2 gAdd (lv (m2 gAdd (lv (m2 gMul (lv (mVar 1)) (lv (mVar 1)))) (lv (m2 gMul (lv (m2 gMul (lv (mp (.int 48271))) (lv (mVar 3)))) (lv (mVar 3)))))) (lv (mVar 3)))) (lv (mp (.int 3))))) (lv (mp (.int 2147483629)))))
  (mSet 2 (m2 gAdd (lv (m2 gMul (lv (mVar 2)) (lv (mp (.int 2147483587))))) (lv (m2 gMod (lv (m2 gMul (lv (mVar 1)) (lv (mVar 1)))) (lv (mp (.int 2147483587)))))))))
  (mSeq (mIfS (mT (m2 hEq (lv (m2 gMod (lv (mVar 0)) (lv (mp (.int 2))))) (lv (mp (.int 0))))) (mRetO (mLst (mCons (m2 gDiv (lv (mCl gAbs (lCons (lv (mVar 0)) (mp [])))) (lv (mp (.int 2)))) (mCons (mVar 2) (mp []))))) (mp .nx))
  (mRetO (mLst (mCons (mp (.int 0)) (mCons (mVar 2) (mp []))))))))
-- slots: 0 _law_purse_here*, 1 _law_many, 2 _law_at, 3 _law_found
def m_law_take  : M Out :=
  mSeq (mSet 2 (mCl gInt (lCons (lv (m2 hEq (lv (m2 gIx (lName 0) (lv (mp (.int 0))))) (lv (mp (.int 0))))) (mp []))))
  (mSeq (mSet 3 (m2 gMod (lv (m2 gIx (lName 0) (lv (mVar 2)))) (lv (mVar 1))))
  (mSeq (mPut 0 (m2 gDiv (lv (m2 gIx (lName 0) (lv (mVar 2)))) (lv (mVar 1))) (mVar 2))
  (mRet (mVar 3))))
-- slots: 0 _law_cell_here, 1 _law_least, 2 _law_purse_here*, 3 _law_first, 4 _law_letters, 5 _law_left, 6 _law_many, 7 _law_tail, 8 _law_speech_here*, 9 _law_k, 10 _law_count, 11 _law_word
def m_law_speech (F_law_purse : Fd) (F_law_take : Fd) : M Out :=
  mSeq (mSetO 2 (mRvO (mCallA F_law_purse (aD (mVar 0) (aNil)))))
  (mSeq (mSet 3 (mRvD (mCallA F_law_take (aL 2 (aD (mp (.int 26)) (aNil))))))
  (mSeq (mSet 4 (mp (.str "abcdefghijklmnopqrstuvwxyz")))
  (mSeq (mSet 5 (m2 gIx (lv (mFz (mLst (mCons (mp (.int 8)) (mCons (mp (.int 8)) (mCons (mp (.int 6)) (mCons (mp (.int 8)) (mCons (mp (.int 12)) (mCons (mp (.int 8)) (mCons (mp (.int 4)) (mCons (mp (.int 24)) (mp [])))))))))))) (lv (mRvD (mCallA F_law_take (aL 2 (aD (mp (.int 8)) (aNil))))))))
  (mSeq (mSet 6 (mCl gMax (lCons (lv (mVar 1)) (lCons (lv (m2 gAdd (lv (mp (.int 1))) (lv (mRvD (mCallA F_law_take (aL 2 (aD (mp (.int 3)) (aNil)))))))) (mp [])))))
  (mSeq (mSet 7 (mSl gSl (lv (mp (.str "abcdefg"))) (mp none) (mPart (mRvD (mCallA F_law_take (aL 2 (aD (mp (.int 8)) (aNil))))))))
  (mSeq (mSetO 8 (mLst (mp [])))
  (mSeq (mForS (itR rng1 (mCons (mVar 6) (mp []))) (gN 9) (mSeq (mSet 10 (mCl gMin (lCons (lv (m2 gIx (lv (mFz (mLst (mCons (mp (.int 2)) (mCons (mp (.int 3)) (mCons (mp (.int 4)) (mCons (mp (.int 1)) (mCons (mp (.int 6)) (mCons (mp (.int 5)) (mp [])))))))))) (lv (mRvD (mCallA F_law_take (aL 2 (aD (mp (.int 6)) (aNil)))))))) (lCons (lv (mVar 5)) (mp [])))))
  (mSeq (mSet 5 (m2 gDiv (lv (mVar 5)) (lv (mVar 10))))
  (mDrop (mApp 8 (mTup (mCons (m2 gAdd (lv (m2 gIx (lv (mVar 4)) (lv (m2 gMod (lv (m2 gAdd (lv (mVar 3)) (lv (m2 gMul (lv (mp (.int 9))) (lv (mVar 9)))))) (lv (mp (.int 26))))))) (lv (mVar 7))) (mCons (mVar 10) (mp [])))))))))
  (mSeq (mSet 11 (m2 gIx (lv (mFz (mLst (mCons (mp (.str "note")) (mCons (mp (.str "put")) (mCons (mp (.str "again")) (mCons (mp (.str "not")) (mCons (mp (.str "all")) (mCons (mp (.str "is")) (mCons (mp (.str "either")) (mCons (mp (.str "then")) (mp [])))))))))))) (lv (mRvD (mCallA F_law_take (aL 2 (aD (mp (.int 8)) (aNil))))))))
  (mSeq (mIfS (mT (m2 hEq (lv (mRvD (mCallA F_law_take (aL 2 (aD (mp (.int 8)) (aNil)))))) (lv (mp (.int 7))))) (mPut 8 (mTup (mCons (mVar 11) (mCons (m2 gIx (lv (m2 gIx (lName 8) (lv (mp (.int 0))))) (lv (mp (.int 1)))) (mp [])))) (mp (.int 0))) (mp .nx))
  (mRet (mCl gTuple (lCons (lName 8) (mp [])))))))))))))
-- slots: 0 _law_sort, 1 _law_purse_here*, 2 _law_speech_here, 3 _law_field, 4 _law_count
def m_law_lone (F_law_take : Fd) : M Out :=
  mSeq (mAsg (m2 gIx (lv (mVar 2)) (lv (mRvD (mCallA F_law_take (aL 1 (aD (mCl gLen (lCons (lv (mVar 2)) (mp []))) (aNil))))))) (gS 2 (gCons' (gN 3) (gCons' (gN 4) (gNil')))))
  (mRet (m2 gIx (lv (mFz (mLst (mCons (mTup (mCons (mp (.str "is")) (mCons (mVar 3) (mCons (mRvD (mCallA F_law_take (aL 1 (aD (mVar 4) (aNil))))) (mp []))))) (mCons (mTup (mCons (mp (.str "put")) (mCons (mVar 3) (mCons (mRvD (mCallA F_law_take (aL 1 (aD (mVar 4) (aNil))))) (mp []))))) (mCons (mTup (mCons (mp (.str "all")) (mp []))) (mCons (mTup (mCons (mp (.str "none")) (mp []))) (mp [])))))))) (lv (mVar 0))))
-- slots: 0 _law_row, 1 _law_cell_here, 2 _law_speech_here, 3 _law_most, 4 _law_purse_here*, 5 _law_sort, 6 _law_last, 7 _law_one
def m_law_grown (F_law_purse : Fd) (F_law_take : Fd) (F_law_joined : Fd) (F_law_lone : Fd) : M Out :=
  mSeq (mSetO 4 (mRvO (mCallA F_law_purse (aD (mVar 1) (aNil)))))
  (mSeq (mSet 5 (mRvD (mCallA F_law_take (aL 4 (aD (mp (.int 14)) (aNil))))))
  (mSeq (mSet 6 (m2 gIx (lv (mVar 0)) (lv (vNeg (mp (.int 1))))))
  (mSeq (mIfS (mAnd (mT (m2 hEq (lv (mVar 5)) (lv (mp (.int 4))))) (mT (m2 hLt (lv (mCl gSum (lCons (lv (mFz (mLc [7] (itS (mVar 0)) (gN 7) (mp true) (m2 gIx (lv (mVar 7)) (lv (mp (.int 2))))))) (mp [])))) (lv (mVar 3))))) (mRet (m2 gAdd (lv (mVar 0)) (lv (mFz (mLst (mCons (mFz (mLst (mCons (mTup (mCons (mp (.str "note")) (mp []))) (mCons (mp (.bl false)) (mCons (mp (.int 1)) (mCons (mp (.int 0)) (mp []))))))) (mp []))))))) (mp .nx))
  (mSeq (mIfS (mAnd (mT (m2 hEq (lv (mVar 5)) (lv (mp (.int 5))))) (mT (m2 gIx (lv (mVar 6)) (lv (mp (.int 1)))))) (mRet (m2 gAdd (lv (mSl gSl (lv (mVar 0)) (mp none) (mPart (vNeg (mp (.int 1)))))) (lv (mFz (mLst (mCons (mFz (mLst (mCons (mTup (mCons (mp (.str "not")) (mCons (m2 gIx (lv (mVar 6)) (lv (mp (.int 0)))) (mp [])))) (mCons (mp (.bl true)) (mCons (mp (.int 0)) (mCons (mp (.int 0)) (mp []))))))) (mp []))))))) (mp .nx))
  (mSeq (mIfS (mAnd (mT (m2 hEq (lv (mVar 5)) (lv (mp (.int 6))))) (mT (m2 hLt (lv (m2 gIx (lv (mVar 6)) (lv (mp (.int 3))))) (lv (mp (.int 3)))))) (mRet (m2 gAdd (lv (mSl gSl (lv (mVar 0)) (mp none) (mPart (vNeg (mp (.int 1)))))) (lv (mFz (mLst (mCons (mFz (mLst (mCons (mTup (mCons (mp (.str "again")) (mCons (m2 gIx (lv (mVar 6)) (lv (mp (.int 0)))) (mp [])))) (mCons (mp (.bl false)) (mCons (m2 gIx (lv (mVar 6)) (lv (mp (.int 2)))) (mCons (m2 gAdd (lv (m2 gIx (lv (mVar 6)) (lv (mp (.int 3))))) (lv (mp (.int 1)))) (mp []))))))) (mp []))))))) (mp .nx))
  (mSeq (mIfS (mAnd (mT (m2 hGt (lv (mVar 5)) (lv (mp (.int 6))))) (mAnd (mT (m2 hLt (lv (mVar 5)) (lv (mp (.int 12))))) (mT (m2 hGt (lv (mCl gLen (lCons (lv (mVar 0)) (mp [])))) (lv (mp (.int 1))))))) (mRet (mRvD (mCallA F_law_joined (aD (mVar 0) (aD (m2 gIx (lv (mFz (mLst (mCons (mp (.str "either")) (mCons (mp (.str "then")) (mp [])))))) (lv (m2 gMod (lv (mVar 5)) (lv (mp (.int 2)))))) (aNil)))))) (mp .nx))
  (mSeq (mSet 5 (m2 gIx (lv (mFz (mLst (mCons (mp (.int 0)) (mCons (mp (.int 1)) (mCons (mp (.int 2)) (mCons (mp (.int 3)) (mCons (mp (.int 2)) (mCons (mp (.int 0)) (mCons (mp (.int 1)) (mCons (mp (.int 0)) (mCons (mp (.int 1)) (mCons (mp (.int 0)) (mCons (mp (.int 1)) (mCons (mp (.int 0)) (mCons (mp (.int 1)) (mCons (mp (.int 0)) (mp [])))))))))))))))))) (lv (mVar 5))))
  (mRet (m2 gAdd (lv (mVar 0)) (lv (mFz (mLst (mCons (mFz (mLst (mCons (mRvD (mCallA F_law_lone (aD (mVar 5) (aL 4 (aD (mVar 2) (aNil)))))) (mCons (m2 hNe (lv (mVar 5)) (lv (mp (.int 1)))) (mCons (mp (.int 0)) (mCons (mp (.int 0)) (mp []))))))) (mp []))))))))))))))
-- slots: 0 _law_row, 1 _law_word, 2 _law_one, 3 _law_other, 4 _law_made
def m_law_joined  : M Out :=
  mSeq (mAsg (mSl gSl (lv (mVar 0)) (mPart (vNeg (mp (.int 2)))) (mp none)) (gS 2 (gCons' (gN 2) (gCons' (gN 3) (gNil')))))
  (mSeq (mSet 4 (mTup (mCons (mVar 1) (mCons (m2 gIx (lv (mVar 2)) (lv (mp (.int 0)))) (mCons (m2 gIx (lv (mVar 3)) (lv (mp (.int 0)))) (mp []))))))
  (mRet (m2 gAdd (lv (mSl gSl (lv (mVar 0)) (mp none) (mPart (vNeg (mp (.int 2)))))) (lv (mFz (mLst (mCons (mFz (mLst (mCons (mVar 4) (mCons (vAnd (m2 gIx (lv (mVar 2)) (lv (mp (.int 1)))) (m2 gIx (lv (mVar 3)) (lv (mp (.int 1))))) (mCons (m2 gAdd (lv (m2 gIx (lv (mVar 2)) (lv (mp (.int 2))))) (lv (m2 gIx (lv (mVar 3)) (lv (mp (.int 2)))))) (mCons (mCl gMax (lCons (lv (m2 gIx (lv (mVar 2)) (lv (mp (.int 3))))) (lCons (lv (m2 gIx (lv (mVar 3)) (lv (mp (.int 3))))) (mp [])))) (mp []))))))) (mp []))))))))
-- slots: 0 _law_cells, 1 _law_speech_here, 2 _law_most, 3 _law_row, 4 _law_cell_here
def m_law_saying (F_law_grown : Fd) (F_law_joined : Fd) (FUEL : Nat) : M Out :=
  mSeq (mSet 3 (mFz (mLst (mCons (mFz (mLst (mCons (mTup (mCons (mp (.str "all")) (mp []))) (mCons (mp (.bl true)) (mCons (mp (.int 0)) (mCons (mp (.int 0)) (mp []))))))) (mp [])))))
  (mSeq (mForS (itS (mVar 0)) (gN 4) (mSet 3 (mRvD (mCallA F_law_grown (aD (mVar 3) (aD (mVar 4) (aD (mVar 1) (aD (mVar 2) (aNil)))))))))
  (mSeq (mWhile (mT (m2 hGt (lv (mCl gLen (lCons (lv (mVar 3)) (mp [])))) (lv (mp (.int 1))))) (mSet 3 (mRvD (mCallA F_law_joined (aD (mVar 3) (aD (m2 gIx (lv (mFz (mLst (mCons (mp (.str "either")) (mCons (mp (.str "then")) (mp [])))))) (lv (m2 gMod (lv (m2 gMod (lv (mCl gLen (lCons (lv (mVar 3)) (mp [])))) (lv (mp (.int 3))))) (lv (mp (.int 2)))))) (aNil)))))) FUEL)
  (mRet (m2 gIx (lv (m2 gIx (lv (mVar 3)) (lv (mp (.int 0))))) (lv (mp (.int 0)))))))
-- slots: 0 _law_saying_here, 1 _law_test, 2 _law_notes, 3 _law_found, 4 _law_count
def m_law_good (F_is_test : Fd) (F_notes_in : Fd) : M Out :=
  mSeq (mSet 3 (mRvD (mCallA F_is_test (aD (mVar 0) (aNil)))))
  (mSeq (mSet 4 (mRvD (mCallA F_notes_in (aD (mVar 0) (aNil)))))
  (mSeq (mIfS (mOr (mNot (mT (mIsi "bool" (lv (mVar 3))))) (mOr (mNot (mT (mIsi "int" (lv (mVar 4))))) (mT (mIsi "bool" (lv (mVar 4)))))) (mRet (mp (.bl false))) (mp .nx))
  (mRet (vAnd (m2 hEq (lv (mVar 3)) (lv (mVar 1))) (m2 hEq (lv (mVar 4)) (lv (mVar 2)))))))
-- slots: 0 _law_script, 1 _law_speech_here, 2 _law_row, 3 _law_cell_here, 4 _law_saying_here, 5 _law_test, 6 _law_notes, 7 _law_deep
def m_law (F_law_speech : Fd) (F_law_cell : Fd) (F_law_grown : Fd) (F_law_good : Fd) (F_law_joined : Fd) (FUEL : Nat) : M Out :=
  mSeq (mSet 1 (mRvD (mCallA F_law_speech (aD (mRvD (mCallA F_law_cell (aD (mVar 0) (aD (mp (.int 0)) (aNil))))) (aD (mp (.int 1)) (aNil))))))
  (mSeq (mSet 2 (mFz (mLst (mCons (mFz (mLst (mCons (mTup (mCons (mp (.str "all")) (mp []))) (mCons (mp (.bl true)) (mCons (mp (.int 0)) (mCons (mp (.int 0)) (mp []))))))) (mp [])))))
  (mSeq (mForS (itS (m2 gAdd (lv (mFz (mLst (mCons (mp (.int 12)) (mp []))))) (lv (mSl gSl (lv (mVar 0)) (mPart (mp (.int 1))) (mPart (mp (.int 29))))))) (gN 3) (mSeq (mSet 2 (mRvD (mCallA F_law_grown (aD (mVar 2) (aD (mVar 3) (aD (mVar 1) (aD (mp (.int 3)) (aNil))))))))
  (mSeq (mAsg (m2 gIx (lv (mVar 2)) (lv (vNeg (mp (.int 1))))) (gS 4 (gCons' (gN 4) (gCons' (gN 5) (gCons' (gN 6) (gCons' (gN 7) (gNil')))))))
  (mSeq (mIfS (mOr (mNot (mT (mRvD (mCallA F_law_good (aD (mVar 4) (aD (mVar 5) (aD (mVar 6) (aNil)))))))) (mNot (mT (mRvD (mCallA F_law_good (aD (mTup (mCons (mp (.str "again")) (mCons (mVar 4) (mp [])))) (aD (mp (.bl false)) (aD (mVar 6) (aNil))))))))) (mRet (mp (.bl false))) (mp .nx))
  (mIfS (mNot (mT (mRvD (mCallA F_law_good (aD (mTup (mCons (mp (.str "not")) (mCons (mVar 4) (mp [])))) (aD (mVar 5) (aD (mVar 6) (aNil)))))))) (mRet (mp (.bl false))) (mp .nx))))))
  (mSeq (mWhile (mT (m2 hGt (lv (mCl gLen (lCons (lv (mVar 2)) (mp [])))) (lv (mp (.int 1))))) (mSet 2 (mRvD (mCallA F_law_joined (aD (mVar 2) (aD (mp (.str "either")) (aNil)))))) FUEL)
  (mRet (mRvD (mCallA F_law_good (aD (m2 gIx (lv (m2 gIx (lv (mVar 2)) (lv (mp (.int 0))))) (lv (mp (.int 0)))) (aD (m2 gIx (lv (m2 gIx (lv (mVar 2)) (lv (mp (.int 0))))) (lv (mp (.int 1)))) (aD (m2 gIx (lv (m2 gIx (lv (mVar 2)) (lv (mp (.int 0))))) (lv (mp (.int 2)))) (aNil))))))))))
end K12
set_option maxRecDepth 100000
set_option maxHeartbeats 4000000
namespace Sw
open PySem PySem.Spec L2

/-! ### sayings -/
inductive Say where
  | non | all | note
  | is (f : Str) (v : Int)
  | put (f : Str) (v : Int)
  | no (s : Say)
  | ei (a b : Say)
  | th (a b : Say)
  | ag (s : Say)
def enS : Say → D
  | .non => .nd .tup [.str "none"]
  | .all => .nd .tup [.str "all"]
  | .note => .nd .tup [.str "note"]
  | .is f v => .nd .tup [.str "is", .str f, .int v]
  | .put f v => .nd .tup [.str "put", .str f, .int v]
  | .no s => .nd .tup [.str "not", enS s]
  | .ei a b => .nd .tup [.str "either", enS a, enS b]
  | .th a b => .nd .tup [.str "then", enS a, enS b]
  | .ag s => .nd .tup [.str "again", enS s]
def Say.kids : Say → List Say
  | .no s => [s]
  | .ag s => [s]
  | .ei a b => [a, b]
  | .th a b => [a, b]
  | _ => []
def Say.dep : Say → Nat
  | .no s => s.dep + 1
  | .ag s => s.dep + 1
  | .ei a b => max a.dep b.dep + 1
  | .th a b => max a.dep b.dep + 1
  | _ => 0
def Say.isT : Say → Bool
  | .put _ _ => false
  | .ag _ => false
  | .note => false
  | .no s => s.isT
  | .ei a b => a.isT && b.isT
  | .th a b => a.isT && b.isT
  | _ => true
def Say.notes : Say → Nat
  | .note => 1
  | .no s => s.notes
  | .ag s => s.notes
  | .ei a b => a.notes + b.notes
  | .th a b => a.notes + b.notes
  | _ => 0
def Say.tag : Say → Str
  | .non => "none"
  | .all => "all"
  | .note => "note"
  | .is _ _ => "is"
  | .put _ _ => "put"
  | .no _ => "not"
  | .ei _ _ => "either"
  | .th _ _ => "then"
  | .ag _ => "again"
@[simp] theorem gIx_S0 (s : Say) : gIx (enS s) (.int 0) = some (.str s.tag) := by cases s <;> rfl
@[simp] theorem sok_tag (s : Say) : PySem.PyData.strOk s.tag = true := by cases s <;> simp [Say.tag]
@[simp] theorem gAll_0 : gAll [.nd .lst []] = some (.bl true) := rfl
@[simp] theorem gAll_1 {a : Bool} : gAll [.nd .lst [.bl a]] = some (.bl a) := by
  show some (D.bl (a && true)) = _
  rw [Bool.and_true]
@[simp] theorem gAll_2 {a b : Bool} : gAll [.nd .lst [.bl a, .bl b]] = some (.bl (a && b)) := by
  show some (D.bl (a && (b && true))) = _
  rw [Bool.and_true]
@[simp] theorem gSum_0 : gSum [.nd .lst []] = some (.int 0) := rfl
@[simp] theorem gSum_1 {a : Int} : gSum [.nd .lst [.int a]] = some (.int a) := by
  show some (D.int (a + 0)) = _
  rw [Int.add_zero]
@[simp] theorem gSum_2 {a b : Int} : gSum [.nd .lst [.int a, .int b]] = some (.int (a + b)) := by
  show some (D.int (a + (b + 0))) = _
  rw [Int.add_zero]
def fInside : Fd := fnM 1 K12.m_inside
def fIsTest : Nat → Fd
  | 0 => fun _ => .stk
  | k + 1 => fnM 2 (K12.m_is_test fInside (fIsTest k))
def fNotesIn : Nat → Fd
  | 0 => fun _ => .stk
  | k + 1 => fnM 2 (K12.m_notes_in fInside (fNotesIn k))
theorem inside_run (s : Say) : ∃ c, fInside [.d (enS s)] = .ok (.d (.nd .lst (s.kids.map enS))) c := by
  refine ⟨[.d (enS s)], ?_⟩
  unfold fInside
  rw [fnM_r]
  unfold K12.m_inside
  cases s <;> simp [enS, Say.kids, hIn_t]
theorem isTest_run : ∀ (k : Nat) (s : Say), s.dep < k → ∃ c, fIsTest k [.d (enS s)] = .ok (.d (.bl s.isT)) c
  | 0, s, h => by omega
  | k + 1, s, h => by
    obtain ⟨ci, ei⟩ := inside_run s
    have hk : ∀ t ∈ s.kids, t.dep < k := by
      intro t ht
      cases s <;> simp [Say.kids, Say.dep] at ht h <;> (try (rcases ht with rfl | rfl)) <;> (try subst ht) <;> omega
    obtain ⟨cs, hcs⟩ := Classical.axiomOfChoice fun t : { t // t ∈ s.kids } => isTest_run k t.1 (hk t.1 t.2)
    have el := mLc_mp (enc := enS) (vs := [1]) (mi := itS (mRvD (mCallA fInside (aD (mVar 0) aNil)))) (g := gN 1) (me := mRvD (mCallA (fIsTest k) (aD (mVar 1) aNil))) (c := [.d (enS s), .no]) (c1 := [.d (enS s), .no]) (fun t => .bl t.isT) s.kids (by simp [ei]) (fun t ht => by
      have e := hcs ⟨t, ht⟩
      exact ⟨[.d (enS s), .d (enS t)], [.d (enS s), .d (enS t)], by simp, by simp [e], by simp⟩) (by cases s <;> simp [Say.kids])
    refine ⟨[.d (enS s), .no], ?_⟩
    show fnM 2 (K12.m_is_test fInside (fIsTest k)) _ = _
    rw [fnM_r]
    unfold K12.m_is_test
    have em : (s.kids.map fun t => D.bl t.isT) = (s.kids.map Say.isT).map .bl := by rw [List.map_map]; rfl
    rw [em] at el
    cases s <;> simp [el, hIn_t, Say.tag, Say.kids, Say.isT]
theorem notesIn_run : ∀ (k : Nat) (s : Say), s.dep < k → ∃ c, fNotesIn k [.d (enS s)] = .ok (.d (.int s.notes)) c
  | 0, s, h => by omega
  | k + 1, s, h => by
    obtain ⟨ci, ei⟩ := inside_run s
    have hk : ∀ t ∈ s.kids, t.dep < k := by
      intro t ht
      cases s <;> simp [Say.kids, Say.dep] at ht h <;> (try (rcases ht with rfl | rfl)) <;> (try subst ht) <;> omega
    obtain ⟨cs, hcs⟩ := Classical.axiomOfChoice fun t : { t // t ∈ s.kids } => notesIn_run k t.1 (hk t.1 t.2)
    have el := mLc_mp (enc := enS) (vs := [1]) (mi := itS (mRvD (mCallA fInside (aD (mVar 0) aNil)))) (g := gN 1) (me := mRvD (mCallA (fNotesIn k) (aD (mVar 1) aNil))) (c := [.d (enS s), .no]) (c1 := [.d (enS s), .no]) (fun t => .int t.notes) s.kids (by simp [ei]) (fun t ht => by
      have e := hcs ⟨t, ht⟩
      exact ⟨[.d (enS s), .d (enS t)], [.d (enS s), .d (enS t)], by simp, by simp [e], by simp⟩) (by cases s <;> simp [Say.kids])
    refine ⟨[.d (enS s), .no], ?_⟩
    show fnM 2 (K12.m_notes_in fInside (fNotesIn k)) _ = _
    rw [fnM_r]
    unfold K12.m_notes_in
    have em : (s.kids.map fun t => D.int (t.notes : Int)) = (s.kids.map fun t => (t.notes : Int)).map .int := by rw [List.map_map]; rfl
    rw [em] at el
    cases s <;> simp [el, hIn_t, hEq_s, Say.tag, Say.kids, Say.notes]
end Sw
set_option maxRecDepth 100000
set_option maxHeartbeats 4000000
namespace Sw
open PySem PySem.Spec L2

/-! ### sayings, drawn by a row -/
structure SpOk (sp : Sp) : Prop where
  len : sp.length ≤ 3
  pos : 1 ≤ sp.length
  cnt : ∀ q ∈ sp, 1 ≤ q.2 ∧ q.2 ≤ 6
/-- fields and values are the speech's, what stands in a not is a test -/
def Say.Good (sp : Sp) : Say → Prop
  | .is f v => ∃ q ∈ sp, q.1 = f ∧ 0 ≤ v ∧ v < q.2
  | .put f v => ∃ q ∈ sp, q.1 = f ∧ 0 ≤ v ∧ v < q.2
  | .no s => s.isT = true ∧ s.Good sp
  | .ag s => s.Good sp
  | .ei a b => a.Good sp ∧ b.Good sp
  | .th a b => a.Good sp ∧ b.Good sp
  | _ => True
def fLone : Fd := fnM 5 (K12.m_law_lone fTake)
theorem lone_run {sp : Sp} (G : SpOk sp) (p : Int × Int) {sort : Int} (s0 : 0 ≤ sort) (s1 : sort < 4) : ∃ s p' c, fLone [.d (.int sort), .l (enP p), .d (enSp sp)] = .ok (.d (enS s)) (.d (.int sort) :: .l (enP p') :: c) ∧ s.Good sp ∧ s.dep = 0 ∧ s.notes = 0 ∧ s.isT = decide (sort ≠ 1) := by
  have hl := G.len
  have hp := G.pos
  obtain ⟨x1, y1, e1⟩ := take_run p (n := (sp.length : Int)) (by omega) (by omega)
  have v0 := tkv_lo p (n := (sp.length : Int)) (by omega)
  have v1 := tkv_hi p (n := (sp.length : Int)) (by omega)
  obtain ⟨i, hi⟩ : ∃ i : Nat, tkv p sp.length = (i : Int) := ⟨(tkv p sp.length).toNat, by omega⟩
  rw [hi] at e1 v0 v1
  obtain ⟨q, hq⟩ : ∃ q, sp[i]? = some q := ⟨_, List.getElem?_eq_getElem (by omega)⟩
  have hm : q ∈ sp := List.mem_of_getElem? hq
  obtain ⟨q1, q6⟩ := G.cnt q hm
  obtain ⟨x2, y2, e2⟩ := take_run (tkp p sp.length) (n := q.2) (by omega) (by omega)
  obtain ⟨x3, y3, e3⟩ := take_run (tkp (tkp p sp.length) q.2) (n := q.2) (by omega) (by omega)
  have a0 := tkv_lo (tkp p sp.length) (n := q.2) (by omega)
  have a1 := tkv_hi (tkp p sp.length) (n := q.2) (by omega)
  have b0 := tkv_lo (tkp (tkp p sp.length) q.2) (n := q.2) (by omega)
  have b1 := tkv_hi (tkp (tkp p sp.length) q.2) (n := q.2) (by omega)
  have eg : gLen [enSp sp] = some (.int sp.length) := by
    show some (D.int ((sp.map enF).length : Int)) = _
    rw [List.length_map]
  have ex : gIx (enSp sp) (.int (i : Int)) = some (enF q) := by
    show L2.atI (sp.map enF) (i : Int) = _
    rw [atI_n, List.getElem?_map, hq]
    rfl
  have key : ∀ s : Say, L2.atI [enS (.is q.1 (tkv (tkp p sp.length) q.2)), enS (.put q.1 (tkv (tkp (tkp p sp.length) q.2) q.2)), enS .all, enS .non] sort = some (enS s) →
      fLone [.d (.int sort), .l (enP p), .d (enSp sp)] = .ok (.d (enS s)) (.d (.int sort) :: .l (enP (tkp (tkp (tkp p sp.length) q.2) q.2)) :: [.d (enSp sp), .d (.str q.1), .d (.int q.2)]) := by
    intro s hs
    unfold fLone
    rw [fnM_r]
    unfold K12.m_law_lone
    simp only [enS] at hs
    simp [eg, e1, ex, enF, e2, e3, hs]
  have hc : sort = 0 ∨ sort = 1 ∨ sort = 2 ∨ sort = 3 := by omega
  rcases hc with rfl | rfl | rfl | rfl
  · exact ⟨_, _, _, key (.is q.1 (tkv (tkp p sp.length) q.2)) (by simp), ⟨q, hm, rfl, a0, a1⟩, rfl, rfl, rfl⟩
  · exact ⟨_, _, _, key (.put q.1 (tkv (tkp (tkp p sp.length) q.2) q.2)) (by simp), ⟨q, hm, rfl, b0, b1⟩, rfl, rfl, rfl⟩
  · exact ⟨_, _, _, key .all (by simp), trivial, rfl, rfl, rfl⟩
  · exact ⟨_, _, _, key .non (by simp), trivial, rfl, rfl, rfl⟩
/-- one on the row: a saying, how many agains lie one within another -/
abbrev R4 := Say × Int
def enR (r : R4) : D := .nd .lst [enS r.1, .bl r.1.isT, .int r.1.notes, .int r.2]
@[simp] theorem gIx_R0 {r : R4} : gIx (enR r) (.int 0) = some (enS r.1) := rfl
@[simp] theorem gIx_R1 {r : R4} : gIx (enR r) (.int 1) = some (.bl r.1.isT) := rfl
@[simp] theorem gIx_R2 {r : R4} : gIx (enR r) (.int 2) = some (.int r.1.notes) := rfl
@[simp] theorem gIx_R3 {r : R4} : gIx (enR r) (.int 3) = some (.int r.2) := rfl
def enRow4 (row : List R4) : D := .nd .lst (row.map enR)
structure RowG (sp : Sp) (most B : Nat) (row : List R4) : Prop where
  ne : row ≠ []
  good : ∀ r ∈ row, r.1.Good sp
  few : (row.map fun r => r.1.notes).sum ≤ most
  deep : ∀ r ∈ row, r.1.dep + row.length ≤ B
def mkJ (th : Bool) (a b : Say) : Say := if th then .th a b else .ei a b
def wJ (th : Bool) : Str := if th then "then" else "either"
def fJoined : Fd := fnM 5 K12.m_law_joined
theorem joined_run (row : List R4) (a b : R4) (th : Bool) (hl : row.length ≤ 1000) : ∃ d c, fJoined [.d (enRow4 (row ++ [a, b])), .d (.str (wJ th))] = .ok (.d (enRow4 (row ++ [(mkJ th a.1 b.1, d)]))) c := by
  have hlen : ((row ++ [a, b]).map enR).length = row.length + 2 := by simp
  have c1 : cutD ((row ++ [a, b]).map enR) (some (-2)) none = [enR a, enR b] := by
    rw [show (-2 : Int) = -((2 : Nat) : Int) from rfl, cutD_last _ 2 (by omega) (by omega), hlen]
    simp
  have c2 : cutD ((row ++ [a, b]).map enR) none (some (-2)) = row.map enR := by
    rw [show (-2 : Int) = -((2 : Nat) : Int) from rfl, cutD_butlast _ 2 (by omega) (by omega), hlen]
    simp
  have hadd : ∀ x : D, gAdd (.nd .lst (row.map enR)) (.nd .lst [x]) = some (.nd .lst (row.map enR ++ [x])) := fun x => gAdd_l (by simp; omega)
  refine ⟨if b.2 > a.2 then b.2 else a.2, [.d (enRow4 (row ++ [a, b])), .d (.str (wJ th)), .d (enR a), .d (enR b), .d (.nd .tup [.str (wJ th), enS a.1, enS b.1])], ?_⟩
  unfold fJoined
  rw [fnM_r]
  unfold K12.m_law_joined
  unfold enRow4
  have en : (.nd .tup [.str (wJ th), enS a.1, enS b.1] : D) = enS (mkJ th a.1 b.1) := by cases th <;> rfl
  have et : (mkJ th a.1 b.1).isT = (a.1.isT && b.1.isT) := by cases th <;> rfl
  have eo : ((mkJ th a.1 b.1).notes : Int) = a.1.notes + b.1.notes := by cases th <;> simp [mkJ, Say.notes]
  simp only [List.map_append, List.map_cons, List.map_nil] at c1 c2 ⊢
  cases ht : a.1.isT
  · have e2 : (.nd .lst [enS (mkJ th a.1 b.1), .bl false, .int (a.1.notes + b.1.notes), .int (if b.2 > a.2 then b.2 else a.2)] : D) = enR (mkJ th a.1 b.1, if b.2 > a.2 then b.2 else a.2) := by simp [enR, et, eo, ht]
    simp [c1, c2, hadd, en, ht] at e2 ⊢
    exact e2
  · have e2 : (.nd .lst [enS (mkJ th a.1 b.1), .bl b.1.isT, .int (a.1.notes + b.1.notes), .int (if b.2 > a.2 then b.2 else a.2)] : D) = enR (mkJ th a.1 b.1, if b.2 > a.2 then b.2 else a.2) := by simp [enR, et, eo, ht]
    simp [c1, c2, hadd, en, ht] at e2 ⊢
    exact e2
theorem RowG.joined {sp : Sp} {most B : Nat} {row : List R4} {a b : R4} {d : Int} {th : Bool} (h : RowG sp most B (row ++ [a, b])) : RowG sp most B (row ++ [(mkJ th a.1 b.1, d)]) := by
  have ga := h.good a (by simp)
  have gb := h.good b (by simp)
  have da := h.deep a (by simp)
  have db := h.deep b (by simp)
  refine ⟨by simp, fun r hr => ?_, ?_, fun r hr => ?_⟩
  · rcases List.mem_append.mp hr with hr | hr
    · exact h.good r (by simp [hr])
    · rw [List.mem_singleton.mp hr]
      cases th <;> exact ⟨ga, gb⟩
  · have := h.few
    simp only [List.map_append, List.map_cons, List.map_nil, List.sum_append, List.sum_cons, List.sum_nil] at this ⊢
    have e : (mkJ th a.1 b.1).notes = a.1.notes + b.1.notes := by cases th <;> rfl
    rw [e]
    omega
  · simp only [List.length_append, List.length_cons, List.length_nil] at da db ⊢
    rcases List.mem_append.mp hr with hr | hr
    · have := h.deep r (by simp [hr])
      simp only [List.length_append, List.length_cons, List.length_nil] at this
      omega
    · rw [List.mem_singleton.mp hr]
      have e : (mkJ th a.1 b.1).dep = max a.1.dep b.1.dep + 1 := by cases th <;> rfl
      show (mkJ th a.1 b.1).dep + _ ≤ B
      rw [e]
      omega
theorem two_last {α : Type} {row : List α} (h : 2 ≤ row.length) : ∃ r a b, row = r ++ [a, b] := by
  obtain ⟨r1, b, rfl⟩ : ∃ r b, row = r ++ [b] := ⟨row.dropLast, row.getLast (by rintro rfl; simp at h), (List.dropLast_concat_getLast _).symm⟩
  rw [List.length_append, List.length_singleton] at h
  obtain ⟨r2, a, rfl⟩ : ∃ r a, r1 = r ++ [a] := ⟨r1.dropLast, r1.getLast (by rintro rfl; simp at h), (List.dropLast_concat_getLast _).symm⟩
  exact ⟨r2, a, b, by simp⟩
def fGrown : Fd := fnM 8 (K12.m_law_grown fPurse fTake fJoined fLone)
theorem lay_list {t : Int} (h0 : 0 ≤ t) (h1 : t < 14) : ∃ v : Int, L2.atI [D.int 0, .int 1, .int 2, .int 3, .int 2, .int 0, .int 1, .int 0, .int 1, .int 0, .int 1, .int 0, .int 1, .int 0] t = some (.int v) ∧ 0 ≤ v ∧ v < 4 := by
  have h : t = 0 ∨ t = 1 ∨ t = 2 ∨ t = 3 ∨ t = 4 ∨ t = 5 ∨ t = 6 ∨ t = 7 ∨ t = 8 ∨ t = 9 ∨ t = 10 ∨ t = 11 ∨ t = 12 ∨ t = 13 := by omega
  rcases h with rfl | rfl | rfl | rfl | rfl | rfl | rfl | rfl | rfl | rfl | rfl | rfl | rfl | rfl
  · exact ⟨0, rfl, by omega, by omega⟩
  · exact ⟨1, rfl, by omega, by omega⟩
  · exact ⟨2, rfl, by omega, by omega⟩
  · exact ⟨3, rfl, by omega, by omega⟩
  · exact ⟨2, rfl, by omega, by omega⟩
  · exact ⟨0, rfl, by omega, by omega⟩
  · exact ⟨1, rfl, by omega, by omega⟩
  · exact ⟨0, rfl, by omega, by omega⟩
  · exact ⟨1, rfl, by omega, by omega⟩
  · exact ⟨0, rfl, by omega, by omega⟩
  · exact ⟨1, rfl, by omega, by omega⟩
  · exact ⟨0, rfl, by omega, by omega⟩
  · exact ⟨1, rfl, by omega, by omega⟩
  · exact ⟨0, rfl, by omega, by omega⟩
theorem one_last {α : Type} {row : List α} (h : row ≠ []) : ∃ r a, row = r ++ [a] := ⟨row.dropLast, row.getLast h, (List.dropLast_concat_getLast _).symm⟩
theorem sum_cast (l : List Nat) : ((l.map fun (n : Nat) => (n : Int)).sum : Int) = ((l.sum : Nat) : Int) := by
  induction l with
  | nil => rfl
  | cons x l ih => simp only [List.map_cons, List.sum_cons, ih]; omega
theorem grown_run {sp : Sp} (G : SpOk sp) {most B : Nat} {row : List R4} (h : RowG sp most B row) (hl : row.length ≤ 500) (z : Int) : ∃ row' c, fGrown [.d (enRow4 row), .d (.int z), .d (enSp sp), .d (.int most)] = .ok (.d (enRow4 row')) c ∧ RowG sp most (B + 1) row' ∧ row'.length ≤ row.length + 1 := by
  obtain ⟨p, cp, ep⟩ := purse_run z
  obtain ⟨x1, y1, e1⟩ := take_run p (n := 14) (by omega) (by omega)
  have s0 := tkv_lo p (n := 14) (by omega)
  have s1 := tkv_hi p (n := 14) (by omega)
  obtain ⟨ini, last, hrow⟩ := one_last h.ne
  obtain ⟨sort, hs⟩ : ∃ sort, tkv p 14 = sort := ⟨_, rfl⟩
  rw [hs] at e1 s0 s1
  obtain ⟨R, hR⟩ : ∃ R, row.map enR = R := ⟨_, rfl⟩
  obtain ⟨I, hI⟩ : ∃ I, ini.map enR = I := ⟨_, rfl⟩
  have hRI : R = I ++ [enR last] := by rw [← hR, ← hI, hrow]; simp
  have lR : R.length = row.length := by rw [← hR, List.length_map]
  have lI : I.length + 1 = row.length := by rw [← lR, hRI]; simp
  have c1 : L2.atI R (-1) = some (enR last) := by
    rw [atI_m1 (by rw [hRI]; simp), hRI]
    simp
  have c2 : cutD R none (some (-1)) = I := by
    rw [show (-1 : Int) = -((1 : Nat) : Int) from rfl, cutD_butlast _ 1 (by omega) (by omega), hRI]
    simp
  have a1 : ∀ x : D, gAdd (.nd .lst R) (.nd .lst [x]) = some (.nd .lst (R ++ [x])) := fun x => gAdd_l (by simp; omega)
  have a2 : ∀ x : D, gAdd (.nd .lst I) (.nd .lst [x]) = some (.nd .lst (I ++ [x])) := fun x => gAdd_l (by simp; omega)
  have es : ∀ (p' : Int × Int), mLc [7] (itS (mVar 0)) (gN 7) (mp true) (m2 gIx (lv (mVar 7)) (lv (mp (.int 2)))) [.d (.nd .lst R), .d (.int z), .d (enSp sp), .d (.int most), .o (enP p'), .d (.int sort), .d (enR last), .no] =
      .ok (.lst ((row.map fun r => (r.1.notes : Int)).map .int)) [.d (.nd .lst R), .d (.int z), .d (enSp sp), .d (.int most), .o (enP p'), .d (.int sort), .d (enR last), .no] := by
    intro p'
    have := mLc_mp (enc := enR) (vs := [7]) (mi := itS (mVar 0)) (g := gN 7) (me := m2 gIx (lv (mVar 7)) (lv (mp (.int 2)))) (c := [.d (.nd .lst R), .d (.int z), .d (enSp sp), .d (.int most), .o (enP p'), .d (.int sort), .d (enR last), .no]) (c1 := [.d (.nd .lst R), .d (.int z), .d (enSp sp), .d (.int most), .o (enP p'), .d (.int sort), .d (enR last), .no])
      (fun r : R4 => .int r.1.notes) row (by simp [hR]) (fun r _ => ⟨[.d (.nd .lst R), .d (.int z), .d (enSp sp), .d (.int most), .o (enP p'), .d (.int sort), .d (enR last), .d (enR r)], [.d (.nd .lst R), .d (.int z), .d (enSp sp), .d (.int most), .o (enP p'), .d (.int sort), .d (enR last), .d (enR r)], by simp, by simp, by simp⟩) (by omega)
    rw [this, List.map_map]
    rfl
  have hsum : ((row.map fun r => (r.1.notes : Int)).sum : Int) = (((row.map fun r => r.1.notes).sum : Nat) : Int) := by
    rw [← sum_cast, List.map_map]
    rfl
  obtain ⟨S, hS⟩ : ∃ S : Nat, (row.map fun r => r.1.notes).sum = S := ⟨_, rfl⟩
  rw [hS] at hsum
  have eg : gSum [.nd .lst ((row.map fun r => (r.1.notes : Int)).map .int)] = some (.int (S : Int)) := by rw [gSum_l, hsum]
  obtain ⟨L, hL⟩ : ∃ L, ((row.map fun r => (r.1.notes : Int)).map D.int) = L := ⟨_, rfl⟩
  rw [hL] at eg
  rw [hL] at es
  have eR : enRow4 row = .nd .lst R := by rw [← hR]; rfl
  have app : ∀ r : R4, D.nd .lst (R ++ [enR r]) = enRow4 (row ++ [r]) := fun r => by rw [← hR]; simp [enRow4]
  have app2 : ∀ r : R4, D.nd .lst (I ++ [enR r]) = enRow4 (ini ++ [r]) := fun r => by rw [← hI]; simp [enRow4]
  have gl := h.good last (by rw [hrow]; simp)
  have dl := h.deep last (by rw [hrow]; simp)
  have fw := h.few
  rw [hS] at fw
  -- the ends
  have end1 : ∀ r : R4, r.1.Good sp → r.1.dep = 0 → S + r.1.notes ≤ most → RowG sp most (B + 1) (row ++ [r]) := by
    intro r g d n
    refine ⟨by simp, fun q hq => ?_, ?_, fun q hq => ?_⟩
    · rcases List.mem_append.mp hq with hq | hq
      · exact h.good q hq
      · rw [List.mem_singleton.mp hq]; exact g
    · simp only [List.map_append, List.map_cons, List.map_nil, List.sum_append, List.sum_cons, List.sum_nil, hS]
      omega
    · rw [List.length_append, List.length_singleton]
      rcases List.mem_append.mp hq with hq | hq
      · have := h.deep q hq; omega
      · rw [List.mem_singleton.mp hq, d]; omega
  have end2 : ∀ r : R4, r.1.Good sp → r.1.dep = last.1.dep + 1 → r.1.notes ≤ last.1.notes → RowG sp most (B + 1) (ini ++ [r]) ∧ (ini ++ [r]).length ≤ row.length + 1 := by
    intro r g d n
    refine ⟨⟨by simp, fun q hq => ?_, ?_, fun q hq => ?_⟩, by rw [hrow]; simp⟩
    · rcases List.mem_append.mp hq with hq | hq
      · exact h.good q (by rw [hrow]; simp [hq])
      · rw [List.mem_singleton.mp hq]; exact g
    · have := hS
      rw [hrow] at this
      simp only [List.map_append, List.map_cons, List.map_nil, List.sum_append, List.sum_cons, List.sum_nil] at this ⊢
      omega
    · have hz : (ini ++ [r]).length = row.length := by rw [hrow]; simp
      rw [hz]
      rcases List.mem_append.mp hq with hq | hq
      · have := h.deep q (by rw [hrow]; simp [hq]); omega
      · rw [List.mem_singleton.mp hq, d]; omega
  have lay : (¬ (sort = 4 ∧ S < most)) → (¬ (sort = 5 ∧ last.1.isT = true)) → (¬ (sort = 6 ∧ last.2 < 3)) → (¬ (6 < sort ∧ sort < 12 ∧ 1 < row.length)) →
      ∃ row' c, fGrown [.d (enRow4 row), .d (.int z), .d (enSp sp), .d (.int most)] = .ok (.d (enRow4 row')) c ∧ RowG sp most (B + 1) row' ∧ row'.length ≤ row.length + 1 := by
    intro n4 n5 n6 n7
    obtain ⟨v, ev, v0, v4⟩ := lay_list s0 s1
    obtain ⟨s, p2, cl, el, gs, ds, ns, ts⟩ := lone_run G (tkp p 14) v0 v4
    have en : D.nd .lst [enS s, .bl (!decide (v = 1)), .int 0, .int 0] = enR (s, 0) := by simp [enR, ns, ts]
    refine ⟨row ++ [(s, 0)], [.d (enRow4 row), .d (.int z), .d (enSp sp), .d (.int most), .o (enP p2), .d (.int v), .d (enR last), .no], ?_, end1 (s, 0) gs ds (by show S + s.notes ≤ most; omega), by simp⟩
    have q4 : sort = 4 → ¬ ((S : Int) < (most : Int)) := fun e q => n4 ⟨e, by omega⟩
    have q5 : sort = 5 → last.1.isT = false := fun e => by
      cases ht : last.1.isT with
      | false => rfl
      | true => exact absurd ⟨e, ht⟩ n5
    have q6 : sort = 6 → ¬ (last.2 < 3) := fun e q => n6 ⟨e, q⟩
    have q7 : 6 < sort → sort < 12 → ¬ ((1 : Int) < (R.length : Int)) := fun a b q => n7 ⟨a, b, by omega⟩
    rw [eR]
    unfold fGrown
    rw [fnM_r]
    unfold K12.m_law_grown
    have hc : (sort = 4) ∨ (sort = 5) ∨ (sort = 6) ∨ (6 < sort ∧ sort < 12) ∨ (sort < 4 ∨ 12 ≤ sort) := by omega
    rcases hc with hc | hc | hc | hc | hc
    · have q := q4 hc
      subst hc
      simp [ep, hs, e1, c1, es, eg, q, ev, el, a1, en, app, lim_ok]
    · have q := q5 hc
      subst hc
      simp [ep, hs, e1, c1, es, eg, q, ev, el, a1, en, app, lim_ok]
    · have q := q6 hc
      subst hc
      simp [ep, hs, e1, c1, es, eg, q, ev, el, a1, en, app, lim_ok]
    · have q := q7 hc.1 hc.2
      have z4 : ¬ sort = 4 := by omega
      have z5 : ¬ sort = 5 := by omega
      have z6 : ¬ sort = 6 := by omega
      simp [lim_ok, ep, hs, e1, c1, es, eg, q, z4, z5, z6, hc.1, hc.2, ev, el, a1, en, app]
    · have z4 : ¬ sort = 4 := by omega
      have z5 : ¬ sort = 5 := by omega
      have z6 : ¬ sort = 6 := by omega
      by_cases z7 : 6 < sort
      · have z8 : ¬ sort < 12 := by omega
        simp [lim_ok, ep, hs, e1, c1, es, eg, z4, z5, z6, z7, z8, ev, el, a1, en, app]
      · simp [lim_ok, ep, hs, e1, c1, es, eg, z4, z5, z6, z7, ev, el, a1, en, app]
  by_cases n4 : sort = 4 ∧ S < most
  · obtain ⟨h4, hm⟩ := n4
    subst h4
    refine ⟨row ++ [(.note, 0)], [.d (enRow4 row), .d (.int z), .d (enSp sp), .d (.int most), .o (enP (tkp p 14)), .d (.int 4), .d (enR last), .no], ?_, end1 (.note, 0) trivial rfl (by show S + 1 ≤ most; omega), by simp⟩
    have hm2 : (S : Int) < (most : Int) := by omega
    have en : D.nd .lst [.nd .tup [.str "note"], .bl false, .int 1, .int 0] = enR (.note, 0) := rfl
    rw [eR]
    unfold fGrown
    rw [fnM_r]
    unfold K12.m_law_grown
    simp [ep, hs, e1, c1, es, eg, hm2, a1, en, app]
  by_cases n5 : sort = 5 ∧ last.1.isT = true
  · obtain ⟨h5, ht⟩ := n5
    subst h5
    obtain ⟨g1, g2⟩ := end2 (.no last.1, 0) ⟨ht, gl⟩ rfl (Nat.le_refl _)
    have zn : last.1.notes = 0 := by
      have key : ∀ s : Say, s.isT = true → s.notes = 0 := by
        intro s
        induction s with
        | non => intro _; rfl
        | all => intro _; rfl
        | note => intro q; cases q
        | is f v => intro _; rfl
        | put f v => intro q; cases q
        | no s ih => exact fun q => ih q
        | ag s _ => intro q; cases q
        | ei a b ia ib =>
          intro q
          have q : (a.isT && b.isT) = true := q
          rw [Bool.and_eq_true] at q
          show a.notes + b.notes = 0
          rw [ia q.1, ib q.2]
        | th a b ia ib =>
          intro q
          have q : (a.isT && b.isT) = true := q
          rw [Bool.and_eq_true] at q
          show a.notes + b.notes = 0
          rw [ia q.1, ib q.2]
      exact key _ ht
    refine ⟨ini ++ [(.no last.1, 0)], [.d (enRow4 row), .d (.int z), .d (enSp sp), .d (.int most), .o (enP (tkp p 14)), .d (.int 5), .d (enR last), .no], ?_, g1, g2⟩
    have en : D.nd .lst [.nd .tup [.str "not", enS last.1], .bl true, .int 0, .int 0] = enR (.no last.1, 0) := by
      simp [enR, Say.isT, Say.notes, ht, zn, enS]
    rw [eR]
    unfold fGrown
    rw [fnM_r]
    unfold K12.m_law_grown
    simp [ep, hs, e1, c1, ht, c2, a2, en, app2]
  by_cases n6 : sort = 6 ∧ last.2 < 3
  · obtain ⟨h6, ht⟩ := n6
    subst h6
    obtain ⟨g1, g2⟩ := end2 (.ag last.1, last.2 + 1) gl rfl (Nat.le_refl _)
    refine ⟨ini ++ [(.ag last.1, last.2 + 1)], [.d (enRow4 row), .d (.int z), .d (enSp sp), .d (.int most), .o (enP (tkp p 14)), .d (.int 6), .d (enR last), .no], ?_, g1, g2⟩
    have en : D.nd .lst [.nd .tup [.str "again", enS last.1], .bl false, .int last.1.notes, .int (last.2 + 1)] = enR (.ag last.1, last.2 + 1) := rfl
    rw [eR]
    unfold fGrown
    rw [fnM_r]
    unfold K12.m_law_grown
    simp [ep, hs, e1, c1, ht, c2, a2, en, app2]
  by_cases n7 : 6 < sort ∧ sort < 12 ∧ 1 < row.length
  · obtain ⟨h6, h12, hr⟩ := n7
    obtain ⟨r2, a, b, hab⟩ := two_last (row := row) (by omega)
    obtain ⟨th, hth⟩ : ∃ th : Bool, L2.atI [D.str "either", .str "then"] (sort % 2) = some (.str (wJ th)) := by
      have : sort % 2 = 0 ∨ sort % 2 = 1 := by omega
      rcases this with e | e
      · exact ⟨false, by rw [e]; rfl⟩
      · exact ⟨true, by rw [e]; rfl⟩
    obtain ⟨d, c, ej⟩ := joined_run r2 a b th (by rw [hab] at hl; simp at hl; omega)
    have hj := RowG.joined (d := d) (th := th) (by rw [← hab]; exact h)
    rw [← hab, eR] at ej
    refine ⟨r2 ++ [(mkJ th a.1 b.1, d)], [.d (enRow4 row), .d (.int z), .d (enSp sp), .d (.int most), .o (enP (tkp p 14)), .d (.int sort), .d (enR last), .no], ?_, ⟨hj.ne, hj.good, hj.few, fun r hr => by have := hj.deep r hr; omega⟩, by rw [hab]; simp⟩
    have z4 : ¬ sort = 4 := by omega
    have z5 : ¬ sort = 5 := by omega
    have z6 : ¬ sort = 6 := by omega
    have z7 : (1 : Int) < (R.length : Int) := by omega
    have m2 : gMod (.int sort) (.int 2) = some (.int (sort % 2)) := gMod_i (by omega)
    rw [eR]
    unfold fGrown
    rw [fnM_r]
    unfold K12.m_law_grown
    simp [ep, hs, e1, c1, z4, z5, z6, h6, h12, z7, m2, hth, ej]
  exact lay n4 n5 n6 n7
end Sw
set_option maxRecDepth 100000
namespace K02
open PySem PySem.Spec L2 Sw
-- slots: 0 speech, 1 field, 2 place, 3 one
def m_place_of (A : Str → Addr)  : M Out :=
  mSeq (mForS (itEnum (mVar 0)) (gS 2 (gCons' (gN 2) (gCons' (gN 3) (gNil')))) (mIfS (mT (m2 hEq (lv (m2 gIx (lv (mVar 3)) (lv (mp (.int 0))))) (lv (mVar 1)))) (mRet (mVar 2)) (mp .nx)))
  (mRaise (mMk "NoField" (A "NoField") ["field"] (mCons (mVar 1) (mp []))))
-- slots: 0 speech, 1 field, 2 value, 3 place
def m_must_value (A : Str → Addr) (F_place_of : Fd) : M Out :=
  mSeq (mSet 3 (mRvD (mCallA F_place_of (aD (mVar 0) (aD (mVar 1) (aNil))))))
  (mSeq (mIfS (mNot (mT (mChain hLe hLt (lv (mp (.int 0))) (lv (mVar 2)) (lv (m2 gIx (lv (m2 gIx (lv (mVar 0)) (lv (mVar 3)))) (lv (mp (.int 1)))))))) (mRaise (mMk "NoValue" (A "NoValue") ["value"] (mCons (mVar 2) (mp [])))) (mp .nx))
  (mRet (mVar 3)))
-- slots: 0 letter, 1 place, 2 value
def m_with_value  : M Out :=
  mRet (m2 gAdd (lv (m2 gAdd (lv (mSl gSl (lv (mVar 0)) (mp none) (mPart (mVar 1)))) (lv (mTup (mCons (mVar 2) (mp [])))))) (lv (mSl gSl (lv (mVar 0)) (mPart (m2 gAdd (lv (mVar 1)) (lv (mp (.int 1))))) (mp none))))
-- slots: 0 speech, 1 letter, 2 field, 3 value
def m_put_in (F_with_value : Fd) (F_must_value : Fd) : M Out :=
  mRet (mRvD (mCallA F_with_value (aD (mVar 1) (aD (mRvD (mCallA F_must_value (aD (mVar 0) (aD (mVar 2) (aD (mVar 3) (aNil)))))) (aD (mVar 3) (aNil))))))
-- slots: 0 _law_script, 1 _law_k
def m_law_cell  : M Out :=
  mSeq (mIfS (mT (m2 hLt (lv (mVar 1)) (lv (mCl gLen (lCons (lv (mVar 0)) (mp [])))))) (mRet (m2 gIx (lv (mVar 0)) (lv (mVar 1)))) (mp .nx))
  (mRet (mp (.int 0)))
-- slots: 0 _law_cell_here, 1 _law_number, 2 _law_found, 3 _law_k
def m_law_purse  : M Out :=
  mSeq (mSet 1 (m2 gMod (lv (mVar 0)) (lv (mp (.int 2147483647)))))
  (mSeq (mSet 2 (mp (.int 1)))
  (mSeq (mForS (itR rng1 (mCons (mp (.int 16)) (mp []))) (gN 3) (mSeq (mSet 1 (m2 gMod (lv (m2 gAdd (lv (m2 gAdd (lv (m2 gAdd (lv (m2 gMul (lv (mVar 1)) (lv (mVar 1)))) (lv (m2 gMul (lv (m2 gMul (lv (mp (.int 48271))) (lv (mVar 3)))) (lv (mVar 3)))))) (lv (mVar 3)))) (lv (mp (.int 3))))) (lv (mp (.int 2147483629)))))
  (mSet 2 (m2 gAdd (lv (m2 gMul (lv (mVar 2)) (lv (mp (.int 2147483587))))) (lv (m2 gMod (lv (m2 gMul (lv (mVar 1)) (lv (mVar 1)))) (lv (mp (.int 2147483587)))))))))
  (mSeq (mIfS (mT (m2 hEq (lv (m2 gMod (lv (mVar 0)) (lv (mp (.int 2))))) (lv (mp (.int 0))))) (mRetO (mLst (mCons (m2 gDiv (lv (mCl gAbs (lCons (lv (mVar 0)) (mp [])))) (lv (mp (.int 2)))) (mCons (mVar 2) (mp []))))) (mp .nx))
  (mRetO (mLst (mCons (mp (.int 0)) (mCons (mVar 2) (mp []))))))))
-- slots: 0 _law_purse_here*, 1 _law_many, 2 _law_at, 3 _law_found
def m_law_take  : M Out :=
  mSeq (mSet 2 (mCl gInt (lCons (lv (m2 hEq (lv (m2 gIx (lName 0) (lv (mp (.int 0))))) (lv (mp (.int 0))))) (mp []))))
  (mSeq (mSet 3 (m2 gMod (lv (m2 gIx (lName 0) (lv (mVar 2)))) (lv (mVar 1))))
  (mSeq (mPut 0 (m2 gDiv (lv (m2 gIx (lName 0) (lv (mVar 2)))) (lv (mVar 1))) (mVar 2))
  (mRet (mVar 3))))
-- slots: 0 _law_cell_here, 1 _law_least, 2 _law_purse_here*, 3 _law_first, 4 _law_letters_here, 5 _law_left, 6 _law_many, 7 _law_tail, 8 _law_speech_here*, 9 _law_k, 10 _law_count
def m_law_speech (F_law_purse : Fd) (F_law_take : Fd) : M Out :=
  mSeq (mSetO 2 (mRvO (mCallA F_law_purse (aD (mVar 0) (aNil)))))
  (mSeq (mSet 3 (mRvD (mCallA F_law_take (aL 2 (aD (mp (.int 26)) (aNil))))))
  (mSeq (mSet 4 (mp (.str "abcdefghijklmnopqrstuvwxyz")))
  (mSeq (mSet 5 (m2 gIx (lv (mFz (mLst (mCons (mp (.int 8)) (mCons (mp (.int 8)) (mCons (mp (.int 6)) (mCons (mp (.int 8)) (mCons (mp (.int 12)) (mCons (mp (.int 8)) (mCons (mp (.int 4)) (mCons (mp (.int 24)) (mp [])))))))))))) (lv (mRvD (mCallA F_law_take (aL 2 (aD (mp (.int 8)) (aNil))))))))
  (mSeq (mSet 6 (mCl gMax (lCons (lv (mVar 1)) (lCons (lv (m2 gAdd (lv (mp (.int 1))) (lv (mRvD (mCallA F_law_take (aL 2 (aD (mp (.int 3)) (aNil)))))))) (mp [])))))
  (mSeq (mSet 7 (mSl gSl (lv (mp (.str "abcdefg"))) (mp none) (mPart (mRvD (mCallA F_law_take (aL 2 (aD (mp (.int 8)) (aNil))))))))
  (mSeq (mSetO 8 (mLst (mp [])))
  (mSeq (mForS (itR rng1 (mCons (mVar 6) (mp []))) (gN 9) (mSeq (mSet 10 (mCl gMin (lCons (lv (m2 gIx (lv (mFz (mLst (mCons (mp (.int 2)) (mCons (mp (.int 3)) (mCons (mp (.int 4)) (mCons (mp (.int 1)) (mCons (mp (.int 6)) (mCons (mp (.int 5)) (mp [])))))))))) (lv (mRvD (mCallA F_law_take (aL 2 (aD (mp (.int 6)) (aNil)))))))) (lCons (lv (mVar 5)) (mp [])))))
  (mSeq (mSet 5 (m2 gDiv (lv (mVar 5)) (lv (mVar 10))))
  (mDrop (mApp 8 (mTup (mCons (m2 gAdd (lv (m2 gIx (lv (mVar 4)) (lv (m2 gMod (lv (m2 gAdd (lv (mVar 3)) (lv (m2 gMul (lv (mp (.int 9))) (lv (mVar 9)))))) (lv (mp (.int 26))))))) (lv (mVar 7))) (mCons (mVar 10) (mp [])))))))))
  (mRet (mCl gTuple (lCons (lName 8) (mp [])))))))))))
-- slots: 0 _law_speech_here, 1 _law_found, 2 _law_field, 3 _law_count, 4 _law_longer, 5 _law_letter, 6 _law_value
def m_law_letters  : M Out :=
  mSeq (mSet 1 (mFz (mLst (mCons (mTup (mp [])) (mp [])))))
  (mSeq (mForS (itS (mVar 0)) (gS 2 (gCons' (gN 2) (gCons' (gN 3) (gNil')))) (mSeq (mSet 4 (mFz (mLst (mp []))))
  (mSeq (mForS (itS (mVar 1)) (gN 5) (mSet 4 (m2 gAdd (lv (mVar 4)) (lv (mFz (mLc [6] (itR rng1 (mCons (mVar 3) (mp []))) (gN 6) (mp true) (m2 gAdd (lv (mVar 5)) (lv (mTup (mCons (mVar 6) (mp [])))))))))))
  (mSet 1 (mVar 4)))))
  (mRet (mVar 1)))
-- slots: 0 _law_speech_here, 1 _law_letter, 2 _law_field, 3 _law_value, 4 _law_caught_here, 5 _law_e
def m_law_caught (A : Str → Addr) (F_put_in : Fd) : M Out :=
  mSeq (mSet 4 (mp .non))
  (mSeq (mTry A xcls 5 (mDrop (mRvD (mCallA F_put_in (aD (mVar 0) (aD (mVar 1) (aD (mVar 2) (aD (mVar 3) (aNil)))))))) (mSet 4 (mVar 5)))
  (mRet (mVar 4)))
-- slots: 0 _law_speech_here, 1 _law_letter, 2 _law_field, 3 _law_value, 4 _law_names, 5 _law_e, 6 _law_found, 7 _law_at, 8 _law_one, 9 _law_count
def m_law_good (A : Str → Addr) (F_law_caught : Fd) (F_put_in : Fd) : M Out :=
  mSeq (mSet 4 (mFz (mLc [8, 9] (itS (mVar 0)) (gS 2 (gCons' (gN 8) (gCons' (gN 9) (gNil')))) (mp true) (mVar 8))))
  (mSeq (mSet 5 (mRvD (mCallA F_law_caught (aD (mVar 0) (aD (mVar 1) (aD (mVar 2) (aD (mVar 3) (aNil))))))))
  (mSeq (mIfS (mAnd (mT (m2 hIn (lv (mVar 2)) (lv (mVar 4)))) (mAnd (mT (m2 hLe (lv (mp (.int 0))) (lv (mVar 3)))) (mT (m2 hLt (lv (mVar 3)) (lv (m2 gIx (lv (m2 gIx (lv (mVar 0)) (lv (mIdx (mVar 4) (mVar 2))))) (lv (mp (.int 1))))))))) (mSeq (mSet 6 (mRvD (mCallA F_put_in (aD (mVar 0) (aD (mVar 1) (aD (mVar 2) (aD (mVar 3) (aNil))))))))
  (mSeq (mSet 7 (mIdx (mVar 4) (mVar 2)))
  (mRet (vAnd (m2 gIsN (lv (mVar 5)) (lv (mp .non))) (vAnd (mIsi "tuple" (lv (mVar 6))) (m2 hEq (lv (mVar 6)) (lv (m2 gAdd (lv (m2 gAdd (lv (mSl gSl (lv (mVar 1)) (mp none) (mPart (mVar 7)))) (lv (mTup (mCons (mVar 3) (mp [])))))) (lv (mSl gSl (lv (mVar 1)) (mPart (m2 gAdd (lv (mVar 7)) (lv (mp (.int 1))))) (mp none))))))))))) (mp .nx))
  (mSeq (mIfS (mOr (mNot (mT (mIsX A (xsub "ValueError") (mVar 5)))) (mT (mIsX A (xsubs ["NoNet", "NoPlain", "NoTest", "TooGreat"]) (mVar 5)))) (mRet (mp (.bl false))) (mp .nx))
  (mSeq (mIfS (mT (m2 hIn (lv (mVar 2)) (lv (mVar 4)))) (mRet (vAnd (mIsX A (xsub "NoValue") (mVar 5)) (vAnd (vNot (mIsX A (xsub "NoField") (mVar 5))) (m2 hEq (lv (mXf A (xfld "value") "value" (mVar 5))) (lv (mVar 3)))))) (mp .nx))
  (mRet (vAnd (mIsX A (xsub "NoField") (mVar 5)) (vAnd (vNot (mIsX A (xsub "NoValue") (mVar 5))) (m2 hEq (lv (mXf A (xfld "field") "field" (mVar 5))) (lv (mVar 2))))))))))
-- slots: 0 _law_number, 1 _law_saying, 2 _law_one
def m_law_made (A : Str → Addr)  : M Out :=
  mSeq (mSet 2 (mExV (mMk "TooGreat" (A "TooGreat") ["number", "most"] (mCons (mVar 0) (mCons (mp (.int 400)) (mp []))))))
  (mSeq (mIfS (mOr (mT (m2 hNe (lv (mXf A (xfld "number") "number" (mVar 2))) (lv (mVar 0)))) (mOr (mT (m2 hNe (lv (mXf A (xfld "most") "most" (mVar 2))) (lv (mp (.int 400))))) (mOr (mT (m2 hNe (lv (mXf A (xfld "field") "field" (mExV (mMk "NoField" (A "NoField") ["field"] (mCons (mp (.str "red")) (mp [])))))) (lv (mp (.str "red"))))) (mT (m2 hNe (lv (mXf A (xfld "value") "value" (mExV (mMk "NoValue" (A "NoValue") ["value"] (mCons (mVar 0) (mp [])))))) (lv (mVar 0))))))) (mRet (mp (.bl false))) (mp .nx))
  (mSeq (mIfS (mOr (mT (m2 hNe (lv (mXf A (xfld "saying") "saying" (mExV (mMk "NoTest" (A "NoTest") ["saying"] (mCons (mVar 1) (mp [])))))) (lv (mVar 1)))) (mT (m2 hNe (lv (mXf A (xfld "saying") "saying" (mExV (mMk "NoPlain" (A "NoPlain") ["saying"] (mCons (mVar 1) (mp [])))))) (lv (mVar 1))))) (mRet (mp (.bl false))) (mp .nx))
  (mRet (vAnd (mIsX A (xsub "SwitchError") (mExV (mp ⟨"NoNet", A "NoNet", []⟩))) (mIsX A (xsub "ValueError") (mExV (mp ⟨"SwitchError", A "SwitchError", []⟩)))))))
-- slots: 0 _law_script, 1 _law_speech_here, 2 _law_letters_here, 3 _law_cell_here, 4 _law_purse_here*, 5 _law_letter, 6 _law_field, 7 _law_count, 8 _law_value
def m_law (F_law_speech : Fd) (F_law_cell : Fd) (F_law_letters : Fd) (F_law_purse : Fd) (F_law_take : Fd) (F_law_good : Fd) (F_law_made : Fd) : M Out :=
  mSeq (mSet 1 (mRvD (mCallA F_law_speech (aD (mRvD (mCallA F_law_cell (aD (mVar 0) (aD (mp (.int 0)) (aNil))))) (aD (mp (.int 1)) (aNil))))))
  (mSeq (mSet 2 (mRvD (mCallA F_law_letters (aD (mVar 1) (aNil)))))
  (mSeq (mForS (itS (m2 gAdd (lv (mFz (mLst (mCons (mp (.int 0)) (mCons (mp (.int 1)) (mCons (mp (.int 2)) (mCons (mp (.int 3)) (mCons (mp (.int 5)) (mCons (mp (.int 9)) (mp [])))))))))) (lv (mSl gSl (lv (mVar 0)) (mPart (mp (.int 1))) (mPart (mp (.int 30))))))) (gN 3) (mSeq (mSetO 4 (mRvO (mCallA F_law_purse (aD (mVar 3) (aNil)))))
  (mSeq (mSet 5 (m2 gIx (lv (mVar 2)) (lv (mRvD (mCallA F_law_take (aL 4 (aD (mCl gLen (lCons (lv (mVar 2)) (mp []))) (aNil))))))))
  (mSeq (mAsg (m2 gIx (lv (mVar 1)) (lv (mRvD (mCallA F_law_take (aL 4 (aD (mCl gLen (lCons (lv (mVar 1)) (mp []))) (aNil))))))) (gS 2 (gCons' (gN 6) (gCons' (gN 7) (gNil')))))
  (mSeq (mSet 8 (mRvD (mCallA F_law_take (aL 4 (aD (mVar 7) (aNil))))))
  (mSeq (mIfS (mT (m2 hEq (lv (mRvD (mCallA F_law_take (aL 4 (aD (mp (.int 6)) (aNil)))))) (lv (mp (.int 5))))) (mSet 6 (m2 gIx (lv (mFz (mLst (mCons (m2 gAdd (lv (mVar 6)) (lv (mp (.str "x")))) (mCons (mSl gSl (lv (mVar 6)) (mPart (mp (.int 1))) (mp none)) (mCons (mp (.str "zz")) (mCons (mUp (mVar 6)) (mCons (mp (.str "switch")) (mp []))))))))) (lv (mRvD (mCallA F_law_take (aL 4 (aD (mp (.int 5)) (aNil)))))))) (mp .nx))
  (mSeq (mIfS (mT (m2 hEq (lv (mRvD (mCallA F_law_take (aL 4 (aD (mp (.int 6)) (aNil)))))) (lv (mp (.int 5))))) (mSet 8 (m2 gIx (lv (mFz (mLst (mCons (vNeg (mp (.int 1))) (mCons (mVar 7) (mCons (m2 gAdd (lv (mVar 7)) (lv (mp (.int 1)))) (mCons (vNeg (mVar 7)) (mCons (m2 gAdd (lv (m2 gPow (lv (mp (.int 10))) (lv (mp (.int 59))))) (lv (mVar 7))) (mCons (m2 gSub (lv (vNeg (mp (.int 1)))) (lv (m2 gPow (lv (mp (.int 10))) (lv (mp (.int 59)))))) (mp [])))))))))) (lv (mRvD (mCallA F_law_take (aL 4 (aD (mp (.int 6)) (aNil)))))))) (mp .nx))
  (mIfS (mNot (mT (mRvD (mCallA F_law_good (aD (mVar 1) (aD (mVar 5) (aD (mVar 6) (aD (mVar 8) (aNil))))))))) (mRet (mp (.bl false))) (mp .nx)))))))))
  (mRet (mRvD (mCallA F_law_made (aD (m2 gMod (lv (mRvD (mCallA F_law_cell (aD (mVar 0) (aD (mp (.int 0)) (aNil)))))) (lv (m2 gPow (lv (mp (.int 10))) (lv (mp (.int 50)))))) (aD (mTup (mCons (mp (.str "put")) (mCons (mp (.str "red")) (mCons (mp (.int 1)) (mp []))))) (aNil))))))))
end K02
set_option maxRecDepth 100000
set_option maxHeartbeats 4000000
namespace Sw
open PySem PySem.Spec L2

/-! ### what is due -/
inductive Du where
  | fld (f : Str)
  | val (v : Int)
  | tst (d : D)
  | pln (d : D)
  | net
def Du.ex (A : Str → Addr) : Du → Ex
  | .fld f => ⟨"NoField", A "NoField", [("field", .str f)]⟩
  | .val v => ⟨"NoValue", A "NoValue", [("value", .int v)]⟩
  | .tst d => ⟨"NoTest", A "NoTest", [("saying", d)]⟩
  | .pln d => ⟨"NoPlain", A "NoPlain", [("saying", d)]⟩
  | .net => ⟨"NoNet", A "NoNet", []⟩
structure SpN (sp : Sp) : Prop where
  len : sp.length ≤ 1000
  nm : ∀ q ∈ sp, PySem.PyData.strOk q.1 = true
/-- the first place of a field -/
def fi (sp : Sp) (f : Str) : Option Nat := sp.findIdx? fun q => decide (q.1 = f)
theorem fi_cons (q : Str × Int) (sp : Sp) (f : Str) : fi (q :: sp) f = if q.1 = f then some 0 else (fi sp f).map (· + 1) := by
  unfold fi
  rw [List.findIdx?_cons]
  by_cases h : q.1 = f
  · rw [if_pos h, if_pos (decide_eq_true h)]
  · rw [if_neg h, if_neg (by simpa using h)]
theorem fi_some {sp : Sp} {f : Str} {i : Nat} (h : fi sp f = some i) : ∃ q, sp[i]? = some q ∧ q.1 = f := by
  obtain ⟨h1, h2, _⟩ := List.findIdx?_eq_some_iff_getElem.mp h
  exact ⟨sp[i], List.getElem?_eq_getElem h1, by simpa using h2⟩
theorem fi_none {sp : Sp} {f : Str} (h : fi sp f = none) : f ∉ sp.map (·.1) := by
  intro hm
  obtain ⟨q, hq, e⟩ := List.mem_map.mp hm
  have := List.findIdx?_eq_none_iff.mp h q hq
  simp [e] at this
theorem fi_mem {sp : Sp} {f : Str} : (f ∈ sp.map (·.1)) ↔ ∃ i, fi sp f = some i := by
  constructor
  · intro hm
    cases e : fi sp f with
    | none => exact absurd hm (fi_none e)
    | some i => exact ⟨i, rfl⟩
  · rintro ⟨i, e⟩
    obtain ⟨q, hq, rfl⟩ := fi_some e
    exact List.mem_map_of_mem (List.mem_of_getElem? hq)
def enuK : Nat → Sp → List (Nat × (Str × Int))
  | _, [] => []
  | k, q :: t => (k, q) :: enuK (k + 1) t
def enE (p : Nat × (Str × Int)) : D := .nd .tup [.int (p.1 : Nat), enF p.2]
theorem enuK_zip : ∀ (sp : Sp) (k : Nat), (List.range' k sp.length).zipWith (fun (i : Nat) x => D.nd .tup [.int i, x]) (sp.map enF) = (enuK k sp).map enE
  | [], _ => rfl
  | q :: t, k => by
    rw [List.length_cons, List.range'_succ, List.map_cons, List.zipWith_cons_cons, enuK_zip t (k + 1)]
    rfl
theorem enuD_sp (sp : Sp) : enuD (sp.map enF) = (enuK 0 sp).map enE := by
  unfold enuD
  rw [List.length_map, List.range_eq_range', enuK_zip]
theorem enuK_find (f : Str) : ∀ (sp : Sp) (k : Nat), ((enuK k sp).find? fun p => decide (p.2.1 = f)).map (·.1) = (fi sp f).map (k + ·)
  | [], _ => rfl
  | q :: t, k => by
    rw [enuK, List.find?_cons, fi_cons]
    by_cases h : q.1 = f
    · simp [h]
    · simp only [h, decide_false, if_false]
      rw [enuK_find f t (k + 1), Option.map_map]
      congr 1
      funext i
      show k + 1 + i = k + (i + 1)
      omega
theorem enuK_mem {p : Nat × (Str × Int)} : ∀ {sp : Sp} {k : Nat}, p ∈ enuK k sp → p.2 ∈ sp
  | [], _, h => by simp [enuK] at h
  | q :: t, k, h => by
    rw [enuK] at h
    rcases List.mem_cons.mp h with rfl | h
    · simp
    · exact List.mem_cons_of_mem _ (enuK_mem h)
def fPlace (A : Str → Addr) : Fd := fnM 4 (K02.m_place_of A)
theorem place_run (A : Str → Addr) {sp : Sp} {f : Str} (N : SpN sp) (hf : PySem.PyData.strOk f = true) :
    (∃ i c, fi sp f = some i ∧ fPlace A [.d (enSp sp), .d (.str f)] = .ok (.d (.int (i : Nat))) c) ∨ (fi sp f = none ∧ ∃ c, fPlace A [.d (enSp sp), .d (.str f)] = .er (Du.ex A (.fld f)) c) := by
  have r := mFor_first (g := gS 2 (gCons' (gN 2) (gCons' (gN 3) (gNil')))) (b := mIfS (mT (m2 hEq (lv (m2 gIx (lv (mVar 3)) (lv (mp (.int 0))))) (lv (mVar 1)))) (mRet (mVar 2)) (mp .nx)) (enc := enE)
    (C := fun c => ∃ s2 s3, c = [.d (enSp sp), .d (.str f), s2, s3]) (p := fun p => decide (p.2.1 = f)) (v := fun p => .d (.int (p.1 : Nat))) (enuK 0 sp) [.d (enSp sp), .d (.str f), .no, .no] ⟨_, _, rfl⟩ (by
      rintro y hy c ⟨s2, s3, rfl⟩
      refine ⟨[.d (enSp sp), .d (.str f), .d (.int (y.1 : Nat)), .d (enF y.2)], by simp [enE], ?_⟩
      have e : gEqN id (.str y.2.1) (.str f) = some (.bl (decide (y.2.1 = f))) := hEq_s (f := id) (N.nm _ (enuK_mem hy)) hf
      have ex : gIx (enF y.2) (.int 0) = some (.str y.2.1) := rfl
      by_cases h : y.2.1 = f
      · have e : gEqN id (.str y.2.1) (.str f) = some (.bl true) := by rw [e, decide_eq_true h]
        exact .inr ⟨by simpa using h, [.d (enSp sp), .d (.str f), .d (.int (y.1 : Nat)), .d (enF y.2)], by simp [ex, e]⟩
      · exact .inl ⟨by simpa using h, [.d (enSp sp), .d (.str f), .d (.int (y.1 : Nat)), .d (enF y.2)], .inl (by simp [ex, e, h]), _, _, rfl⟩)
  have ef := enuK_find f sp 0
  have ea : asT (enSp sp) = some (sp.map enF) := rfl
  unfold fPlace
  rw [fnM_r]
  unfold K02.m_place_of
  rcases r with ⟨h1, c', e, s2, s3, rfl⟩ | ⟨y, c', h1, e⟩
  · rw [h1] at ef
    have hn : fi sp f = none := by
      cases h : fi sp f with
      | none => rfl
      | some i => rw [h] at ef; cases ef
    refine .inr ⟨hn, [.d (enSp sp), .d (.str f), s2, s3], ?_⟩
    simp [ea, enuD_sp, e, Du.ex]
  · rw [h1] at ef
    refine .inl ⟨y.1, c', ?_, ?_⟩
    · cases h : fi sp f with
      | none => rw [h] at ef; cases ef
      | some i =>
        rw [h] at ef
        have : y.1 = 0 + i := Option.some.inj ef
        rw [this, Nat.zero_add]
    · simp [ea, enuD_sp, e]
/-! ### a value looked at -/
def mvDu (sp : Sp) (f : Str) (v : Int) : Option Du := match fi sp f with
  | none => some (.fld f)
  | some i => if 0 ≤ v ∧ v < (sp.getD i ("", 0)).2 then none else some (.val v)
def fMust (A : Str → Addr) : Fd := fnM 4 (K02.m_must_value A (fPlace A))
theorem getD_some {α : Type} {l : List α} {i : Nat} {x d : α} (h : l[i]? = some x) : l.getD i d = x := by
  rw [List.getD_eq_getElem?_getD, h]; rfl
theorem must_run (A : Str → Addr) {sp : Sp} {f : Str} (N : SpN sp) (hf : PySem.PyData.strOk f = true) (v : Int) :
    (mvDu sp f v = none ∧ ∃ i q c, fi sp f = some i ∧ sp[i]? = some q ∧ 0 ≤ v ∧ v < q.2 ∧ fMust A [.d (enSp sp), .d (.str f), .d (.int v)] = .ok (.d (.int (i : Nat))) c) ∨
    ∃ du c, mvDu sp f v = some du ∧ fMust A [.d (enSp sp), .d (.str f), .d (.int v)] = .er (du.ex A) c := by
  unfold mvDu
  rcases place_run A N hf with ⟨i, c1, hi, e1⟩ | ⟨hn, c1, e1⟩
  · obtain ⟨q, hq, hqf⟩ := fi_some hi
    have ex : gIx (enSp sp) (.int (i : Nat)) = some (enF q) := by
      show L2.atI (sp.map enF) (i : Nat) = _
      rw [atI_pos (by omega)]
      simp [hq]
    have ex2 : gIx (enF q) (.int 1) = some (.int q.2) := rfl
    rw [hi]
    simp only
    rw [getD_some hq]
    by_cases h0 : 0 ≤ v
    · by_cases h1 : v < q.2
      · refine .inl ⟨if_pos ⟨h0, h1⟩, i, q, [.d (enSp sp), .d (.str f), .d (.int v), .d (.int (i : Nat))], rfl, hq, h0, h1, ?_⟩
        unfold fMust
        rw [fnM_r]
        unfold K02.m_must_value
        simp [e1, ex, ex2, h0, h1]
      · refine .inr ⟨.val v, [.d (enSp sp), .d (.str f), .d (.int v), .d (.int (i : Nat))], if_neg (fun z => h1 z.2), ?_⟩
        unfold fMust
        rw [fnM_r]
        unfold K02.m_must_value
        simp [e1, ex, ex2, h0, h1, Du.ex]
    · refine .inr ⟨.val v, [.d (enSp sp), .d (.str f), .d (.int v), .d (.int (i : Nat))], if_neg (fun z => h0 z.1), ?_⟩
      unfold fMust
      rw [fnM_r]
      unfold K02.m_must_value
      simp [e1, ex, ex2, h0, Du.ex]
  · rw [hn]
    refine .inr ⟨.fld f, [.d (enSp sp), .d (.str f), .d (.int v), .no], rfl, ?_⟩
    unfold fMust
    rw [fnM_r]
    unfold K02.m_must_value
    simp [e1]

/-! ### a value put -/
theorem cutD_to (xs : List D) (k : Nat) : cutD xs none (some (k : Int)) = xs.take k := by
  unfold cutD
  rw [HT.sIx_none, HT.sIx_nat, List.drop_zero, Nat.sub_zero]
  by_cases h : k ≤ xs.length
  · rw [Nat.min_eq_left h]
  · rw [Nat.min_eq_right (by omega), List.take_length, List.take_of_length_le (by omega)]
theorem cutD_from (xs : List D) (k : Nat) : cutD xs (some (k : Int)) none = xs.drop k := by
  unfold cutD
  rw [HT.sIx_none, HT.sIx_nat]
  by_cases h : k ≤ xs.length
  · rw [Nat.min_eq_left h, List.take_of_length_le (by rw [List.length_drop]; omega)]
  · rw [Nat.min_eq_right (by omega), List.drop_of_length_le (by omega), List.drop_of_length_le (by omega), List.take_nil]
def putL (l : List Int) (i : Nat) (v : Int) : List Int := l.take i ++ [v] ++ l.drop (i + 1)
def fWith : Fd := fnM 3 K02.m_with_value
theorem putL_ex {l : List Int} (hl : l.length ≤ 1000) (i : Nat) (v : Int) : ∃ t, gSl (enL l) none (some (i : Nat)) = some (.nd .tup t) ∧ ∃ t2, gAdd (.nd .tup t) (.nd .tup [.int v]) = some (.nd .tup t2) ∧ ∃ t3, gSl (enL l) (some ((i : Int) + 1)) none = some (.nd .tup t3) ∧ gAdd (.nd .tup t2) (.nd .tup t3) = some (enL (putL l i v)) := by
  refine ⟨(l.map D.int).take i, by rw [← cutD_to]; rfl, (l.map D.int).take i ++ [.int v], gAdd_t (by simp; omega), (l.map D.int).drop (i + 1), ?_, ?_⟩
  · have e : ((i : Int) + 1) = ((i + 1 : Nat) : Int) := by omega
    rw [e, ← cutD_from]
    rfl
  · rw [gAdd_t (by simp; omega)]
    unfold enL putL
    simp
theorem with_run {l : List Int} (hl : l.length ≤ 1000) (i : Nat) (v : Int) : ∃ c, fWith [.d (enL l), .d (.int (i : Nat)), .d (.int v)] = .ok (.d (enL (putL l i v))) c := by
  obtain ⟨t, e1, t2, e2, t3, e3, e4⟩ := putL_ex hl i v
  refine ⟨[.d (enL l), .d (.int (i : Nat)), .d (.int v)], ?_⟩
  unfold fWith
  rw [fnM_r]
  unfold K02.m_with_value
  simp [e1, e2, e3, e4]
def fPut (A : Str → Addr) : Fd := fnM 4 (K02.m_put_in fWith (fMust A))
theorem put_run (A : Str → Addr) {sp : Sp} {f : Str} (N : SpN sp) (hf : PySem.PyData.strOk f = true) {l : List Int} (hl : l.length ≤ 1000) (v : Int) :
    (mvDu sp f v = none ∧ ∃ i q c, fi sp f = some i ∧ sp[i]? = some q ∧ 0 ≤ v ∧ v < q.2 ∧ fPut A [.d (enSp sp), .d (enL l), .d (.str f), .d (.int v)] = .ok (.d (enL (putL l i v))) c) ∨
    ∃ du c, mvDu sp f v = some du ∧ fPut A [.d (enSp sp), .d (enL l), .d (.str f), .d (.int v)] = .er (du.ex A) c := by
  rcases must_run A N hf v with ⟨h1, i, q, c1, h2, h3, h4, h5, e1⟩ | ⟨du, c1, h1, e1⟩
  · obtain ⟨c2, e2⟩ := with_run hl i v
    refine .inl ⟨h1, i, q, [.d (enSp sp), .d (enL l), .d (.str f), .d (.int v)], h2, h3, h4, h5, ?_⟩
    unfold fPut
    rw [fnM_r]
    unfold K02.m_put_in
    simp [e1, e2]
  · refine .inr ⟨du, [.d (enSp sp), .d (enL l), .d (.str f), .d (.int v)], h1, ?_⟩
    unfold fPut
    rw [fnM_r]
    unfold K02.m_put_in
    simp [e1]
end Sw
set_option maxRecDepth 100000
set_option maxHeartbeats 4000000
namespace Sw
open PySem PySem.Spec L2

/-! ### short plain texts -/
structure Asc (n : Nat) (x : Str) : Prop where
  asc : ∀ c ∈ x.cps.toList, c < 128
  len : x.length ≤ n
theorem Asc.ok {n : Nat} {x : Str} (h : Asc n x) : PySem.PyData.strOk x = true := by
  unfold PySem.PyData.strOk
  rw [← Array.all_toList]
  exact List.all_eq_true.mpr fun c hc => decide_eq_true (by have := h.asc c hc; omega)
theorem Asc.app {n m : Nat} {x y : Str} (h : Asc n x) (k : Asc m y) : Asc (n + m) (x ++ y) := by
  refine ⟨fun c hc => ?_, ?_⟩
  · rw [PySem.Str.cps_append, Array.toList_append] at hc
    rcases List.mem_append.mp hc with z | z
    · exact h.asc c z
    · exact k.asc c z
  · have := h.len
    have := k.len
    show (x ++ y).cps.size ≤ _
    rw [PySem.Str.cps_append, Array.size_append]
    unfold PySem.Str.length at *
    omega
theorem Asc.mono {n m : Nat} {x : Str} (h : Asc n x) (k : n ≤ m) : Asc m x := ⟨h.asc, Nat.le_trans h.len k⟩
theorem Asc.one {c : Nat} (h : c < 128) : Asc 1 ⟨#[c]⟩ := ⟨fun d hd => by simp at hd; omega, Nat.le_refl _⟩
theorem Asc.cut {n : Nat} {x : Str} (h : Asc n x) (lo hi : Option Int) : Asc n (cutS x lo hi) := by
  refine ⟨fun c hc => h.asc c ?_, ?_⟩
  · unfold cutS at hc
    exact List.mem_of_mem_drop (List.mem_of_mem_take (by simpa using hc))
  · have := h.len
    unfold cutS PySem.Str.length at *
    simp
    omega
theorem upper_nil : Txt.upper ⟨#[]⟩ = ⟨#[]⟩ := by decide +kernel
theorem Asc.up : ∀ {n : Nat} {x : Str}, Asc n x → Asc n (Txt.upper x) := by
  have key : ∀ (l : List Nat), (∀ c ∈ l, c < 128) → (∀ c ∈ (Txt.upper ⟨l.toArray⟩).cps.toList, c < 128) ∧ (Txt.upper ⟨l.toArray⟩).length = l.length := by
    intro l
    induction l with
    | nil =>
      intro _
      rw [show (⟨([] : List Nat).toArray⟩ : Str) = ⟨#[]⟩ from rfl, upper_nil]
      exact ⟨fun c hc => by simp at hc, rfl⟩
    | cons a l ih =>
      intro h
      obtain ⟨h1, h2⟩ := ih fun c hc => h c (List.mem_cons_of_mem _ hc)
      have e : (⟨(a :: l).toArray⟩ : Str) = (⟨#[a]⟩ : Str) ++ ⟨l.toArray⟩ := by
        apply PySem.Str.ext'
        rw [PySem.Str.cps_append]
        simp
      have ha := h a (by simp)
      rw [e, PySem.W.KOpn.upper_app, PySem.W.KOpn.upper_one ha]
      refine ⟨fun c hc => ?_, ?_⟩
      · rw [PySem.Str.cps_append, Array.toList_append] at hc
        rcases List.mem_append.mp hc with z | z
        · simp at z
          rw [z]
          split <;> omega
        · exact h1 c z
      · unfold PySem.Str.length at *
        rw [PySem.Str.cps_append, Array.size_append, h2, List.length_cons]
        simp
        omega
  intro n x h
  obtain ⟨cps⟩ := x
  obtain ⟨l⟩ := cps
  obtain ⟨h1, h2⟩ := key l h.asc
  exact ⟨h1, by rw [h2]; exact h.len⟩
theorem GoodSp.name {sp : Sp} {f : Int} {tail : Str} (G : GoodSp sp f tail) : ∀ q ∈ sp, Asc 8 q.1 := by
  intro q hq
  have hm : q.1 ∈ sp.map (·.1) := List.mem_map_of_mem hq
  rw [G.names] at hm
  obtain ⟨j, _, e⟩ := List.mem_map.mp hm
  rw [← e]
  have s : signN f j < 128 := by
    unfold signN
    have h1 : (f + 9 * (j : Int)) % 26 < 26 := Int.emod_lt_of_pos _ (by omega)
    omega
  have ht : Asc 7 tail := ⟨fun c hc => by simpa using List.all_eq_true.mp G.asc c hc, G.tl⟩
  exact (Asc.one s).app ht
theorem GoodSp.spN {sp : Sp} {f : Int} {tail : Str} (G : GoodSp sp f tail) : SpN sp := ⟨by have := G.len; omega, fun q hq => (G.name q hq).ok⟩

/-! ### letters, as a value -/
def mLettersD : M Out :=
  mSeq (mSet 1 (mFz (mLst (mCons (mTup (mp [])) (mp [])))))
  (mSeq (mForS (itS (mVar 0)) (gS 2 (gCons' (gN 2) (gCons' (gN 3) (gNil')))) (mSeq (mSet 4 (mFz (mLst (mp []))))
  (mSeq (mForS (itS (mVar 1)) (gN 5) (mSet 4 (m2 gAdd (lv (mVar 4)) (lv (mFz (mLc [6] (itR rng1 (mCons (mVar 3) (mp []))) (gN 6) (mp true) (m2 gAdd (lv (mVar 5)) (lv (mTup (mCons (mVar 6) (mp [])))))))))))
  (mSet 1 (mVar 4)))))
  (mRet (mVar 1)))
def fLettersD : Fd := fnM 7 mLettersD
theorem lettersD_inner {S : D} {f : Sv} {n : Int} {s5 s6 : Sv} {fs : List (List Int)} (n0 : 0 ≤ n) (n1 : n ≤ 1000) (hf : ∀ l ∈ fs, l.length ≤ 1000) (hz : fs.length ≤ 1000) :
    ∃ s5' s6', mFor (gN 5) (mSet 4 (m2 gAdd (lv (mVar 4)) (lv (mFz (mLc [6] (itR rng1 (mCons (mVar 3) (mp []))) (gN 6) (mp true) (m2 gAdd (lv (mVar 5)) (lv (mTup (mCons (mVar 6) (mp [])))))))))) (fs.map enL) [.d S, .d (.nd .lst (fs.map enL)), f, .d (.int n), .d (.nd .lst []), s5, s6] =
      .ok .nx [.d S, .d (.nd .lst (fs.map enL)), f, .d (.int n), .d (.nd .lst ((growL fs n.toNat).map enL)), s5', s6'] := by
  obtain ⟨c', e, s5', s6', rfl⟩ := mFor_run (g := gN 5) (b := mSet 4 (m2 gAdd (lv (mVar 4)) (lv (mFz (mLc [6] (itR rng1 (mCons (mVar 3) (mp []))) (gN 6) (mp true) (m2 gAdd (lv (mVar 5)) (lv (mTup (mCons (mVar 6) (mp []))))))))))
    (xs := fs.map enL) (c := [.d S, .d (.nd .lst (fs.map enL)), f, .d (.int n), .d (.nd .lst []), s5, s6])
    (fun k c => ∃ s5 s6, c = [.d S, .d (.nd .lst (fs.map enL)), f, .d (.int n), .d (.nd .lst ((growL (fs.take k) n.toNat).map enL)), s5, s6]) ⟨s5, s6, rfl⟩ (by
      rintro k x c hx ⟨s5, s6, rfl⟩
      rw [List.getElem?_map] at hx
      obtain ⟨l, hl, rfl⟩ := Option.map_eq_some_iff.mp hx
      have hm : l ∈ fs := List.mem_of_getElem? hl
      have e1 := one_run (a := 0) (b := 0) (c := [.d S, .d (.nd .lst (fs.map enL)), f, .d (.int n), .d (.nd .lst ((growL (fs.take k) n.toNat).map enL)), .d (enL l), s6]) rfl rfl n0 n1 (hf l hm) rfl
      have hk : (growL (fs.take k) n.toNat).length ≤ 1000 * 1000 := by
        rw [growL_length]
        refine Nat.mul_le_mul ?_ (by omega)
        rw [List.length_take]
        omega
      have hg : (grow1 n.toNat l).length ≤ 1000 := by
        unfold grow1
        simp
        omega
      refine ⟨[.d S, .d (.nd .lst (fs.map enL)), f, .d (.int n), .d (.nd .lst ((growL (fs.take k) n.toNat).map enL)), .d (enL l), s6], [.d S, .d (.nd .lst (fs.map enL)), f, .d (.int n), .d (.nd .lst ((growL (fs.take (k + 1)) n.toNat).map enL)), .d (enL l), .no], by simp, .inl ?_, .d (enL l), .no, rfl⟩
      have hs : gAdd (.nd .lst ((growL (fs.take k) n.toNat).map enL)) (.nd .lst ((grow1 n.toNat l).map enL)) = some (.nd .lst ((growL (fs.take (k + 1)) n.toNat).map enL)) := by
        rw [gAdd_l (by rw [List.length_map, List.length_map]; omega)]
        rw [List.take_add_one, hl, growL_app]
        show _ = some (D.nd .lst ((growL (fs.take k) n.toNat ++ growL [l] n.toNat).map enL))
        rw [List.map_append]
        unfold growL
        simp
      simp [e1, hs])
  refine ⟨s5', s6', ?_⟩
  rw [e, List.length_map, List.take_length]
theorem lettersD_run {sp : Sp} {f : Int} {tail : Str} (G : GoodSp sp f tail) : ∃ c, fLettersD [.d (enSp sp)] = .ok (.d (.nd .lst ((lettersC (csOf sp)).map enL))) c := by
  have hpos : ∀ q ∈ sp, 1 ≤ q.2 := fun q hq => (G.cnt q hq).1
  have total : (lettersC (csOf sp)).length ≤ 24 := by
    have := lettersC_length sp hpos
    have := G.prod
    omega
  unfold fLettersD
  rw [fnM_r]
  unfold mLettersD
  obtain ⟨c', e, f', n', lo, s5, s6, rfl⟩ := mFor_run (g := gS 2 (gCons' (gN 2) (gCons' (gN 3) (gNil')))) (b := mSeq (mSet 4 (mFz (mLst (mp []))))
  (mSeq (mForS (itS (mVar 1)) (gN 5) (mSet 4 (m2 gAdd (lv (mVar 4)) (lv (mFz (mLc [6] (itR rng1 (mCons (mVar 3) (mp []))) (gN 6) (mp true) (m2 gAdd (lv (mVar 5)) (lv (mTup (mCons (mVar 6) (mp [])))))))))))
  (mSet 1 (mVar 4)))) (xs := sp.map enF) (c := [.d (enSp sp), .d (.nd .lst [enL []]), .no, .no, .no, .no, .no])
    (fun i c => ∃ f n lo s5 s6, c = [.d (enSp sp), .d (.nd .lst ((lettersC ((csOf sp).take i)).map enL)), f, n, lo, s5, s6]) ⟨.no, .no, .no, .no, .no, rfl⟩ (by
      rintro i x c hx ⟨f, n, lo, s5, s6, rfl⟩
      rw [List.getElem?_map] at hx
      obtain ⟨q, hq, rfl⟩ := Option.map_eq_some_iff.mp hx
      have hm : q ∈ sp := List.mem_of_getElem? hq
      obtain ⟨q1, q6⟩ := G.cnt q hm
      have hc : (csOf sp)[i]? = some q.2.toNat := by unfold csOf; rw [List.getElem?_map, hq]; rfl
      have hlen : ∀ l ∈ lettersC ((csOf sp).take i), l.length ≤ 1000 := fun l hl => by
        rw [(mem_lettersC.mp hl).len, List.length_take]
        have : (csOf sp).length ≤ 3 := by unfold csOf; rw [List.length_map]; exact G.len
        omega
      have hz : (lettersC ((csOf sp).take i)).length ≤ 1000 := by
        have := lettersC_take_le (csOf_pos hpos) i
        omega
      obtain ⟨s5', s6', e1⟩ := lettersD_inner (S := enSp sp) (f := .d (.str q.1)) (n := q.2) (s5 := s5) (s6 := s6) (by omega) (by omega) hlen hz
      refine ⟨[.d (enSp sp), .d (.nd .lst ((lettersC ((csOf sp).take i)).map enL)), .d (.str q.1), .d (.int q.2), lo, s5, s6], [.d (enSp sp), .d (.nd .lst ((lettersC ((csOf sp).take (i + 1))).map enL)), .d (.str q.1), .d (.int q.2), .d (.nd .lst ((growL (lettersC ((csOf sp).take i)) q.2.toNat).map enL)), s5', s6'], by simp [enF], .inl ?_, _, _, _, _, _, rfl⟩
      rw [lettersC_snoc hc]
      simp [asS, e1])
  have e2 : (csOf sp).take (sp.map enF).length = csOf sp := List.take_of_length_le (by unfold csOf; simp)
  rw [e2] at e
  refine ⟨[.d (enSp sp), .d (.nd .lst ((lettersC (csOf sp)).map enL)), f', n', lo, s5, s6], ?_⟩
  unfold enSp at e ⊢
  have el : D.nd .tup [] = enL [] := rfl
  simp [el, e, asS]
end Sw
set_option maxRecDepth 100000
namespace K11
open PySem PySem.Spec L2 Sw
-- slots: 0 speech, 1 field, 2 place, 3 one
def m_place_of (A : Str → Addr)  : M Out :=
  mSeq (mForS (itEnum (mVar 0)) (gS 2 (gCons' (gN 2) (gCons' (gN 3) (gNil')))) (mIfS (mT (m2 hEq (lv (m2 gIx (lv (mVar 3)) (lv (mp (.int 0))))) (lv (mVar 1)))) (mRet (mVar 2)) (mp .nx)))
  (mRaise (mMk "NoField" (A "NoField") ["field"] (mCons (mVar 1) (mp []))))
-- slots: 0 speech, 1 field, 2 value, 3 place
def m_must_value (A : Str → Addr) (F_place_of : Fd) : M Out :=
  mSeq (mSet 3 (mRvD (mCallA F_place_of (aD (mVar 0) (aD (mVar 1) (aNil))))))
  (mSeq (mIfS (mNot (mT (mChain hLe hLt (lv (mp (.int 0))) (lv (mVar 2)) (lv (m2 gIx (lv (m2 gIx (lv (mVar 0)) (lv (mVar 3)))) (lv (mp (.int 1)))))))) (mRaise (mMk "NoValue" (A "NoValue") ["value"] (mCons (mVar 2) (mp [])))) (mp .nx))
  (mRet (mVar 3)))
-- slots: 0 saying
def m_inside  : M Out :=
  mSeq (mIfS (mT (m2 hIn (lv (m2 gIx (lv (mVar 0)) (lv (mp (.int 0))))) (lv (mTup (mCons (mp (.str "not")) (mCons (mp (.str "again")) (mp []))))))) (mRet (mFz (mLst (mCons (m2 gIx (lv (mVar 0)) (lv (mp (.int 1)))) (mp []))))) (mp .nx))
  (mSeq (mIfS (mT (m2 hIn (lv (m2 gIx (lv (mVar 0)) (lv (mp (.int 0))))) (lv (mTup (mCons (mp (.str "either")) (mCons (mp (.str "then")) (mp []))))))) (mRet (mFz (mLst (mCons (m2 gIx (lv (mVar 0)) (lv (mp (.int 1)))) (mCons (m2 gIx (lv (mVar 0)) (lv (mp (.int 2)))) (mp [])))))) (mp .nx))
  (mRet (mFz (mLst (mp [])))))
-- slots: 0 saying, 1 one
def m_is_test (F_inside : Fd) (F_is_test : Fd) : M Out :=
  mSeq (mIfS (mT (m2 hIn (lv (m2 gIx (lv (mVar 0)) (lv (mp (.int 0))))) (lv (mTup (mCons (mp (.str "put")) (mCons (mp (.str "again")) (mCons (mp (.str "note")) (mp [])))))))) (mRet (mp (.bl false))) (mp .nx))
  (mRet (mCl gAll (lCons (lv (mFz (mLc [1] (itS (mRvD (mCallA F_inside (aD (mVar 0) (aNil))))) (gN 1) (mp true) (mRvD (mCallA F_is_test (aD (mVar 1) (aNil))))))) (mp []))))
-- slots: 0 speech, 1 saying, 2 one
def m_must_saying (A : Str → Addr) (F_must_value : Fd) (F_is_test : Fd) (F_must_saying : Fd) (F_inside : Fd) : M Out :=
  mSeq (mIfS (mT (m2 hIn (lv (m2 gIx (lv (mVar 1)) (lv (mp (.int 0))))) (lv (mTup (mCons (mp (.str "is")) (mCons (mp (.str "put")) (mp []))))))) (mDrop (mRvD (mCallA F_must_value (aD (mVar 0) (aD (m2 gIx (lv (mVar 1)) (lv (mp (.int 1)))) (aD (m2 gIx (lv (mVar 1)) (lv (mp (.int 2)))) (aNil))))))) (mp .nx))
  (mSeq (mIfS (mAnd (mT (m2 hEq (lv (m2 gIx (lv (mVar 1)) (lv (mp (.int 0))))) (lv (mp (.str "not"))))) (mNot (mT (mRvD (mCallA F_is_test (aD (m2 gIx (lv (mVar 1)) (lv (mp (.int 1)))) (aNil))))))) (mRaise (mMk "NoTest" (A "NoTest") ["saying"] (mCons (m2 gIx (lv (mVar 1)) (lv (mp (.int 1)))) (mp [])))) (mp .nx))
  (mForS (itS (mRvD (mCallA F_inside (aD (mVar 1) (aNil))))) (gN 2) (mDrop (mRvD (mCallA F_must_saying (aD (mVar 0) (aD (mVar 2) (aNil))))))))
-- slots: 0 _law_script, 1 _law_k
def m_law_cell  : M Out :=
  mSeq (mIfS (mT (m2 hLt (lv (mVar 1)) (lv (mCl gLen (lCons (lv (mVar 0)) (mp [])))))) (mRet (m2 gIx (lv (mVar 0)) (lv (mVar 1)))) (mp .nx))
  (mRet (mp (.int 0)))
-- slots: 0 _law_cell_here, 1 _law_number, 2 _law_found, 3 _law_k
def m_law_purse  : M Out :=
  mSeq (mSet 1 (m2 gMod (lv (mVar 0)) (lv (mp (.int 2147483647)))))
  (mSeq (mSet 2 (mp (.int 1)))
  (mSeq (mForS (itR rng1 (mCons (mp (.int 16)) (mp []))) (gN 3) (mSeq (mSet 1 (m2 gMod (lv (m2 gAdd (lv (m2 gAdd (lv (m2 gAdd (lv (m2 gMul (lv (mVar 1)) (lv (mVar 1)))) (lv (m2 gMul (lv (m2 gMul (lv (mp (.int 48271))) (lv (mVar 3)))) (lv (mVar 3)))))) (lv (mVar 3)))) (lv (mp (.int 3))))) (lv (mp (.int 2147483629)))))
  (mSet 2 (m2 gAdd (lv (m2 gMul (lv (mVar 2)) (lv (mp (.int 2147483587))))) (lv (m2 gMod (lv (m2 gMul (lv (mVar 1)) (lv (mVar 1)))) (lv (mp (.int 2147483587)))))))))
  (mSeq (mIfS (mT (m2 hEq (lv (m2 gMod (lv (mVar 0)) (lv (mp (.int 2))))) (lv (mp (.int 0))))) (mRetO (mLst (mCons (m2 gDiv (lv (mCl gAbs (lCons (lv (mVar 0)) (mp [])))) (lv (mp (.int 2)))) (mCons (mVar 2) (mp []))))) (mp .nx))
  (mRetO (mLst (mCons (mp (.int 0)) (mCons (mVar 2) (mp []))))))))
-- slots: 0 _law_purse_here*, 1 _law_many, 2 _law_at, 3 _law_found
def m_law_take  : M Out :=
  mSeq (mSet 2 (mCl gInt (lCons (lv (m2 hEq (lv (m2 gIx (lName 0) (lv (mp (.int 0))))) (lv (mp (.int 0))))) (mp []))))
  (mSeq (mSet 3 (m2 gMod (lv (m2 gIx (lName 0) (lv (mVar 2)))) (lv (mVar 1))))
  (mSeq (mPut 0 (m2 gDiv (lv (m2 gIx (lName 0) (lv (mVar 2)))) (lv (mVar 1))) (mVar 2))
  (mRet (mVar 3))))
-- slots: 0 _law_cell_here, 1 _law_least, 2 _law_purse_here*, 3 _law_first, 4 _law_letters, 5 _law_left, 6 _law_many, 7 _law_tail, 8 _law_speech_here*, 9 _law_k, 10 _law_count
def m_law_speech (F_law_purse : Fd) (F_law_take : Fd) : M Out :=
  mSeq (mSetO 2 (mRvO (mCallA F_law_purse (aD (mVar 0) (aNil)))))
  (mSeq (mSet 3 (mRvD (mCallA F_law_take (aL 2 (aD (mp (.int 26)) (aNil))))))
  (mSeq (mSet 4 (mp (.str "abcdefghijklmnopqrstuvwxyz")))
  (mSeq (mSet 5 (m2 gIx (lv (mFz (mLst (mCons (mp (.int 8)) (mCons (mp (.int 8)) (mCons (mp (.int 6)) (mCons (mp (.int 8)) (mCons (mp (.int 12)) (mCons (mp (.int 8)) (mCons (mp (.int 4)) (mCons (mp (.int 24)) (mp [])))))))))))) (lv (mRvD (mCallA F_law_take (aL 2 (aD (mp (.int 8)) (aNil))))))))
  (mSeq (mSet 6 (mCl gMax (lCons (lv (mVar 1)) (lCons (lv (m2 gAdd (lv (mp (.int 1))) (lv (mRvD (mCallA F_law_take (aL 2 (aD (mp (.int 3)) (aNil)))))))) (mp [])))))
  (mSeq (mSet 7 (mSl gSl (lv (mp (.str "abcdefg"))) (mp none) (mPart (mRvD (mCallA F_law_take (aL 2 (aD (mp (.int 8)) (aNil))))))))
  (mSeq (mSetO 8 (mLst (mp [])))
  (mSeq (mForS (itR rng1 (mCons (mVar 6) (mp []))) (gN 9) (mSeq (mSet 10 (mCl gMin (lCons (lv (m2 gIx (lv (mFz (mLst (mCons (mp (.int 2)) (mCons (mp (.int 3)) (mCons (mp (.int 4)) (mCons (mp (.int 1)) (mCons (mp (.int 6)) (mCons (mp (.int 5)) (mp [])))))))))) (lv (mRvD (mCallA F_law_take (aL 2 (aD (mp (.int 6)) (aNil)))))))) (lCons (lv (mVar 5)) (mp [])))))
  (mSeq (mSet 5 (m2 gDiv (lv (mVar 5)) (lv (mVar 10))))
  (mDrop (mApp 8 (mTup (mCons (m2 gAdd (lv (m2 gIx (lv (mVar 4)) (lv (m2 gMod (lv (m2 gAdd (lv (mVar 3)) (lv (m2 gMul (lv (mp (.int 9))) (lv (mVar 9)))))) (lv (mp (.int 26))))))) (lv (mVar 7))) (mCons (mVar 10) (mp [])))))))))
  (mRet (mCl gTuple (lCons (lName 8) (mp [])))))))))))
-- slots: 0 _law_sort, 1 _law_purse_here*, 2 _law_speech_here, 3 _law_field, 4 _law_count
def m_law_lone (F_law_take : Fd) : M Out :=
  mSeq (mAsg (m2 gIx (lv (mVar 2)) (lv (mRvD (mCallA F_law_take (aL 1 (aD (mCl gLen (lCons (lv (mVar 2)) (mp []))) (aNil))))))) (gS 2 (gCons' (gN 3) (gCons' (gN 4) (gNil')))))
  (mRet (m2 gIx (lv (mFz (mLst (mCons (mTup (mCons (mp (.str "is")) (mCons (mVar 3) (mCons (mRvD (mCallA F_law_take (aL 1 (aD (mVar 4) (aNil))))) (mp []))))) (mCons (mTup (mCons (mp (.str "put")) (mCons (mVar 3) (mCons (mRvD (mCallA F_law_take (aL 1 (aD (mVar 4) (aNil))))) (mp []))))) (mCons (mTup (mCons (mp (.str "all")) (mp []))) (mCons (mTup (mCons (mp (.str "none")) (mp []))) (mp [])))))))) (lv (mVar 0))))
-- slots: 0 _law_row, 1 _law_cell_here, 2 _law_speech_here, 3 _law_most, 4 _law_purse_here*, 5 _law_sort, 6 _law_last, 7 _law_one
def m_law_grown (F_law_purse : Fd) (F_law_take : Fd) (F_law_joined : Fd) (F_law_lone : Fd) : M Out :=
  mSeq (mSetO 4 (mRvO (mCallA F_law_purse (aD (mVar 1) (aNil)))))
  (mSeq (mSet 5 (mRvD (mCallA F_law_take (aL 4 (aD (mp (.int 14)) (aNil))))))
  (mSeq (mSet 6 (m2 gIx (lv (mVar 0)) (lv (vNeg (mp (.int 1))))))
  (mSeq (mIfS (mAnd (mT (m2 hEq (lv (mVar 5)) (lv (mp (.int 4))))) (mT (m2 hLt (lv (mCl gSum (lCons (lv (mFz (mLc [7] (itS (mVar 0)) (gN 7) (mp true) (m2 gIx (lv (mVar 7)) (lv (mp (.int 2))))))) (mp [])))) (lv (mVar 3))))) (mRet (m2 gAdd (lv (mVar 0)) (lv (mFz (mLst (mCons (mFz (mLst (mCons (mTup (mCons (mp (.str "note")) (mp []))) (mCons (mp (.bl false)) (mCons (mp (.int 1)) (mCons (mp (.int 0)) (mp []))))))) (mp []))))))) (mp .nx))
  (mSeq (mIfS (mAnd (mT (m2 hEq (lv (mVar 5)) (lv (mp (.int 5))))) (mT (m2 gIx (lv (mVar 6)) (lv (mp (.int 1)))))) (mRet (m2 gAdd (lv (mSl gSl (lv (mVar 0)) (mp none) (mPart (vNeg (mp (.int 1)))))) (lv (mFz (mLst (mCons (mFz (mLst (mCons (mTup (mCons (mp (.str "not")) (mCons (m2 gIx (lv (mVar 6)) (lv (mp (.int 0)))) (mp [])))) (mCons (mp (.bl true)) (mCons (mp (.int 0)) (mCons (mp (.int 0)) (mp []))))))) (mp []))))))) (mp .nx))
  (mSeq (mIfS (mAnd (mT (m2 hEq (lv (mVar 5)) (lv (mp (.int 6))))) (mT (m2 hLt (lv (m2 gIx (lv (mVar 6)) (lv (mp (.int 3))))) (lv (mp (.int 3)))))) (mRet (m2 gAdd (lv (mSl gSl (lv (mVar 0)) (mp none) (mPart (vNeg (mp (.int 1)))))) (lv (mFz (mLst (mCons (mFz (mLst (mCons (mTup (mCons (mp (.str "again")) (mCons (m2 gIx (lv (mVar 6)) (lv (mp (.int 0)))) (mp [])))) (mCons (mp (.bl false)) (mCons (m2 gIx (lv (mVar 6)) (lv (mp (.int 2)))) (mCons (m2 gAdd (lv (m2 gIx (lv (mVar 6)) (lv (mp (.int 3))))) (lv (mp (.int 1)))) (mp []))))))) (mp []))))))) (mp .nx))
  (mSeq (mIfS (mAnd (mT (m2 hGt (lv (mVar 5)) (lv (mp (.int 6))))) (mAnd (mT (m2 hLt (lv (mVar 5)) (lv (mp (.int 12))))) (mT (m2 hGt (lv (mCl gLen (lCons (lv (mVar 0)) (mp [])))) (lv (mp (.int 1))))))) (mRet (mRvD (mCallA F_law_joined (aD (mVar 0) (aD (m2 gIx (lv (mFz (mLst (mCons (mp (.str "either")) (mCons (mp (.str "then")) (mp [])))))) (lv (m2 gMod (lv (mVar 5)) (lv (mp (.int 2)))))) (aNil)))))) (mp .nx))
  (mSeq (mSet 5 (m2 gIx (lv (mFz (mLst (mCons (mp (.int 0)) (mCons (mp (.int 1)) (mCons (mp (.int 2)) (mCons (mp (.int 3)) (mCons (mp (.int 2)) (mCons (mp (.int 0)) (mCons (mp (.int 1)) (mCons (mp (.int 0)) (mCons (mp (.int 1)) (mCons (mp (.int 0)) (mCons (mp (.int 1)) (mCons (mp (.int 0)) (mCons (mp (.int 1)) (mCons (mp (.int 0)) (mp [])))))))))))))))))) (lv (mVar 5))))
  (mRet (m2 gAdd (lv (mVar 0)) (lv (mFz (mLst (mCons (mFz (mLst (mCons (mRvD (mCallA F_law_lone (aD (mVar 5) (aL 4 (aD (mVar 2) (aNil)))))) (mCons (m2 hNe (lv (mVar 5)) (lv (mp (.int 1)))) (mCons (mp (.int 0)) (mCons (mp (.int 0)) (mp []))))))) (mp []))))))))))))))
-- slots: 0 _law_row, 1 _law_word, 2 _law_one, 3 _law_other, 4 _law_made
def m_law_joined  : M Out :=
  mSeq (mAsg (mSl gSl (lv (mVar 0)) (mPart (vNeg (mp (.int 2)))) (mp none)) (gS 2 (gCons' (gN 2) (gCons' (gN 3) (gNil')))))
  (mSeq (mSet 4 (mTup (mCons (mVar 1) (mCons (m2 gIx (lv (mVar 2)) (lv (mp (.int 0)))) (mCons (m2 gIx (lv (mVar 3)) (lv (mp (.int 0)))) (mp []))))))
  (mRet (m2 gAdd (lv (mSl gSl (lv (mVar 0)) (mp none) (mPart (vNeg (mp (.int 2)))))) (lv (mFz (mLst (mCons (mFz (mLst (mCons (mVar 4) (mCons (vAnd (m2 gIx (lv (mVar 2)) (lv (mp (.int 1)))) (m2 gIx (lv (mVar 3)) (lv (mp (.int 1))))) (mCons (m2 gAdd (lv (m2 gIx (lv (mVar 2)) (lv (mp (.int 2))))) (lv (m2 gIx (lv (mVar 3)) (lv (mp (.int 2)))))) (mCons (mCl gMax (lCons (lv (m2 gIx (lv (mVar 2)) (lv (mp (.int 3))))) (lCons (lv (m2 gIx (lv (mVar 3)) (lv (mp (.int 3))))) (mp [])))) (mp []))))))) (mp []))))))))
-- slots: 0 _law_cells, 1 _law_speech_here, 2 _law_most, 3 _law_row, 4 _law_cell_here
def m_law_saying (F_law_grown : Fd) (F_law_joined : Fd) (FUEL : Nat) : M Out :=
  mSeq (mSet 3 (mFz (mLst (mCons (mFz (mLst (mCons (mTup (mCons (mp (.str "all")) (mp []))) (mCons (mp (.bl true)) (mCons (mp (.int 0)) (mCons (mp (.int 0)) (mp []))))))) (mp [])))))
  (mSeq (mForS (itS (mVar 0)) (gN 4) (mSet 3 (mRvD (mCallA F_law_grown (aD (mVar 3) (aD (mVar 4) (aD (mVar 1) (aD (mVar 2) (aNil)))))))))
  (mSeq (mWhile (mT (m2 hGt (lv (mCl gLen (lCons (lv (mVar 3)) (mp [])))) (lv (mp (.int 1))))) (mSet 3 (mRvD (mCallA F_law_joined (aD (mVar 3) (aD (m2 gIx (lv (mFz (mLst (mCons (mp (.str "either")) (mCons (mp (.str "then")) (mp [])))))) (lv (m2 gMod (lv (m2 gMod (lv (mCl gLen (lCons (lv (mVar 3)) (mp [])))) (lv (mp (.int 3))))) (lv (mp (.int 2)))))) (aNil)))))) FUEL)
  (mRet (m2 gIx (lv (m2 gIx (lv (mVar 3)) (lv (mp (.int 0))))) (lv (mp (.int 0)))))))
-- slots: 0 _law_saying_here, 1 _law_one
def m_law_is_test (F_law_is_test : Fd) : M Out :=
  mSeq (mIfS (mT (m2 hIn (lv (m2 gIx (lv (mVar 0)) (lv (mp (.int 0))))) (lv (mFz (mLst (mCons (mp (.str "put")) (mCons (mp (.str "again")) (mCons (mp (.str "note")) (mp []))))))))) (mRet (mp (.bl false))) (mp .nx))
  (mSeq (mIfS (mT (m2 hIn (lv (m2 gIx (lv (mVar 0)) (lv (mp (.int 0))))) (lv (mFz (mLst (mCons (mp (.str "is")) (mCons (mp (.str "all")) (mCons (mp (.str "none")) (mp []))))))))) (mRet (mp (.bl true))) (mp .nx))
  (mRet (m2 hEq (lv (mCl gLen (lCons (lv (mFz (mLc [1] (itS (mSl gSl (lv (mVar 0)) (mPart (mp (.int 1))) (mp none))) (gN 1) (mNot (mT (mRvD (mCallA F_law_is_test (aD (mVar 1) (aNil)))))) (mVar 1)))) (mp [])))) (lv (mp (.int 0))))))
-- slots: 0 _law_speech_here, 1 _law_saying_here, 2 _law_sort, 3 _law_counts, 4 _law_one, 5 _law_found, 6 _law_field, 7 _law_count
def m_law_due (F_law_is_test : Fd) (F_law_due : Fd) : M Out :=
  mSeq (mSet 2 (m2 gIx (lv (mVar 1)) (lv (mp (.int 0)))))
  (mSeq (mIfS (mOr (mT (m2 hEq (lv (mVar 2)) (lv (mp (.str "is"))))) (mT (m2 hEq (lv (mVar 2)) (lv (mp (.str "put")))))) (mSeq (mSet 3 (mFz (mLc [6, 7] (itS (mVar 0)) (gS 2 (gCons' (gN 6) (gCons' (gN 7) (gNil')))) (mT (m2 hEq (lv (mVar 6)) (lv (m2 gIx (lv (mVar 1)) (lv (mp (.int 1))))))) (mVar 7))))
  (mSeq (mIfS (mT (m2 hEq (lv (mVar 3)) (lv (mFz (mLst (mp [])))))) (mRet (mFz (mLst (mCons (mp (.str "field")) (mCons (m2 gIx (lv (mVar 1)) (lv (mp (.int 1)))) (mp [])))))) (mp .nx))
  (mRet (m2 gIx (lv (mFz (mLst (mCons (mFz (mLst (mCons (mp (.str "value")) (mCons (m2 gIx (lv (mVar 1)) (lv (mp (.int 2)))) (mp []))))) (mCons (mFz (mLst (mp []))) (mp [])))))) (lv (mCl gInt (lCons (lv (vAnd (m2 hLe (lv (mp (.int 0))) (lv (m2 gIx (lv (mVar 1)) (lv (mp (.int 2)))))) (m2 hLt (lv (m2 gIx (lv (mVar 1)) (lv (mp (.int 2))))) (lv (m2 gIx (lv (mVar 3)) (lv (mp (.int 0)))))))) (mp [])))))))) (mp .nx))
  (mSeq (mIfS (mAnd (mT (m2 hEq (lv (mVar 2)) (lv (mp (.str "not"))))) (mNot (mT (mRvD (mCallA F_law_is_test (aD (m2 gIx (lv (mVar 1)) (lv (mp (.int 1)))) (aNil))))))) (mRet (mFz (mLst (mCons (mp (.str "test")) (mCons (m2 gIx (lv (mVar 1)) (lv (mp (.int 1)))) (mp [])))))) (mp .nx))
  (mSeq (mIfS (mT (m2 hIn (lv (mVar 2)) (lv (mFz (mLst (mCons (mp (.str "all")) (mCons (mp (.str "none")) (mCons (mp (.str "note")) (mp []))))))))) (mRet (mFz (mLst (mp [])))) (mp .nx))
  (mSeq (mForS (itS (mSl gSl (lv (mVar 1)) (mPart (mp (.int 1))) (mp none))) (gN 4) (mSeq (mSet 5 (mRvD (mCallA F_law_due (aD (mVar 0) (aD (mVar 4) (aNil))))))
  (mIfS (mT (m2 hNe (lv (mVar 5)) (lv (mFz (mLst (mp [])))))) (mRet (mVar 5)) (mp .nx))))
  (mRet (mFz (mLst (mp []))))))))
-- slots: 0 _law_purse_here*, 1 _law_speech_here, 2 _law_inner, 3 _law_field, 4 _law_count, 5 _law_word, 6 _law_far, 7 _law_strange_here
def m_law_strange (F_law_take : Fd) : M Out :=
  mSeq (mAsg (m2 gIx (lv (mVar 1)) (lv (mRvD (mCallA F_law_take (aL 0 (aD (mCl gLen (lCons (lv (mVar 1)) (mp []))) (aNil))))))) (gS 2 (gCons' (gN 3) (gCons' (gN 4) (gNil')))))
  (mSeq (mSet 5 (m2 gIx (lv (mFz (mLst (mCons (mp (.str "is")) (mCons (mp (.str "put")) (mp [])))))) (lv (mRvD (mCallA F_law_take (aL 0 (aD (mp (.int 2)) (aNil))))))))
  (mSeq (mSet 6 (m2 gIx (lv (mFz (mLst (mCons (vNeg (mp (.int 1))) (mCons (mVar 4) (mCons (m2 gAdd (lv (mVar 4)) (lv (mp (.int 1)))) (mCons (m2 gAdd (lv (m2 gPow (lv (mp (.int 10))) (lv (mp (.int 59))))) (lv (mVar 4))) (mCons (vNeg (mVar 4)) (mp []))))))))) (lv (mRvD (mCallA F_law_take (aL 0 (aD (mp (.int 5)) (aNil))))))))
  (mSeq (mSet 7 (m2 gIx (lv (mFz (mLst (mCons (m2 gAdd (lv (mVar 3)) (lv (mp (.str "x")))) (mCons (mSl gSl (lv (mVar 3)) (mPart (mp (.int 1))) (mp none)) (mCons (mp (.str "zz")) (mCons (mp (.str "is")) (mCons (mp (.str "note")) (mp []))))))))) (lv (mRvD (mCallA F_law_take (aL 0 (aD (mp (.int 5)) (aNil))))))))
  (mRet (m2 gIx (lv (mFz (mLst (mCons (mTup (mCons (mVar 5) (mCons (mVar 3) (mCons (mVar 6) (mp []))))) (mCons (mTup (mCons (mVar 5) (mCons (mVar 7) (mCons (mp (.int 0)) (mp []))))) (mCons (mTup (mCons (mVar 5) (mCons (mVar 7) (mCons (mVar 6) (mp []))))) (mCons (mTup (mCons (mp (.str "not")) (mCons (mVar 2) (mp [])))) (mCons (mTup (mCons (mp (.str "not")) (mCons (mTup (mCons (mp (.str "not")) (mCons (mVar 2) (mp [])))) (mp [])))) (mCons (mTup (mCons (mp (.str "not")) (mCons (mTup (mCons (mVar 5) (mCons (mVar 3) (mCons (mp (.int 0)) (mp []))))) (mp [])))) (mCons (mTup (mCons (mp (.str "not")) (mCons (mTup (mCons (mp (.str "either")) (mCons (mTup (mCons (mp (.str "all")) (mp []))) (mCons (mTup (mCons (mp (.str "note")) (mp []))) (mp []))))) (mp [])))) (mCons (mTup (mCons (mp (.str "not")) (mCons (mTup (mCons (mp (.str "then")) (mCons (mTup (mCons (mp (.str "is")) (mCons (mVar 7) (mCons (mp (.int 0)) (mp []))))) (mCons (mTup (mCons (mp (.str "again")) (mCons (mTup (mCons (mp (.str "all")) (mp []))) (mp [])))) (mp []))))) (mp [])))) (mp [])))))))))))) (lv (mRvD (mCallA F_law_take (aL 0 (aD (mp (.int 8)) (aNil)))))))))))
-- slots: 0 _law_purse_here*, 1 _law_speech_here, 2 _law_saying_here, 3 _law_way
def m_law_spoiled (F_law_take : Fd) (F_law_spoiled : Fd) (F_law_strange : Fd) : M Out :=
  mSeq (mIfS (mAnd (mT (m2 hIn (lv (m2 gIx (lv (mVar 2)) (lv (mp (.int 0))))) (lv (mFz (mLst (mCons (mp (.str "not")) (mCons (mp (.str "again")) (mp [])))))))) (mT (m2 hLt (lv (mRvD (mCallA F_law_take (aL 0 (aD (mp (.int 4)) (aNil)))))) (lv (mp (.int 3)))))) (mRet (mTup (mCons (m2 gIx (lv (mVar 2)) (lv (mp (.int 0)))) (mCons (mRvD (mCallA F_law_spoiled (aL 0 (aD (mVar 1) (aD (m2 gIx (lv (mVar 2)) (lv (mp (.int 1)))) (aNil)))))) (mp []))))) (mp .nx))
  (mSeq (mIfS (mT (m2 hIn (lv (m2 gIx (lv (mVar 2)) (lv (mp (.int 0))))) (lv (mFz (mLst (mCons (mp (.str "either")) (mCons (mp (.str "then")) (mp [])))))))) (mSeq (mSet 3 (mRvD (mCallA F_law_take (aL 0 (aD (mp (.int 5)) (aNil))))))
  (mSeq (mIfS (mT (m2 hLt (lv (mVar 3)) (lv (mp (.int 2))))) (mRet (mTup (mCons (m2 gIx (lv (mVar 2)) (lv (mp (.int 0)))) (mCons (mRvD (mCallA F_law_spoiled (aL 0 (aD (mVar 1) (aD (m2 gIx (lv (mVar 2)) (lv (mp (.int 1)))) (aNil)))))) (mCons (m2 gIx (lv (mVar 2)) (lv (mp (.int 2)))) (mp [])))))) (mp .nx))
  (mIfS (mT (m2 hLt (lv (mVar 3)) (lv (mp (.int 4))))) (mRet (mTup (mCons (m2 gIx (lv (mVar 2)) (lv (mp (.int 0)))) (mCons (m2 gIx (lv (mVar 2)) (lv (mp (.int 1)))) (mCons (mRvD (mCallA F_law_spoiled (aL 0 (aD (mVar 1) (aD (m2 gIx (lv (mVar 2)) (lv (mp (.int 2)))) (aNil)))))) (mp [])))))) (mp .nx)))) (mp .nx))
  (mRet (mRvD (mCallA F_law_strange (aL 0 (aD (mVar 1) (aD (mVar 2) (aNil))))))))
-- slots: 0 _law_speech_here, 1 _law_saying_here, 2 _law_due_here, 3 _law_caught, 4 e, 5 _law_found
def m_law_good (A : Str → Addr) (F_law_due : Fd) (F_must_saying : Fd) : M Out :=
  mSeq (mSet 2 (mRvD (mCallA F_law_due (aD (mVar 0) (aD (mVar 1) (aNil))))))
  (mSeq (mSet 3 (mp .non))
  (mSeq (mTry A xcls 4 (mDrop (mRvD (mCallA F_must_saying (aD (mVar 0) (aD (mVar 1) (aNil)))))) (mSet 3 (mVar 4)))
  (mSeq (mIfS (mOr (mT (m2 hEq (lv (mVar 2)) (lv (mFz (mLst (mp [])))))) (mT (m2 gIsN (lv (mVar 3)) (lv (mp .non))))) (mRet (vAnd (m2 hEq (lv (mVar 2)) (lv (mFz (mLst (mp []))))) (vAnd (m2 gIsN (lv (mVar 3)) (lv (mp .non))) (m2 gIsN (lv (mRvD (mCallA F_must_saying (aD (mVar 0) (aD (mVar 1) (aNil)))))) (lv (mp .non)))))) (mp .nx))
  (mSeq (mIfS (mOr (mNot (mT (mIsX A (xsub "ValueError") (mVar 3)))) (mT (mIsX A (xsubs ["NoNet", "NoPlain", "TooGreat"]) (mVar 3)))) (mRet (mp (.bl false))) (mp .nx))
  (mSeq (mSet 5 (mFz (mLst (mCons (mIsX A (xsub "NoField") (mVar 3)) (mCons (mIsX A (xsub "NoValue") (mVar 3)) (mCons (mIsX A (xsub "NoTest") (mVar 3)) (mp [])))))))
  (mSeq (mIfS (mT (m2 hNe (lv (mVar 5)) (lv (mFz (mLst (mCons (m2 hEq (lv (m2 gIx (lv (mVar 2)) (lv (mp (.int 0))))) (lv (mp (.str "field")))) (mCons (m2 hEq (lv (m2 gIx (lv (mVar 2)) (lv (mp (.int 0))))) (lv (mp (.str "value")))) (mCons (m2 hEq (lv (m2 gIx (lv (mVar 2)) (lv (mp (.int 0))))) (lv (mp (.str "test")))) (mp []))))))))) (mRet (mp (.bl false))) (mp .nx))
  (mSeq (mIfS (mT (m2 hEq (lv (m2 gIx (lv (mVar 2)) (lv (mp (.int 0))))) (lv (mp (.str "field"))))) (mRet (m2 hEq (lv (mXf A (xfld "field") "field" (mVar 3))) (lv (m2 gIx (lv (mVar 2)) (lv (mp (.int 1))))))) (mp .nx))
  (mSeq (mIfS (mT (m2 hEq (lv (m2 gIx (lv (mVar 2)) (lv (mp (.int 0))))) (lv (mp (.str "value"))))) (mRet (m2 hEq (lv (mXf A (xfld "value") "value" (mVar 3))) (lv (m2 gIx (lv (mVar 2)) (lv (mp (.int 1))))))) (mp .nx))
  (mRet (m2 hEq (lv (mXf A (xfld "saying") "saying" (mVar 3))) (lv (m2 gIx (lv (mVar 2)) (lv (mp (.int 1)))))))))))))))
-- slots: 0 _law_script, 1 _law_speech_here, 2 _law_saying_here, 3 _law_cell_here, 4 _law_purse_here*, 5 _law_other
def m_law (F_law_speech : Fd) (F_law_cell : Fd) (F_law_saying : Fd) (F_law_good : Fd) (F_law_purse : Fd) (F_law_spoiled : Fd) : M Out :=
  mSeq (mSet 1 (mRvD (mCallA F_law_speech (aD (mRvD (mCallA F_law_cell (aD (mVar 0) (aD (mp (.int 0)) (aNil))))) (aD (mp (.int 1)) (aNil))))))
  (mSeq (mSet 2 (mRvD (mCallA F_law_saying (aD (mSl gSl (lv (mVar 0)) (mPart (mp (.int 20))) (mPart (mp (.int 42)))) (aD (mVar 1) (aD (mp (.int 1)) (aNil)))))))
  (mSeq (mIfS (mNot (mT (mRvD (mCallA F_law_good (aD (mVar 1) (aD (mVar 2) (aNil))))))) (mRet (mp (.bl false))) (mp .nx))
  (mSeq (mForS (itS (m2 gAdd (lv (mFz (mLst (mCons (mp (.int 1)) (mCons (mp (.int 3)) (mCons (mp (.int 8)) (mCons (mp (.int 30)) (mp [])))))))) (lv (mSl gSl (lv (mVar 0)) (mPart (mp (.int 1))) (mPart (mp (.int 20))))))) (gN 3) (mSeq (mSetO 4 (mRvO (mCallA F_law_purse (aD (mVar 3) (aNil)))))
  (mSeq (mSet 5 (mRvD (mCallA F_law_spoiled (aL 4 (aD (mVar 1) (aD (mVar 2) (aNil)))))))
  (mSeq (mIfS (mNot (mT (mRvD (mCallA F_law_good (aD (mVar 1) (aD (mVar 5) (aNil))))))) (mRet (mp (.bl false))) (mp .nx))
  (mIfS (mNot (mT (mRvD (mCallA F_law_good (aD (mVar 1) (aD (mRvD (mCallA F_law_spoiled (aL 4 (aD (mVar 1) (aD (mVar 5) (aNil)))))) (aNil))))))) (mRet (mp (.bl false))) (mp .nx))))))
  (mRet (mp (.bl true))))))
end K11
set_option maxRecDepth 100000
set_option maxHeartbeats 4000000
namespace Sw
open PySem PySem.Spec L2

/-! ### sayings of any words -/
def Say.Fine : Say → Prop
  | .is f _ => PySem.PyData.strOk f = true
  | .put f _ => PySem.PyData.strOk f = true
  | .no s => s.Fine
  | .ag s => s.Fine
  | .ei a b => a.Fine ∧ b.Fine
  | .th a b => a.Fine ∧ b.Fine
  | _ => True
theorem Say.Good.fine {sp : Sp} (N : ∀ q ∈ sp, PySem.PyData.strOk q.1 = true) : ∀ {s : Say}, s.Good sp → s.Fine
  | .non, _ => trivial
  | .all, _ => trivial
  | .note, _ => trivial
  | .is f v, h => by obtain ⟨q, hq, rfl, _⟩ := h; exact N q hq
  | .put f v, h => by obtain ⟨q, hq, rfl, _⟩ := h; exact N q hq
  | .no s, h => Say.Good.fine (s := s) N h.2
  | .ag s, h => Say.Good.fine (s := s) N h
  | .ei a b, h => ⟨Say.Good.fine (s := a) N h.1, Say.Good.fine (s := b) N h.2⟩
  | .th a b, h => ⟨Say.Good.fine (s := a) N h.1, Say.Good.fine (s := b) N h.2⟩
theorem Say.Fine.pl : ∀ {s : Say}, s.Fine → D.pl (enS s) = true
  | .non, _ => by decide +kernel
  | .all, _ => by decide +kernel
  | .note, _ => by decide +kernel
  | .is f v, h => by have h : PySem.PyData.strOk f = true := h; simp [enS, D.pl, Tag.pl, h]
  | .put f v, h => by have h : PySem.PyData.strOk f = true := h; simp [enS, D.pl, Tag.pl, h]
  | .no s, h => by have := Say.Fine.pl (s := s) h; simp [enS, D.pl, Tag.pl, this]
  | .ag s, h => by have := Say.Fine.pl (s := s) h; simp [enS, D.pl, Tag.pl, this]
  | .ei a b, h => by have h1 := Say.Fine.pl (s := a) h.1; have h2 := Say.Fine.pl (s := b) h.2; simp [enS, D.pl, Tag.pl, h1, h2]
  | .th a b, h => by have h1 := Say.Fine.pl (s := a) h.1; have h2 := Say.Fine.pl (s := b) h.2; simp [enS, D.pl, Tag.pl, h1, h2]
theorem dp_enS : ∀ s : Say, D.dp (enS s) = s.dep + 1
  | .non => rfl
  | .all => rfl
  | .note => rfl
  | .is _ _ => rfl
  | .put _ _ => rfl
  | .no s => by simp [enS, Say.dep, dp_enS s]
  | .ag s => by simp [enS, Say.dep, dp_enS s]
  | .ei a b => by simp [enS, Say.dep, dp_enS a, dp_enS b]
  | .th a b => by simp [enS, Say.dep, dp_enS a, dp_enS b]
/-- what is due, from left to right -/
def Say.due (sp : Sp) : Say → Option Du
  | .is f v => mvDu sp f v
  | .put f v => mvDu sp f v
  | .no s => if s.isT = true then s.due sp else some (.tst (enS s))
  | .ag s => s.due sp
  | .ei a b => (a.due sp).or (b.due sp)
  | .th a b => (a.due sp).or (b.due sp)
  | _ => none
/-- none, or the error -/
def outDu (A : Str → Addr) (o : Option Du) (c : Ctx) : Rs Rv := match o with
  | none => .ok (.d .non) c
  | some du => .er (du.ex A) c
def fMustS (A : Str → Addr) : Nat → Fd
  | 0 => fun _ => .stk
  | k + 1 => fnM 3 (K11.m_must_saying A (fMust A) (fIsTest 70) (fMustS A k) fInside)
@[simp] theorem gIx_no1 {s : Say} : gIx (enS (.no s)) (.int 1) = some (enS s) := rfl
@[simp] theorem gIx_ag1 {s : Say} : gIx (enS (.ag s)) (.int 1) = some (enS s) := rfl
@[simp] theorem gIx_is1 {f : Str} {v : Int} : gIx (enS (.is f v)) (.int 1) = some (.str f) := rfl
@[simp] theorem gIx_is2 {f : Str} {v : Int} : gIx (enS (.is f v)) (.int 2) = some (.int v) := rfl
@[simp] theorem gIx_put1 {f : Str} {v : Int} : gIx (enS (.put f v)) (.int 1) = some (.str f) := rfl
@[simp] theorem gIx_put2 {f : Str} {v : Int} : gIx (enS (.put f v)) (.int 2) = some (.int v) := rfl
theorem mustS_run (A : Str → Addr) {sp : Sp} (N : SpN sp) : ∀ (k : Nat) (s : Say), s.Fine → s.dep < k → s.dep < 70 → ∃ c, fMustS A k [.d (enSp sp), .d (enS s)] = outDu A (s.due sp) c
  | 0, s, _, h, _ => by omega
  | k + 1, s, hf, h, h70 => by
    obtain ⟨ci, ei⟩ := inside_run s
    show ∃ c, fnM 3 (K11.m_must_saying A (fMust A) (fIsTest 70) (fMustS A k) fInside) _ = _
    rw [fnM_r]
    unfold K11.m_must_saying
    cases s with
    | non => exact ⟨[.d (enSp sp), .d (enS .non), .no], by simp [ei, hIn_t, hEq_s, Say.tag, Say.kids, Say.due, outDu]⟩
    | all => exact ⟨[.d (enSp sp), .d (enS .all), .no], by simp [ei, hIn_t, hEq_s, Say.tag, Say.kids, Say.due, outDu]⟩
    | note => exact ⟨[.d (enSp sp), .d (enS .note), .no], by simp [ei, hIn_t, hEq_s, Say.tag, Say.kids, Say.due, outDu]⟩
    | is f v =>
      rcases must_run A N hf v with ⟨h1, i, q, c1, h2, h3, h4, h5, e1⟩ | ⟨du, c1, h1, e1⟩
      · exact ⟨[.d (enSp sp), .d (enS (.is f v)), .no], by simp [ei, hIn_t, hEq_s, Say.tag, Say.kids, Say.due, outDu, h1, e1]⟩
      · exact ⟨[.d (enSp sp), .d (enS (.is f v)), .no], by simp [ei, hIn_t, hEq_s, Say.tag, Say.kids, Say.due, outDu, h1, e1]⟩
    | put f v =>
      rcases must_run A N hf v with ⟨h1, i, q, c1, h2, h3, h4, h5, e1⟩ | ⟨du, c1, h1, e1⟩
      · exact ⟨[.d (enSp sp), .d (enS (.put f v)), .no], by simp [ei, hIn_t, hEq_s, Say.tag, Say.kids, Say.due, outDu, h1, e1]⟩
      · exact ⟨[.d (enSp sp), .d (enS (.put f v)), .no], by simp [ei, hIn_t, hEq_s, Say.tag, Say.kids, Say.due, outDu, h1, e1]⟩
    | no s =>
      have hd : s.dep < k := by simp [Say.dep] at h; omega
      have hd7 : s.dep < 70 := by simp [Say.dep] at h70; omega
      obtain ⟨ct, et⟩ := isTest_run 70 s hd7
      obtain ⟨c1, e1⟩ := mustS_run A N k s hf hd hd7
      cases ht : s.isT with
      | false =>
        rw [ht] at et
        exact ⟨[.d (enSp sp), .d (enS (.no s)), .no], by simp [hIn_t, hEq_s, Say.tag, Say.due, outDu, et, ht, Du.ex]⟩
      | true =>
        rw [ht] at et
        cases hs : s.due sp with
        | none =>
          rw [hs] at e1
          unfold outDu at e1
          exact ⟨[.d (enSp sp), .d (enS (.no s)), .d (enS s)], by simp [ei, hIn_t, hEq_s, Say.tag, Say.kids, Say.due, outDu, et, ht, hs, mFor_cons, e1]⟩
        | some du =>
          rw [hs] at e1
          unfold outDu at e1
          exact ⟨[.d (enSp sp), .d (enS (.no s)), .d (enS s)], by simp [ei, hIn_t, hEq_s, Say.tag, Say.kids, Say.due, outDu, et, ht, hs, mFor_cons, e1]⟩
    | ag s =>
      have hd : s.dep < k := by simp [Say.dep] at h; omega
      have hd7 : s.dep < 70 := by simp [Say.dep] at h70; omega
      obtain ⟨c1, e1⟩ := mustS_run A N k s hf hd hd7
      cases hs : s.due sp with
      | none =>
        rw [hs] at e1
        unfold outDu at e1
        exact ⟨[.d (enSp sp), .d (enS (.ag s)), .d (enS s)], by simp [ei, hIn_t, hEq_s, Say.tag, Say.kids, Say.due, outDu, hs, mFor_cons, e1]⟩
      | some du =>
        rw [hs] at e1
        unfold outDu at e1
        exact ⟨[.d (enSp sp), .d (enS (.ag s)), .d (enS s)], by simp [ei, hIn_t, hEq_s, Say.tag, Say.kids, Say.due, outDu, hs, mFor_cons, e1]⟩
    | ei a b =>
      have ha : a.dep < k := by simp [Say.dep] at h; omega
      have ha7 : a.dep < 70 := by simp [Say.dep] at h70; omega
      have hb : b.dep < k := by simp [Say.dep] at h; omega
      have hb7 : b.dep < 70 := by simp [Say.dep] at h70; omega
      obtain ⟨c1, e1⟩ := mustS_run A N k a hf.1 ha ha7
      obtain ⟨c2, e2⟩ := mustS_run A N k b hf.2 hb hb7
      cases hs : a.due sp with
      | some du =>
        rw [hs] at e1
        unfold outDu at e1
        exact ⟨[.d (enSp sp), .d (enS (.ei a b)), .d (enS a)], by simp [ei, hIn_t, hEq_s, Say.tag, Say.kids, Say.due, outDu, hs, mFor_cons, e1]⟩
      | none =>
        rw [hs] at e1
        unfold outDu at e1 e2
        cases hs2 : b.due sp with
        | none =>
          rw [hs2] at e2
          exact ⟨[.d (enSp sp), .d (enS (.ei a b)), .d (enS b)], by simp [ei, hIn_t, hEq_s, Say.tag, Say.kids, Say.due, outDu, hs, hs2, mFor_cons, e1, e2]⟩
        | some du =>
          rw [hs2] at e2
          exact ⟨[.d (enSp sp), .d (enS (.ei a b)), .d (enS b)], by simp [ei, hIn_t, hEq_s, Say.tag, Say.kids, Say.due, outDu, hs, hs2, mFor_cons, e1, e2]⟩
    | th a b =>
      have ha : a.dep < k := by simp [Say.dep] at h; omega
      have ha7 : a.dep < 70 := by simp [Say.dep] at h70; omega
      have hb : b.dep < k := by simp [Say.dep] at h; omega
      have hb7 : b.dep < 70 := by simp [Say.dep] at h70; omega
      obtain ⟨c1, e1⟩ := mustS_run A N k a hf.1 ha ha7
      obtain ⟨c2, e2⟩ := mustS_run A N k b hf.2 hb hb7
      cases hs : a.due sp with
      | some du =>
        rw [hs] at e1
        unfold outDu at e1
        exact ⟨[.d (enSp sp), .d (enS (.th a b)), .d (enS a)], by simp [ei, hIn_t, hEq_s, Say.tag, Say.kids, Say.due, outDu, hs, mFor_cons, e1]⟩
      | none =>
        rw [hs] at e1
        unfold outDu at e1 e2
        cases hs2 : b.due sp with
        | none =>
          rw [hs2] at e2
          exact ⟨[.d (enSp sp), .d (enS (.th a b)), .d (enS b)], by simp [ei, hIn_t, hEq_s, Say.tag, Say.kids, Say.due, outDu, hs, hs2, mFor_cons, e1, e2]⟩
        | some du =>
          rw [hs2] at e2
          exact ⟨[.d (enSp sp), .d (enS (.th a b)), .d (enS b)], by simp [ei, hIn_t, hEq_s, Say.tag, Say.kids, Say.due, outDu, hs, hs2, mFor_cons, e1, e2]⟩
end Sw
set_option maxRecDepth 100000
set_option maxHeartbeats 4000000
namespace Sw
open PySem PySem.Spec L2

/-! ### the law's own looking through -/
@[simp] theorem sl_no {s : Say} : gSl (enS (.no s)) (some 1) none = some (.nd .tup ([s].map enS)) := by
  show some (D.nd .tup (cutD [.str "not", enS s] (some ((1 : Nat) : Int)) none)) = _
  rw [cutD_from]; rfl
@[simp] theorem sl_ag {s : Say} : gSl (enS (.ag s)) (some 1) none = some (.nd .tup ([s].map enS)) := by
  show some (D.nd .tup (cutD [.str "again", enS s] (some ((1 : Nat) : Int)) none)) = _
  rw [cutD_from]; rfl
@[simp] theorem sl_ei {a b : Say} : gSl (enS (.ei a b)) (some 1) none = some (.nd .tup ([a, b].map enS)) := by
  show some (D.nd .tup (cutD [.str "either", enS a, enS b] (some ((1 : Nat) : Int)) none)) = _
  rw [cutD_from]; rfl
@[simp] theorem sl_th {a b : Say} : gSl (enS (.th a b)) (some 1) none = some (.nd .tup ([a, b].map enS)) := by
  show some (D.nd .tup (cutD [.str "then", enS a, enS b] (some ((1 : Nat) : Int)) none)) = _
  rw [cutD_from]; rfl
def fLTest : Nat → Fd
  | 0 => fun _ => .stk
  | k + 1 => fnM 2 (K11.m_law_is_test (fLTest k))
theorem ltest_lc {k : Nat} {x : D} {ks : List Say} {mi : M (List D)} (hi : mi [.d x, .no] = .ok (ks.map enS) [.d x, .no]) (hk : ∀ t ∈ ks, ∃ c, fLTest k [.d (enS t)] = .ok (.d (.bl t.isT)) c) (hl : ks.length ≤ 2) :
    mLc [1] mi (gN 1) (mNot (mT (mRvD (mCallA (fLTest k) (aD (mVar 1) aNil))))) (mVar 1) [.d x, .no] = .ok (.lst ((ks.filter fun t => !t.isT).map enS)) [.d x, .no] :=
  mLc_if (enc := enS) (fun t : Say => !t.isT) enS ks hi (fun t ht => by
    obtain ⟨c, e⟩ := hk t ht
    exact ⟨[.d x, .d (enS t)], [.d x, .d (enS t)], by simp, by simp [e], by simp, fun _ => ⟨[.d x, .d (enS t)], by simp, by simp⟩⟩) (by omega)
theorem ltest_run : ∀ (k : Nat) (s : Say), s.dep < k → ∃ c, fLTest k [.d (enS s)] = .ok (.d (.bl s.isT)) c
  | 0, s, h => by omega
  | k + 1, s, h => by
    show ∃ c, fnM 2 (K11.m_law_is_test (fLTest k)) _ = _
    rw [fnM_r]
    unfold K11.m_law_is_test
    refine ⟨[.d (enS s), .no], ?_⟩
    cases s with
    | non => simp [hIn_l, Say.tag, Say.isT]
    | all => simp [hIn_l, Say.tag, Say.isT]
    | note => simp [hIn_l, Say.tag, Say.isT]
    | is f v => simp [hIn_l, Say.tag, Say.isT]
    | put f v => simp [hIn_l, Say.tag, Say.isT]
    | no s =>
      have el := ltest_lc (k := k) (x := enS (.no s)) (ks := [s]) (mi := itS (mSl gSl (lv (mVar 0)) (mPart (mp (.int 1))) (mp none))) (by simp) (fun t ht => ltest_run k t (by rw [List.mem_singleton.mp ht]; simp [Say.dep] at h; omega)) (by simp)
      cases ht : s.isT <;> simp [el, hIn_l, Say.tag, Say.isT, ht]
    | ag s => simp [hIn_l, Say.tag, Say.isT]
    | ei a b =>
      have el := ltest_lc (k := k) (x := enS (.ei a b)) (ks := [a, b]) (mi := itS (mSl gSl (lv (mVar 0)) (mPart (mp (.int 1))) (mp none))) (by simp) (fun t ht => ltest_run k t (by simp at ht; simp [Say.dep] at h; rcases ht with rfl | rfl <;> omega)) (by simp)
      cases ha : a.isT <;> cases hb : b.isT <;> simp [el, hIn_l, Say.tag, Say.isT, ha, hb]
    | th a b =>
      have el := ltest_lc (k := k) (x := enS (.th a b)) (ks := [a, b]) (mi := itS (mSl gSl (lv (mVar 0)) (mPart (mp (.int 1))) (mp none))) (by simp) (fun t ht => ltest_run k t (by simp at ht; simp [Say.dep] at h; rcases ht with rfl | rfl <;> omega)) (by simp)
      cases ha : a.isT <;> cases hb : b.isT <;> simp [el, hIn_l, Say.tag, Say.isT, ha, hb]
/-! what is due, as a list -/
def enDu : Option Du → D
  | none => .nd .lst []
  | some (.fld f) => .nd .lst [.str "field", .str f]
  | some (.val v) => .nd .lst [.str "value", .int v]
  | some (.tst d) => .nd .lst [.str "test", d]
  | some (.pln d) => .nd .lst [.str "plain", d]
  | some .net => .nd .lst [.str "net", .non]
theorem due_cases {sp : Sp} : ∀ {s : Say} {du : Du}, s.Fine → s.due sp = some du → (∃ f, du = .fld f ∧ PySem.PyData.strOk f = true) ∨ (∃ v, du = .val v) ∨ ∃ t : Say, du = .tst (enS t) ∧ t.Fine ∧ t.dep ≤ s.dep
  | .non, _, _, h => by cases h
  | .all, _, _, h => by cases h
  | .note, _, _, h => by cases h
  | .is f v, du, hf, h => by
    have h : mvDu sp f v = some du := h
    unfold mvDu at h
    split at h
    · cases h; exact .inl ⟨f, rfl, hf⟩
    · split at h
      · cases h
      · cases h; exact .inr (.inl ⟨v, rfl⟩)
  | .put f v, du, hf, h => by
    have h : mvDu sp f v = some du := h
    unfold mvDu at h
    split at h
    · cases h; exact .inl ⟨f, rfl, hf⟩
    · split at h
      · cases h
      · cases h; exact .inr (.inl ⟨v, rfl⟩)
  | .no s, du, hf, h => by
    have h : (if s.isT = true then s.due sp else some (.tst (enS s))) = some du := h
    split at h
    · rcases due_cases (s := s) hf h with q | q | ⟨t, q1, q2, q3⟩
      · exact .inl q
      · exact .inr (.inl q)
      · exact .inr (.inr ⟨t, q1, q2, by show t.dep ≤ s.dep + 1; omega⟩)
    · cases h; exact .inr (.inr ⟨s, rfl, hf, by show s.dep ≤ s.dep + 1; omega⟩)
  | .ag s, du, hf, h => by
    rcases due_cases (s := s) hf h with q | q | ⟨t, q1, q2, q3⟩
    · exact .inl q
    · exact .inr (.inl q)
    · exact .inr (.inr ⟨t, q1, q2, by show t.dep ≤ s.dep + 1; omega⟩)
  | .ei a b, du, hf, h => by
    have h : (a.due sp).or (b.due sp) = some du := h
    rcases Option.or_eq_some_iff.mp h with h | ⟨_, h⟩
    · rcases due_cases (s := a) hf.1 h with q | q | ⟨t, q1, q2, q3⟩
      · exact .inl q
      · exact .inr (.inl q)
      · exact .inr (.inr ⟨t, q1, q2, by show t.dep ≤ max a.dep b.dep + 1; omega⟩)
    · rcases due_cases (s := b) hf.2 h with q | q | ⟨t, q1, q2, q3⟩
      · exact .inl q
      · exact .inr (.inl q)
      · exact .inr (.inr ⟨t, q1, q2, by show t.dep ≤ max a.dep b.dep + 1; omega⟩)
  | .th a b, du, hf, h => by
    have h : (a.due sp).or (b.due sp) = some du := h
    rcases Option.or_eq_some_iff.mp h with h | ⟨_, h⟩
    · rcases due_cases (s := a) hf.1 h with q | q | ⟨t, q1, q2, q3⟩
      · exact .inl q
      · exact .inr (.inl q)
      · exact .inr (.inr ⟨t, q1, q2, by show t.dep ≤ max a.dep b.dep + 1; omega⟩)
    · rcases due_cases (s := b) hf.2 h with q | q | ⟨t, q1, q2, q3⟩
      · exact .inl q
      · exact .inr (.inl q)
      · exact .inr (.inr ⟨t, q1, q2, by show t.dep ≤ max a.dep b.dep + 1; omega⟩)
theorem eq_nil {f : Bool → Bool} {x : D} {xs : List D} (h : D.pls (x :: xs) = true) : gEqN f (.nd .lst (x :: xs)) (.nd .lst []) = some (.bl (f false)) := by
  rw [gEqN_pl (x := .nd .lst (x :: xs)) (y := .nd .lst []) (by show (Tag.pl .lst && _) = true; rw [h]; rfl) rfl (by simp [D.dp])]
  simp
theorem eq_nn {f : Bool → Bool} : gEqN f (.nd .lst []) (.nd .lst []) = some (.bl (f true)) := by
  rw [gEqN_pl (x := .nd .lst []) (y := .nd .lst []) rfl rfl (by simp [D.dp])]
  simp
theorem enDu_pl {sp : Sp} {s : Say} {du : Du} (hf : s.Fine) (h : s.due sp = some du) {f : Bool → Bool} : gEqN f (enDu (some du)) (.nd .lst []) = some (.bl (f false)) := by
  rcases due_cases hf h with ⟨g, rfl, hg⟩ | ⟨v, rfl⟩ | ⟨t, rfl, ht, _⟩
  · exact eq_nil (by simp [D.pl, hg])
  · exact eq_nil (by simp [D.pl])
  · exact eq_nil (by simp [ht.pl])
theorem filt_fi (f : Str) : ∀ sp : Sp, match fi sp f with
    | none => (sp.filter fun q => decide (q.1 = f)) = []
    | some i => ∃ r, (sp.filter fun q => decide (q.1 = f)) = sp.getD i ("", 0) :: r
  | [] => rfl
  | q :: t => by
    rw [fi_cons, List.filter_cons]
    by_cases h : q.1 = f
    · rw [if_pos h]
      exact ⟨t.filter fun q => decide (q.1 = f), by simp [h]⟩
    · rw [if_neg h]
      have ih := filt_fi f t
      have hd : decide (q.1 = f) = false := decide_eq_false h
      rw [hd, if_neg Bool.false_ne_true]
      cases e : fi t f with
      | none => rw [e] at ih; exact ih
      | some i =>
        rw [e] at ih
        exact ih
def fDue : Nat → Fd
  | 0 => fun _ => .stk
  | k + 1 => fnM 8 (K11.m_law_due (fLTest 70) (fDue k))
theorem counts_run {sp : Sp} (N : SpN sp) {f : Str} (hf : PySem.PyData.strOk f = true) {S : D} {s2 : Sv} (hS : gIx S (.int 1) = some (.str f)) :
    mLc [6, 7] (itS (mVar 0)) (gS 2 (gCons' (gN 6) (gCons' (gN 7) (gNil')))) (mT (m2 hEq (lv (mVar 6)) (lv (m2 gIx (lv (mVar 1)) (lv (mp (.int 1))))))) (mVar 7) [.d (enSp sp), .d S, s2, .no, .no, .no, .no, .no] =
      .ok (.lst ((sp.filter fun q => decide (q.1 = f)).map fun q => .int q.2)) [.d (enSp sp), .d S, s2, .no, .no, .no, .no, .no] := by
  have hi : itS (mVar 0) [.d (enSp sp), .d S, s2, .no, .no, .no, .no, .no] = .ok (sp.map enF) [.d (enSp sp), .d S, s2, .no, .no, .no, .no, .no] := rfl
  exact mLc_if (fun q : Str × Int => decide (q.1 = f)) (fun q => D.int q.2) sp hi (fun q hq => by
    have e := hEq_s (f := id) (N.nm q hq) hf
    exact ⟨[.d (enSp sp), .d S, s2, .no, .no, .no, .d (.str q.1), .d (.int q.2)], [.d (enSp sp), .d S, s2, .no, .no, .no, .d (.str q.1), .d (.int q.2)], by simp [enF], by simp [hS, e], by simp, fun _ => ⟨[.d (enSp sp), .d S, s2, .no, .no, .no, .d (.str q.1), .d (.int q.2)], by simp, by simp⟩⟩) (by have := N.len; omega)
theorem pls_ints2 (l : List (Str × Int)) : D.pls (l.map fun q => D.int q.2) = true := by
  induction l with
  | nil => rfl
  | cons q t ih => rw [List.map_cons, pls_cons, ih]; rfl
/-- an is or a put -/
theorem due_isput {sp : Sp} (N : SpN sp) {f : Str} {v : Int} (hf : PySem.PyData.strOk f = true) {s : Say} (hs : s = .is f v ∨ s = .put f v) (k : Nat) : ∃ c, fDue (k + 1) [.d (enSp sp), .d (enS s)] = .ok (.d (enDu (mvDu sp f v))) c := by
  show ∃ c, fnM 8 (K11.m_law_due (fLTest 70) (fDue k)) _ = _
  rw [fnM_r]
  unfold K11.m_law_due
  have h1 : gIx (enS s) (.int 1) = some (.str f) := by rcases hs with rfl | rfl <;> rfl
  have h2 : gIx (enS s) (.int 2) = some (.int v) := by rcases hs with rfl | rfl <;> rfl
  have el := counts_run N hf (S := enS s) (s2 := .d (.str s.tag)) h1
  have ff := filt_fi f sp
  have ht : gEqN id (.str s.tag) (.str "is") = some (.bl true) ∨ (gEqN id (.str s.tag) (.str "is") = some (.bl false) ∧ gEqN id (.str s.tag) (.str "put") = some (.bl true)) := by
    rcases hs with rfl | rfl
    · exact .inl (by simp [hEq_s, Say.tag])
    · exact .inr ⟨by simp [hEq_s, Say.tag], by simp [hEq_s, Say.tag]⟩
  unfold mvDu
  cases hfi : fi sp f with
  | none =>
    rw [hfi] at ff
    simp only at ff
    rw [ff, List.map_nil] at el
    refine ⟨[.d (enSp sp), .d (enS s), .d (.str s.tag), .d (.nd .lst []), .no, .no, .no, .no], ?_⟩
    have en : D.nd .lst [.str "field", .str f] = enDu (some (.fld f)) := rfl
    rcases ht with e2 | ⟨e2, e3⟩
    · simp [e2, el, eq_nn, h1, en]
    · simp [e2, e3, el, eq_nn, h1, en]
  | some i =>
    rw [hfi] at ff
    obtain ⟨r, hr⟩ := ff
    obtain ⟨q, hq⟩ : ∃ q, sp.getD i ("", 0) = q := ⟨_, rfl⟩
    simp only [hq]
    rw [hr, hq, List.map_cons] at el
    have ne := eq_nil (f := id) (x := .int q.2) (xs := r.map fun q => .int q.2) (by rw [pls_cons, pls_ints2]; rfl)
    have x0 : gIx (.nd .lst (.int q.2 :: r.map fun q => .int q.2)) (.int 0) = some (.int q.2) := by
      show L2.atI _ _ = _
      rw [atI_pos (by omega)]
      rfl
    have a1 : L2.atI [D.nd .lst [.str "value", .int v], .nd .lst []] 1 = some (.nd .lst []) := rfl
    have a0 : L2.atI [D.nd .lst [.str "value", .int v], .nd .lst []] 0 = some (.nd .lst [.str "value", .int v]) := rfl
    have en0 : D.nd .lst [.str "value", .int v] = enDu (some (.val v)) := rfl
    have en1 : D.nd .lst [] = enDu none := rfl
    refine ⟨[.d (enSp sp), .d (enS s), .d (.str s.tag), .d (.nd .lst (.int q.2 :: r.map fun q => .int q.2)), .no, .no, .no, .no], ?_⟩
    by_cases h0 : 0 ≤ v
    · by_cases h5 : v < q.2
      · rcases ht with e2 | ⟨e2, e3⟩
        · simp [e2, el, ne, h2, x0, h0, h5, a1, enDu]
        · simp [e2, e3, el, ne, h2, x0, h0, h5, a1, enDu]
      · rcases ht with e2 | ⟨e2, e3⟩
        · simp [e2, el, ne, h2, x0, h0, h5, a0, enDu]
        · simp [e2, e3, el, ne, h2, x0, h0, h5, a0, enDu]
    · rcases ht with e2 | ⟨e2, e3⟩
      · simp [e2, el, ne, h2, x0, h0, a0, enDu]
      · simp [e2, e3, el, ne, h2, x0, h0, a0, enDu]
end Sw
set_option maxRecDepth 100000
set_option maxHeartbeats 4000000
namespace Sw
open PySem PySem.Spec L2

theorem due_run {sp : Sp} (N : SpN sp) : ∀ (k : Nat) (s : Say), s.Fine → s.dep < k → s.dep < 70 → ∃ c, fDue k [.d (enSp sp), .d (enS s)] = .ok (.d (enDu (s.due sp))) c
  | 0, s, _, h, _ => by omega
  | k + 1, s, hf, h, h70 => by
    have e0 : D.nd .lst [] = enDu none := rfl
    have one : ∀ t : Say, t.Fine → t.dep < k → t.dep < 70 → (t.due sp = none ∧ ∃ c, fDue k [.d (enSp sp), .d (enS t)] = .ok (.d (.nd .lst [])) c) ∨ ∃ du c, t.due sp = some du ∧ fDue k [.d (enSp sp), .d (enS t)] = .ok (.d (enDu (some du))) c ∧ gEqN not (enDu (some du)) (.nd .lst []) = some (.bl true) := by
      intro t f1 f2 f3
      obtain ⟨c, e⟩ := due_run N k t f1 f2 f3
      cases hd : t.due sp with
      | none => rw [hd] at e; exact .inl ⟨rfl, c, e⟩
      | some du => rw [hd] at e; exact .inr ⟨du, c, rfl, e, enDu_pl f1 hd⟩
    have nn : gEqN not (.nd .lst []) (.nd .lst []) = some (.bl false) := eq_nn
    cases s with
    | is f v => exact due_isput N hf (.inl rfl) k
    | put f v => exact due_isput N hf (.inr rfl) k
    | non =>
      show ∃ c, fnM 8 (K11.m_law_due (fLTest 70) (fDue k)) _ = _
      rw [fnM_r]
      unfold K11.m_law_due
      exact ⟨[.d (enSp sp), .d (enS .non), .d (.str "none"), .no, .no, .no, .no, .no], by simp [hIn_l, hEq_s, Say.tag, Say.due, e0]⟩
    | all =>
      show ∃ c, fnM 8 (K11.m_law_due (fLTest 70) (fDue k)) _ = _
      rw [fnM_r]
      unfold K11.m_law_due
      exact ⟨[.d (enSp sp), .d (enS .all), .d (.str "all"), .no, .no, .no, .no, .no], by simp [hIn_l, hEq_s, Say.tag, Say.due, e0]⟩
    | note =>
      show ∃ c, fnM 8 (K11.m_law_due (fLTest 70) (fDue k)) _ = _
      rw [fnM_r]
      unfold K11.m_law_due
      exact ⟨[.d (enSp sp), .d (enS .note), .d (.str "note"), .no, .no, .no, .no, .no], by simp [hIn_l, hEq_s, Say.tag, Say.due, e0]⟩
    | no s =>
      have hd : s.dep < k := by simp [Say.dep] at h; omega
      have hd7 : s.dep < 70 := by simp [Say.dep] at h70; omega
      obtain ⟨ct, et⟩ := ltest_run 70 s hd7
      show ∃ c, fnM 8 (K11.m_law_due (fLTest 70) (fDue k)) _ = _
      rw [fnM_r]
      unfold K11.m_law_due
      cases ht : s.isT with
      | false =>
        rw [ht] at et
        exact ⟨[.d (enSp sp), .d (enS (.no s)), .d (.str "not"), .no, .no, .no, .no, .no], by simp [hIn_l, hEq_s, Say.tag, Say.due, et, ht, enDu]⟩
      | true =>
        rw [ht] at et
        rcases one s hf hd hd7 with ⟨q, c1, e1⟩ | ⟨du, c1, q, e1, e2⟩
        · exact ⟨[.d (enSp sp), .d (enS (.no s)), .d (.str "not"), .no, .d (enS s), .d (.nd .lst []), .no, .no], by simp [hIn_l, hEq_s, Say.tag, Say.due, et, ht, q, mFor_cons, e1, nn, enDu]⟩
        · exact ⟨[.d (enSp sp), .d (enS (.no s)), .d (.str "not"), .no, .d (enS s), .d (enDu (some du)), .no, .no], by simp [hIn_l, hEq_s, Say.tag, Say.due, et, ht, q, mFor_cons, e1, e2]⟩
    | ag s =>
      have hd : s.dep < k := by simp [Say.dep] at h; omega
      have hd7 : s.dep < 70 := by simp [Say.dep] at h70; omega
      show ∃ c, fnM 8 (K11.m_law_due (fLTest 70) (fDue k)) _ = _
      rw [fnM_r]
      unfold K11.m_law_due
      rcases one s hf hd hd7 with ⟨q, c1, e1⟩ | ⟨du, c1, q, e1, e2⟩
      · exact ⟨[.d (enSp sp), .d (enS (.ag s)), .d (.str "again"), .no, .d (enS s), .d (.nd .lst []), .no, .no], by simp [hIn_l, hEq_s, Say.tag, Say.due, q, mFor_cons, e1, nn, enDu]⟩
      · exact ⟨[.d (enSp sp), .d (enS (.ag s)), .d (.str "again"), .no, .d (enS s), .d (enDu (some du)), .no, .no], by simp [hIn_l, hEq_s, Say.tag, Say.due, q, mFor_cons, e1, e2]⟩
    | ei a b =>
      have ha : a.dep < k := by simp [Say.dep] at h; omega
      have ha7 : a.dep < 70 := by simp [Say.dep] at h70; omega
      have hb : b.dep < k := by simp [Say.dep] at h; omega
      have hb7 : b.dep < 70 := by simp [Say.dep] at h70; omega
      show ∃ c, fnM 8 (K11.m_law_due (fLTest 70) (fDue k)) _ = _
      rw [fnM_r]
      unfold K11.m_law_due
      rcases one a hf.1 ha ha7 with ⟨q, c1, e1⟩ | ⟨du, c1, q, e1, e2⟩
      · rcases one b hf.2 hb hb7 with ⟨q', c2, e3⟩ | ⟨du, c2, q', e3, e4⟩
        · exact ⟨[.d (enSp sp), .d (enS (.ei a b)), .d (.str "either"), .no, .d (enS b), .d (.nd .lst []), .no, .no], by simp [hIn_l, hEq_s, Say.tag, Say.due, q, q', mFor_cons, e1, e3, nn, enDu]⟩
        · exact ⟨[.d (enSp sp), .d (enS (.ei a b)), .d (.str "either"), .no, .d (enS b), .d (enDu (some du)), .no, .no], by simp [hIn_l, hEq_s, Say.tag, Say.due, q, q', mFor_cons, e1, e3, e4, nn]⟩
      · exact ⟨[.d (enSp sp), .d (enS (.ei a b)), .d (.str "either"), .no, .d (enS a), .d (enDu (some du)), .no, .no], by simp [hIn_l, hEq_s, Say.tag, Say.due, q, mFor_cons, e1, e2]⟩
    | th a b =>
      have ha : a.dep < k := by simp [Say.dep] at h; omega
      have ha7 : a.dep < 70 := by simp [Say.dep] at h70; omega
      have hb : b.dep < k := by simp [Say.dep] at h; omega
      have hb7 : b.dep < 70 := by simp [Say.dep] at h70; omega
      show ∃ c, fnM 8 (K11.m_law_due (fLTest 70) (fDue k)) _ = _
      rw [fnM_r]
      unfold K11.m_law_due
      rcases one a hf.1 ha ha7 with ⟨q, c1, e1⟩ | ⟨du, c1, q, e1, e2⟩
      · rcases one b hf.2 hb hb7 with ⟨q', c2, e3⟩ | ⟨du, c2, q', e3, e4⟩
        · exact ⟨[.d (enSp sp), .d (enS (.th a b)), .d (.str "then"), .no, .d (enS b), .d (.nd .lst []), .no, .no], by simp [hIn_l, hEq_s, Say.tag, Say.due, q, q', mFor_cons, e1, e3, nn, enDu]⟩
        · exact ⟨[.d (enSp sp), .d (enS (.th a b)), .d (.str "then"), .no, .d (enS b), .d (enDu (some du)), .no, .no], by simp [hIn_l, hEq_s, Say.tag, Say.due, q, q', mFor_cons, e1, e3, e4, nn]⟩
      · exact ⟨[.d (enSp sp), .d (enS (.th a b)), .d (.str "then"), .no, .d (enS a), .d (enDu (some du)), .no, .no], by simp [hIn_l, hEq_s, Say.tag, Say.due, q, mFor_cons, e1, e2]⟩

/-! ### is it good -/
def fGood11 (A : Str → Addr) : Fd := fnM 6 (K11.m_law_good A (fDue 70) (fMustS A 70))
theorem gIsN_exc' {A : Str → Addr} {du : Du} : gIsN (excD (du.ex A)) .non = some (.bl false) := by cases du <;> rfl
theorem ne_b3 (a b c : Bool) : gEqN not (.nd .lst [.bl a, .bl b, .bl c]) (.nd .lst [.bl a, .bl b, .bl c]) = some (.bl false) := by
  cases a <;> cases b <;> cases c <;> rfl
theorem good11_run (A : Str → Addr) {sp : Sp} (N : SpN sp) {s : Say} (hf : s.Fine) (h70 : s.dep < 70) : ∃ c, fGood11 A [.d (enSp sp), .d (enS s)] = .ok (.d (.bl true)) c := by
  obtain ⟨c1, e1⟩ := due_run N 70 s hf h70 h70
  obtain ⟨c2, e2⟩ := mustS_run A N 70 s hf h70 h70
  unfold fGood11
  rw [fnM_r]
  unfold K11.m_law_good
  cases hd : s.due sp with
  | none =>
    rw [hd] at e1 e2
    unfold outDu at e2
    have e1 : fDue 70 [.d (enSp sp), .d (enS s)] = .ok (.d (.nd .lst [])) c1 := e1
    have nn : gEqN id (.nd .lst []) (.nd .lst []) = some (.bl true) := eq_nn
    have ni : gIsN .non .non = some (.bl true) := rfl
    exact ⟨[.d (enSp sp), .d (enS s), .d (.nd .lst []), .d .non, .no, .no], by simp [e1, e2, nn, ni]⟩
  | some du =>
    rw [hd] at e1 e2
    unfold outDu at e2
    have ne := enDu_pl hf hd (f := id)
    have nx := gIsN_exc' (A := A) (du := du)
    rcases due_cases hf hd with ⟨f, rfl, hs⟩ | ⟨v, rfl⟩ | ⟨t, rfl, ht, hdt⟩
    · have b := ne_b3 true false false
      have ee := hEq_s (f := id) hs hs
      simp only [Du.ex, excD_mk, List.map_cons, List.map_nil, enDu] at e1 e2 ne nx
      exact ⟨[.d (enSp sp), .d (enS s), .d (.nd .lst [.str "field", .str f]), .d (.nd (.exc "NoField" (A "NoField") ["field"]) [.str f]), .no, .d (.nd .lst [.bl true, .bl false, .bl false])], by simp [e1, e2, ne, nx, b, ee, hEq_s]⟩
    · have b := ne_b3 false true false
      simp only [Du.ex, excD_mk, List.map_cons, List.map_nil, enDu] at e1 e2 ne nx
      exact ⟨[.d (enSp sp), .d (enS s), .d (.nd .lst [.str "value", .int v]), .d (.nd (.exc "NoValue" (A "NoValue") ["value"]) [.int v]), .no, .d (.nd .lst [.bl false, .bl true, .bl false])], by simp [e1, e2, ne, nx, b, hEq_s]⟩
    · have b := ne_b3 false false true
      have ee : gEqN id (enS t) (enS t) = some (.bl true) := by
        rw [gEqN_pl ht.pl ht.pl (by rw [dp_enS]; omega)]
        simp
      simp only [Du.ex, excD_mk, List.map_cons, List.map_nil, enDu] at e1 e2 ne nx
      exact ⟨[.d (enSp sp), .d (enS s), .d (.nd .lst [.str "test", enS t]), .d (.nd (.exc "NoTest" (A "NoTest") ["saying"]) [enS t]), .no, .d (.nd .lst [.bl false, .bl false, .bl true])], by simp [e1, e2, ne, nx, b, ee, hEq_s]⟩
end Sw
set_option maxRecDepth 100000
set_option maxHeartbeats 4000000
namespace Sw
open PySem PySem.Spec L2

/-! ### a saying drawn -/
theorem mWhile_inv' {mt : M Bool} {body : M Out} (I : Nat → Ctx → Prop) : ∀ (n m : Nat) (c : Ctx), m < n → I m c →
    (∀ m c, I m c → (∃ c1, mt c = .ok false c1 ∧ I 0 c1) ∨ (∃ c1 c2 m', mt c = .ok true c1 ∧ m' < m ∧ (body c1 = .ok .nx c2 ∨ body c1 = .ok .ct c2) ∧ I m' c2)) →
    ∃ c', mWhile mt body n c = .ok .nx c' ∧ I 0 c'
  | 0, m, c, h, _, _ => by omega
  | n + 1, m, c, h, hs, one => by
    rcases one m c hs with ⟨c1, e1, h0⟩ | ⟨c1, c2, m', e1, hlt, e2, h2⟩
    · exact ⟨c1, by rw [mWhile, mb_r, e1]; rfl, h0⟩
    · obtain ⟨c3, e3, h3⟩ := mWhile_inv' I n m' c2 (by omega) h2 one
      refine ⟨c3, ?_, h3⟩
      rw [mWhile, mb_r, e1, Rs.bnd_ok, if_pos rfl, mb_r]
      rcases e2 with e2 | e2
      · rw [e2]; exact e3
      · rw [e2]; exact e3
def fSaying : Fd := fnM 5 (K11.m_law_saying fGrown fJoined 64)
theorem wEi {t : Int} (h0 : 0 ≤ t) (h1 : t < 2) : ∃ b : Bool, L2.atI [D.str "either", .str "then"] t = some (.str (wJ b)) := by
  have h : t = 0 ∨ t = 1 := by omega
  rcases h with rfl | rfl
  · exact ⟨false, rfl⟩
  · exact ⟨true, rfl⟩
theorem saying_run {sp : Sp} (G : SpOk sp) (zs : List Int) (hz : zs.length ≤ 50) (most : Nat) : ∃ s c, fSaying [.d (.nd .lst (zs.map .int)), .d (enSp sp), .d (.int (most : Int))] = .ok (.d (enS s)) c ∧ s.Good sp ∧ s.dep ≤ zs.length + 1 ∧ s.notes ≤ most := by
  have e0 : D.nd .lst [.nd .lst [.nd .tup [.str "all"], .bl true, .int 0, .int 0]] = enRow4 [(.all, 0)] := rfl
  obtain ⟨c1, e1, ⟨row, s4, rfl, hrow, hlen⟩⟩ := mFor_run (g := gN 4) (b := mSet 3 (mRvD (mCallA fGrown (aD (mVar 3) (aD (mVar 4) (aD (mVar 1) (aD (mVar 2) (aNil)))))))) (xs := zs.map D.int) (c := [.d (.nd .lst (zs.map .int)), .d (enSp sp), .d (.int (most : Int)), .d (enRow4 [(.all, 0)]), .no])
    (fun i c => ∃ row s4, c = [.d (.nd .lst (zs.map .int)), .d (enSp sp), .d (.int (most : Int)), .d (enRow4 row), s4] ∧ RowG sp most (1 + i) row ∧ row.length ≤ 1 + i)
    ⟨[(.all, 0)], _, rfl, ⟨by simp, fun r hr => by simp at hr; subst hr; trivial, by simp [Say.notes], fun r hr => by simp at hr; subst hr; simp [Say.dep]⟩, by simp⟩ (by
      rintro i x c hx ⟨row, s4, rfl, hrow, hlen⟩
      rw [List.getElem?_map] at hx
      obtain ⟨z, hz', rfl⟩ := Option.map_eq_some_iff.mp hx
      have hi : i < 50 := by
        have := (List.getElem?_eq_some_iff.mp hz').1
        omega
      obtain ⟨row', cg, eg, hr', hl'⟩ := grown_run G hrow (by omega) z
      exact ⟨[.d (.nd .lst (zs.map .int)), .d (enSp sp), .d (.int (most : Int)), .d (enRow4 row), .d (.int z)], [.d (.nd .lst (zs.map .int)), .d (enSp sp), .d (.int (most : Int)), .d (enRow4 row'), .d (.int z)], by simp, .inl (by simp [eg]), row', _, rfl, by rw [← Nat.add_assoc]; exact hr', by omega⟩)
  have hl2 : row.length ≤ 51 := by simp at hlen; omega
  obtain ⟨c2, e2, ⟨row2, rfl, hm0, hrow2⟩⟩ := mWhile_inv' (mt := mT (m2 hGt (lv (mCl gLen (lCons (lv (mVar 3)) (mp [])))) (lv (mp (.int 1))))) (body := mSet 3 (mRvD (mCallA fJoined (aD (mVar 3) (aD (m2 gIx (lv (mFz (mLst (mCons (mp (.str "either")) (mCons (mp (.str "then")) (mp [])))))) (lv (m2 gMod (lv (m2 gMod (lv (mCl gLen (lCons (lv (mVar 3)) (mp [])))) (lv (mp (.int 3))))) (lv (mp (.int 2)))))) (aNil))))))
    (fun m c => ∃ row, c = [.d (.nd .lst (zs.map .int)), .d (enSp sp), .d (.int (most : Int)), .d (enRow4 row), s4] ∧ row.length = m + 1 ∧ RowG sp most (1 + (zs.map D.int).length) row) 64 (row.length - 1) _ (by omega) ⟨row, rfl, by
      have : row.length ≠ 0 := fun e => hrow.ne (List.length_eq_zero_iff.mp e)
      omega, hrow⟩ (by
      rintro m c ⟨row, rfl, hm, hr⟩
      have eg : gLen [enRow4 row] = some (.int row.length) := by
        show some (D.int ((row.map enR).length : Int)) = _
        rw [List.length_map]
      by_cases h1 : row.length = 1
      · refine .inl ⟨[.d (.nd .lst (zs.map .int)), .d (enSp sp), .d (.int (most : Int)), .d (enRow4 row), s4], ?_, row, rfl, h1, hr⟩
        simp [eg, h1]
      · obtain ⟨r2, a, b, hab⟩ := two_last (row := row) (by omega)
        obtain ⟨L, hL⟩ : ∃ L : Int, (row.length : Int) = L := ⟨_, rfl⟩
        have m3 := mod_pos (i := L) (j := 3) (by omega)
        have m2 := mod_pos (i := L % 3) (j := 2) (by omega)
        obtain ⟨th, eth⟩ := wEi m2.1 m2.2
        obtain ⟨d, cj, ej⟩ := joined_run r2 a b th (by
          have := hr.deep a (by rw [hab]; simp)
          rw [hab] at this
          simp at this
          omega)
        rw [← hab] at ej
        refine .inr ⟨[.d (.nd .lst (zs.map .int)), .d (enSp sp), .d (.int (most : Int)), .d (enRow4 row), s4], [.d (.nd .lst (zs.map .int)), .d (enSp sp), .d (.int (most : Int)), .d (enRow4 (r2 ++ [(mkJ th a.1 b.1, d)])), s4], m - 1, ?_, by omega, .inl ?_, _, rfl, ?_, RowG.joined (by rw [← hab]; exact hr)⟩
        · have : (1 : Int) < L := by omega
          simp [eg, hL, this]
        · rw [hL] at eg
          simp [eg, gMod_i (show (0 : Int) < 3 by omega), gMod_i (show (0 : Int) < 2 by omega), eth, ej]
        · rw [hab] at hm
          simp at hm ⊢
          omega)
  cases row2 with
  | nil => simp at hm0
  | cons r row2 =>
    have hz0 : row2 = [] := by simpa using hm0
    subst hz0
    have dr := hrow2.deep r (by simp)
    have gr := hrow2.good r (by simp)
    have fr := hrow2.few
    simp at dr fr
    refine ⟨r.1, [.d (.nd .lst (zs.map .int)), .d (enSp sp), .d (.int (most : Int)), .d (enRow4 [r]), s4], ?_, gr, by omega, by omega⟩
    unfold fSaying
    rw [fnM_r]
    unfold K11.m_law_saying
    have ei : gIx (enRow4 [r]) (.int 0) = some (enR r) := rfl
    simp [e0, e1, e2, ei]

/-! ### a saying spoilt -/
theorem five_n {a b c d e : Str} {t : Int} (h0 : 0 ≤ t) (h1 : t < 5) (ha : Asc 10 a) (hb : Asc 10 b) (hc : Asc 10 c) (hd : Asc 10 d) (he : Asc 10 e) : ∃ w, L2.atI [D.str a, .str b, .str c, .str d, .str e] t = some (.str w) ∧ Asc 10 w := by
  have h : t = 0 ∨ t = 1 ∨ t = 2 ∨ t = 3 ∨ t = 4 := by omega
  rcases h with rfl | rfl | rfl | rfl | rfl
  · exact ⟨_, rfl, ha⟩
  · exact ⟨_, rfl, hb⟩
  · exact ⟨_, rfl, hc⟩
  · exact ⟨_, rfl, hd⟩
  · exact ⟨_, rfl, he⟩
theorem five_i {a b c d e : Int} {t : Int} (h0 : 0 ≤ t) (h1 : t < 5) : ∃ w : Int, L2.atI [D.int a, .int b, .int c, .int d, .int e] t = some (.int w) := by
  have h : t = 0 ∨ t = 1 ∨ t = 2 ∨ t = 3 ∨ t = 4 := by omega
  rcases h with rfl | rfl | rfl | rfl | rfl
  all_goals exact ⟨_, rfl⟩
def mkI (b : Bool) (f : Str) (v : Int) : Say := if b = true then .put f v else .is f v
def wI (b : Bool) : Str := if b = true then "put" else "is"
theorem enS_mkI (b : Bool) (f : Str) (v : Int) : D.nd .tup [.str (wI b), .str f, .int v] = enS (mkI b f v) := by cases b <;> rfl
theorem wIs {t : Int} (h0 : 0 ≤ t) (h1 : t < 2) : ∃ b : Bool, L2.atI [D.str "is", .str "put"] t = some (.str (wI b)) := by
  have h : t = 0 ∨ t = 1 := by omega
  rcases h with rfl | rfl
  · exact ⟨false, rfl⟩
  · exact ⟨true, rfl⟩
theorem mkI_fine {b : Bool} {f : Str} {v : Int} (h : PySem.PyData.strOk f = true) : (mkI b f v).Fine := by cases b <;> exact h
theorem mkI_dep {b : Bool} {f : Str} {v : Int} : (mkI b f v).dep = 0 := by cases b <;> rfl
theorem atI_says {l : List Say} {t : Int} (h0 : 0 ≤ t) (h1 : t < l.length) : ∃ s ∈ l, L2.atI (l.map enS) t = some (enS s) := by
  have h2 : t.toNat < l.length := by omega
  refine ⟨l[t.toNat], List.getElem_mem h2, ?_⟩
  rw [atI_pos h0, List.getElem?_map, List.getElem?_eq_getElem h2]
  rfl
def fStrange : Fd := fnM 8 (K11.m_law_strange fTake)
theorem strange_run {sp : Sp} {ff : Int} {tail : Str} (G : GoodSp sp ff tail) (p : Int × Int) {s : Say} (hs : s.Fine) : ∃ s' p' r, fStrange [.l (enP p), .d (enSp sp), .d (enS s)] = .ok (.d (enS s')) (.l (enP p') :: r) ∧ s'.Fine ∧ s'.dep ≤ s.dep + 3 := by
  obtain ⟨Sn, hSn⟩ : ∃ S : Int, (sp.length : Int) = S := ⟨_, rfl⟩
  have s1 := G.pos
  have s3 := G.len
  have ln : gLen [enSp sp] = some (.int Sn) := by
    show some (D.int _) = _
    rw [List.length_map, hSn]
  obtain ⟨x1, y1, e1⟩ := take_run p (n := Sn) (by omega) (by omega)
  have u0 := tkv_lo p (n := Sn) (by omega)
  have u1 := tkv_hi p (n := Sn) (by omega)
  obtain ⟨q, hq⟩ : ∃ q, sp[(tkv p Sn).toNat]? = some q := ⟨_, List.getElem?_eq_getElem (by omega)⟩
  have ix : gIx (enSp sp) (.int (tkv p Sn)) = some (.nd .tup [.str q.1, .int q.2]) := by
    show L2.atI _ _ = _
    rw [atI_pos u0, List.getElem?_map, hq]
    rfl
  have hqm := List.mem_of_getElem? hq
  have hn := G.name q hqm
  obtain ⟨p1, hp1⟩ : ∃ p1, tkp p Sn = p1 := ⟨_, rfl⟩
  rw [hp1] at e1
  obtain ⟨x2, y2, e2⟩ := take_run p1 (n := 2) (by omega) (by omega)
  obtain ⟨b, eb⟩ := wIs (tkv_lo p1 (n := 2) (by omega)) (tkv_hi p1 (by omega))
  obtain ⟨x3, y3, e3⟩ := take_run (tkp p1 2) (n := 5) (by omega) (by omega)
  obtain ⟨P, hP⟩ : ∃ P : Int, gPow (.int 10) (.int 59) = some (.int P) := ⟨_, gPow_i (by decide)⟩
  obtain ⟨far, efar⟩ := five_i (a := -1) (b := q.2) (c := q.2 + 1) (d := P + q.2) (e := -q.2) (tkv_lo (tkp p1 2) (n := 5) (by omega)) (tkv_hi (tkp p1 2) (by omega))
  obtain ⟨x4, y4, e4⟩ := take_run (tkp (tkp p1 2) 5) (n := 5) (by omega) (by omega)
  have hx : Asc 10 (q.1 ++ "x") := (hn.app (m := 1) ⟨by decide +kernel, by decide +kernel⟩).mono (by omega)
  have a1 : gAdd (.str q.1) (.str "x") = some (.str (q.1 ++ "x")) := gAdd_s (by have := hn.len; have : ("x" : Str).length = 1 := (by decide +kernel); omega)
  have a2 : gSl (.str q.1) (some 1) none = some (.str (cutS q.1 (some 1) none)) := gSl_str (by have := hn.len; omega)
  obtain ⟨w, ew, hw⟩ := five_n (tkv_lo (tkp (tkp p1 2) 5) (n := 5) (by omega)) (tkv_hi (tkp (tkp p1 2) 5) (by omega)) hx ((hn.cut (some 1) none).mono (by omega)) (c := "zz") ⟨by decide +kernel, by decide +kernel⟩ (d := "is") ⟨by decide +kernel, by decide +kernel⟩ (e := "note") ⟨by decide +kernel, by decide +kernel⟩
  obtain ⟨x5, y5, e5⟩ := take_run (tkp (tkp (tkp p1 2) 5) 5) (n := 8) (by omega) (by omega)
  obtain ⟨s', hs', es'⟩ := atI_says (l := [mkI b q.1 far, mkI b w 0, mkI b w far, .no s, .no (.no s), .no (mkI b q.1 0), .no (.ei .all .note), .no (.th (.is w 0) (.ag .all))]) (tkv_lo (tkp (tkp (tkp p1 2) 5) 5) (n := 8) (by omega)) (tkv_hi (tkp (tkp (tkp p1 2) 5) 5) (by omega))
  have good : s'.Fine ∧ s'.dep ≤ s.dep + 3 := by
    simp only [List.mem_cons, List.not_mem_nil, or_false] at hs'
    rcases hs' with rfl | rfl | rfl | rfl | rfl | rfl | rfl | rfl
    · exact ⟨mkI_fine hn.ok, by rw [mkI_dep]; omega⟩
    · exact ⟨mkI_fine hw.ok, by rw [mkI_dep]; omega⟩
    · exact ⟨mkI_fine hw.ok, by rw [mkI_dep]; omega⟩
    · exact ⟨hs, by show s.dep + 1 ≤ _; omega⟩
    · exact ⟨hs, by show s.dep + 1 + 1 ≤ _; omega⟩
    · exact ⟨mkI_fine (b := b) (v := 0) hn.ok, by show (mkI b q.1 0).dep + 1 ≤ _; rw [mkI_dep]; omega⟩
    · exact ⟨⟨trivial, trivial⟩, by show max 0 0 + 1 + 1 ≤ _; omega⟩
    · exact ⟨⟨hw.ok, trivial⟩, by show max 0 (0 + 1) + 1 + 1 ≤ _; omega⟩
  refine ⟨s', tkp (tkp (tkp (tkp p1 2) 5) 5) 8, [.d (enSp sp), .d (enS s), .d (.str q.1), .d (.int q.2), .d (.str (wI b)), .d (.int far), .d (.str w)], ?_, good⟩
  simp only [List.map_cons, List.map_nil, ← enS_mkI, enS] at es'
  unfold fStrange
  rw [fnM_r]
  unfold K11.m_law_strange
  simp [ln, e1, ix, e2, eb, e3, hP, efar, e4, a1, a2, ew, e5, es', lim_ok]
def fSpoil : Nat → Fd
  | 0 => fun _ => .stk
  | k + 1 => fnM 4 (K11.m_law_spoiled fTake (fSpoil k) fStrange)
theorem spoil_run {sp : Sp} {ff : Int} {tail : Str} (G : GoodSp sp ff tail) : ∀ (k : Nat) (s : Say) (p : Int × Int), s.Fine → s.dep < k → ∃ s' p' r, fSpoil k [.l (enP p), .d (enSp sp), .d (enS s)] = .ok (.d (enS s')) (.l (enP p') :: r) ∧ s'.Fine ∧ s'.dep ≤ s.dep + 3
  | 0, s, p, _, h => by omega
  | k + 1, s, p, hf, h => by
    obtain ⟨sx, px, rx, ex, gx1, gx2⟩ := strange_run G p hf
    show ∃ s' p' r, fnM 4 (K11.m_law_spoiled fTake (fSpoil k) fStrange) _ = _ ∧ _
    rw [fnM_r]
    unfold K11.m_law_spoiled
    cases s with
    | non => exact ⟨sx, px, [.d (enSp sp), .d (enS .non), .no], by simp [hIn_l, Say.tag, ex], gx1, gx2⟩
    | all => exact ⟨sx, px, [.d (enSp sp), .d (enS .all), .no], by simp [hIn_l, Say.tag, ex], gx1, gx2⟩
    | note => exact ⟨sx, px, [.d (enSp sp), .d (enS .note), .no], by simp [hIn_l, Say.tag, ex], gx1, gx2⟩
    | is f v => exact ⟨sx, px, [.d (enSp sp), .d (enS (.is f v)), .no], by simp [hIn_l, Say.tag, ex], gx1, gx2⟩
    | put f v => exact ⟨sx, px, [.d (enSp sp), .d (enS (.put f v)), .no], by simp [hIn_l, Say.tag, ex], gx1, gx2⟩
    | no s =>
      obtain ⟨x1, y1, e1⟩ := take_run p (n := 4) (by omega) (by omega)
      have hd : s.dep < k := by simp [Say.dep] at h; omega
      by_cases h3 : tkv p 4 < 3
      · obtain ⟨s2, p2, r2, e2, g1, g2⟩ := spoil_run G k s (tkp p 4) hf hd
        have en : D.nd .tup [.str "not", enS s2] = enS (.no s2) := rfl
        exact ⟨.no s2, p2, [.d (enSp sp), .d (enS (.no s)), .no], by simp [hIn_l, Say.tag, e1, h3, e2, en], g1, by show s2.dep + 1 ≤ s.dep + 1 + 3; omega⟩
      · obtain ⟨sx, px, rx, ex, gx1, gx2⟩ := strange_run G (tkp p 4) (s := .no s) hf
        exact ⟨sx, px, [.d (enSp sp), .d (enS (.no s)), .no], by simp [hIn_l, Say.tag, e1, h3, ex], gx1, gx2⟩
    | ag s =>
      obtain ⟨x1, y1, e1⟩ := take_run p (n := 4) (by omega) (by omega)
      have hd : s.dep < k := by simp [Say.dep] at h; omega
      by_cases h3 : tkv p 4 < 3
      · obtain ⟨s2, p2, r2, e2, g1, g2⟩ := spoil_run G k s (tkp p 4) hf hd
        have en : D.nd .tup [.str "again", enS s2] = enS (.ag s2) := rfl
        exact ⟨.ag s2, p2, [.d (enSp sp), .d (enS (.ag s)), .no], by simp [hIn_l, Say.tag, e1, h3, e2, en], g1, by show s2.dep + 1 ≤ s.dep + 1 + 3; omega⟩
      · obtain ⟨sx, px, rx, ex, gx1, gx2⟩ := strange_run G (tkp p 4) (s := .ag s) hf
        exact ⟨sx, px, [.d (enSp sp), .d (enS (.ag s)), .no], by simp [hIn_l, Say.tag, e1, h3, ex], gx1, gx2⟩
    | ei a b =>
      obtain ⟨x1, y1, e1⟩ := take_run p (n := 5) (by omega) (by omega)
      have ha : a.dep < k := by simp [Say.dep] at h; omega
      have hb : b.dep < k := by simp [Say.dep] at h; omega
      have i1 : gIx (enS (.ei a b)) (.int 1) = some (enS a) := rfl
      have i2 : gIx (enS (.ei a b)) (.int 2) = some (enS b) := rfl
      by_cases h2 : tkv p 5 < 2
      · obtain ⟨s2, p2, r2, e2, g1, g2⟩ := spoil_run G k a (tkp p 5) hf.1 ha
        have en : D.nd .tup [.str "either", enS s2, enS b] = enS (.ei s2 b) := rfl
        exact ⟨.ei s2 b, p2, [.d (enSp sp), .d (enS (.ei a b)), .d (.int (tkv p 5))], by simp [hIn_l, Say.tag, e1, h2, i1, i2, e2, en], ⟨g1, hf.2⟩, by show max s2.dep b.dep + 1 ≤ max a.dep b.dep + 1 + 3; omega⟩
      · by_cases h4 : tkv p 5 < 4
        · obtain ⟨s2, p2, r2, e2, g1, g2⟩ := spoil_run G k b (tkp p 5) hf.2 hb
          have en : D.nd .tup [.str "either", enS a, enS s2] = enS (.ei a s2) := rfl
          exact ⟨.ei a s2, p2, [.d (enSp sp), .d (enS (.ei a b)), .d (.int (tkv p 5))], by simp [hIn_l, Say.tag, e1, h2, h4, i1, i2, e2, en], ⟨hf.1, g1⟩, by show max a.dep s2.dep + 1 ≤ max a.dep b.dep + 1 + 3; omega⟩
        · obtain ⟨sx, px, rx, ex, gx1, gx2⟩ := strange_run G (tkp p 5) (s := .ei a b) hf
          exact ⟨sx, px, [.d (enSp sp), .d (enS (.ei a b)), .d (.int (tkv p 5))], by simp [hIn_l, Say.tag, e1, h2, h4, ex], gx1, gx2⟩
    | th a b =>
      obtain ⟨x1, y1, e1⟩ := take_run p (n := 5) (by omega) (by omega)
      have ha : a.dep < k := by simp [Say.dep] at h; omega
      have hb : b.dep < k := by simp [Say.dep] at h; omega
      have i1 : gIx (enS (.th a b)) (.int 1) = some (enS a) := rfl
      have i2 : gIx (enS (.th a b)) (.int 2) = some (enS b) := rfl
      by_cases h2 : tkv p 5 < 2
      · obtain ⟨s2, p2, r2, e2, g1, g2⟩ := spoil_run G k a (tkp p 5) hf.1 ha
        have en : D.nd .tup [.str "then", enS s2, enS b] = enS (.th s2 b) := rfl
        exact ⟨.th s2 b, p2, [.d (enSp sp), .d (enS (.th a b)), .d (.int (tkv p 5))], by simp [hIn_l, Say.tag, e1, h2, i1, i2, e2, en], ⟨g1, hf.2⟩, by show max s2.dep b.dep + 1 ≤ max a.dep b.dep + 1 + 3; omega⟩
      · by_cases h4 : tkv p 5 < 4
        · obtain ⟨s2, p2, r2, e2, g1, g2⟩ := spoil_run G k b (tkp p 5) hf.2 hb
          have en : D.nd .tup [.str "then", enS a, enS s2] = enS (.th a s2) := rfl
          exact ⟨.th a s2, p2, [.d (enSp sp), .d (enS (.th a b)), .d (.int (tkv p 5))], by simp [hIn_l, Say.tag, e1, h2, h4, i1, i2, e2, en], ⟨hf.1, g1⟩, by show max a.dep s2.dep + 1 ≤ max a.dep b.dep + 1 + 3; omega⟩
        · obtain ⟨sx, px, rx, ex, gx1, gx2⟩ := strange_run G (tkp p 5) (s := .th a b) hf
          exact ⟨sx, px, [.d (enSp sp), .d (enS (.th a b)), .d (.int (tkv p 5))], by simp [hIn_l, Say.tag, e1, h2, h4, ex], gx1, gx2⟩

/-! ### the law -/
theorem law11_run (A : Str → Addr) (ns : List Int) (hl : ns.length ≤ 63) : ∃ c, fnM 6 (K11.m_law fSpeech fCellD fSaying (fGood11 A) fPurse (fSpoil 70)) [.d (.nd .scr (ns.map .int))] = .ok (.d (.bl true)) c := by
  obtain ⟨z0, cc, ec⟩ := cellD_run ns 0
  have ec : fCellD [Sv.d (D.nd Tag.scr (List.map D.int ns)), Sv.d (D.int 0)] = .ok (.d (.int z0)) cc := ec
  obtain ⟨sp, f, tail, cs, es, G, _⟩ := speech_run z0 1 (by omega) (by omega)
  have hcut : ∀ (a b : Nat), b ≤ a + 22 → ∀ zs : List Int, cutD (ns.map D.int) (some (a : Int)) (some (b : Int)) = zs.map D.int → zs.length ≤ 22 := by
    intro a b hab zs ez
    have : zs.length = (cutD (ns.map D.int) (some (a : Int)) (some (b : Int))).length := by rw [ez, List.length_map]
    rw [this]
    unfold cutD
    rw [List.length_take, HT.sIx_nat, HT.sIx_nat]
    omega
  obtain ⟨ys, ey, _, _⟩ := cutD_map (enc := D.int) ns (some 20) (some 42)
  have ly : ys.length ≤ 22 := hcut 20 42 (by omega) ys ey
  obtain ⟨s, cS, eS, gS, dS, nS⟩ := saying_run (⟨G.len, G.pos, G.cnt⟩ : SpOk sp) ys (by omega) 1
  have eS : fSaying [.d (.nd .lst (ys.map .int)), .d (enSp sp), .d (.int 1)] = .ok (.d (enS s)) cS := eS
  have fS : s.Fine := gS.fine G.spN.nm
  obtain ⟨cg, eg⟩ := good11_run A G.spN fS (by omega)
  obtain ⟨zs, ez, hz, _⟩ := cutD_map (enc := D.int) ns (some 1) (some 20)
  have ea : gAdd (.nd .lst [.int 1, .int 3, .int 8, .int 30]) (.nd .lst (zs.map D.int)) = some (.nd .lst ((1 :: 3 :: 8 :: 30 :: zs).map D.int)) := by
    rw [gAdd_l (by simp; omega)]
    rfl
  obtain ⟨c1, e1, ⟨s3, s4, s5, rfl⟩⟩ := mFor_run (g := gN 3) (b := mSeq (mSetO 4 (mRvO (mCallA fPurse (aD (mVar 3) (aNil)))))
  (mSeq (mSet 5 (mRvD (mCallA (fSpoil 70) (aL 4 (aD (mVar 1) (aD (mVar 2) (aNil)))))))
  (mSeq (mIfS (mNot (mT (mRvD (mCallA (fGood11 A) (aD (mVar 1) (aD (mVar 5) (aNil))))))) (mRet (mp (.bl false))) (mp .nx))
  (mIfS (mNot (mT (mRvD (mCallA (fGood11 A) (aD (mVar 1) (aD (mRvD (mCallA (fSpoil 70) (aL 4 (aD (mVar 1) (aD (mVar 5) (aNil)))))) (aNil))))))) (mRet (mp (.bl false))) (mp .nx))))) (xs := (1 :: 3 :: 8 :: 30 :: zs).map D.int) (c := [.d (.nd .scr (ns.map .int)), .d (enSp sp), .d (enS s), .no, .no, .no])
    (fun i c => ∃ s3 s4 s5, c = [.d (.nd .scr (ns.map .int)), .d (enSp sp), .d (enS s), s3, s4, s5]) ⟨_, _, _, rfl⟩ (by
      rintro i x c hx ⟨s3, s4, s5, rfl⟩
      rw [List.getElem?_map] at hx
      obtain ⟨z, hz', rfl⟩ := Option.map_eq_some_iff.mp hx
      obtain ⟨p, cp, ep⟩ := purse_run z
      obtain ⟨t1, p1, r1, h1, f1, d1⟩ := spoil_run G 70 s p fS (by omega)
      obtain ⟨k1, g1⟩ := good11_run A G.spN f1 (by omega)
      obtain ⟨t2, p2, r2, h2, f2, d2⟩ := spoil_run G 70 t1 p1 f1 (by omega)
      obtain ⟨k2, g2⟩ := good11_run A G.spN f2 (by omega)
      exact ⟨[.d (.nd .scr (ns.map .int)), .d (enSp sp), .d (enS s), .d (.int z), s4, s5], [.d (.nd .scr (ns.map .int)), .d (enSp sp), .d (enS s), .d (.int z), .o (enP p2), .d (enS t1)], by simp, .inl (by simp [ep, h1, g1, h2, g2]), _, _, _, rfl⟩)
  refine ⟨[.d (.nd .scr (ns.map .int)), .d (enSp sp), .d (enS s), s3, s4, s5], ?_⟩
  rw [fnM_r]
  unfold K11.m_law
  simp only [List.map_cons] at e1 ea
  simp [ec, es, ey, eS, eg, ez, ea, e1]
end Sw
set_option maxRecDepth 100000
namespace K72
open PySem PySem.Spec L2 Sw
-- slots: 0 speech, 1 field, 2 place, 3 one
def m_place_of (A : Str → Addr)  : M Out :=
  mSeq (mForS (itEnum (mVar 0)) (gS 2 (gCons' (gN 2) (gCons' (gN 3) (gNil')))) (mIfS (mT (m2 hEq (lv (m2 gIx (lv (mVar 3)) (lv (mp (.int 0))))) (lv (mVar 1)))) (mRet (mVar 2)) (mp .nx)))
  (mRaise (mMk "NoField" (A "NoField") ["field"] (mCons (mVar 1) (mp []))))
-- slots: 0 speech, 1 field, 2 value, 3 place
def m_must_value (A : Str → Addr) (F_place_of : Fd) : M Out :=
  mSeq (mSet 3 (mRvD (mCallA F_place_of (aD (mVar 0) (aD (mVar 1) (aNil))))))
  (mSeq (mIfS (mNot (mT (mChain hLe hLt (lv (mp (.int 0))) (lv (mVar 2)) (lv (m2 gIx (lv (m2 gIx (lv (mVar 0)) (lv (mVar 3)))) (lv (mp (.int 1)))))))) (mRaise (mMk "NoValue" (A "NoValue") ["value"] (mCons (mVar 2) (mp [])))) (mp .nx))
  (mRet (mVar 3)))
-- slots: 0 saying
def m_inside  : M Out :=
  mSeq (mIfS (mT (m2 hIn (lv (m2 gIx (lv (mVar 0)) (lv (mp (.int 0))))) (lv (mTup (mCons (mp (.str "not")) (mCons (mp (.str "again")) (mp []))))))) (mRet (mFz (mLst (mCons (m2 gIx (lv (mVar 0)) (lv (mp (.int 1)))) (mp []))))) (mp .nx))
  (mSeq (mIfS (mT (m2 hIn (lv (m2 gIx (lv (mVar 0)) (lv (mp (.int 0))))) (lv (mTup (mCons (mp (.str "either")) (mCons (mp (.str "then")) (mp []))))))) (mRet (mFz (mLst (mCons (m2 gIx (lv (mVar 0)) (lv (mp (.int 1)))) (mCons (m2 gIx (lv (mVar 0)) (lv (mp (.int 2)))) (mp [])))))) (mp .nx))
  (mRet (mFz (mLst (mp [])))))
-- slots: 0 saying, 1 one
def m_is_test (F_inside : Fd) (F_is_test : Fd) : M Out :=
  mSeq (mIfS (mT (m2 hIn (lv (m2 gIx (lv (mVar 0)) (lv (mp (.int 0))))) (lv (mTup (mCons (mp (.str "put")) (mCons (mp (.str "again")) (mCons (mp (.str "note")) (mp [])))))))) (mRet (mp (.bl false))) (mp .nx))
  (mRet (mCl gAll (lCons (lv (mFz (mLc [1] (itS (mRvD (mCallA F_inside (aD (mVar 0) (aNil))))) (gN 1) (mp true) (mRvD (mCallA F_is_test (aD (mVar 1) (aNil))))))) (mp []))))
-- slots: 0 saying, 1 one
def m_notes_in (F_inside : Fd) (F_notes_in : Fd) : M Out :=
  mRet (m2 gAdd (lv (mCl gInt (lCons (lv (m2 hEq (lv (m2 gIx (lv (mVar 0)) (lv (mp (.int 0))))) (lv (mp (.str "note"))))) (mp [])))) (lv (mCl gSum (lCons (lv (mFz (mLc [1] (itS (mRvD (mCallA F_inside (aD (mVar 0) (aNil))))) (gN 1) (mp true) (mRvD (mCallA F_notes_in (aD (mVar 1) (aNil))))))) (mp [])))))
-- slots: 0 speech, 1 saying, 2 one
def m_must_saying (A : Str → Addr) (F_must_value : Fd) (F_is_test : Fd) (F_must_saying : Fd) (F_inside : Fd) : M Out :=
  mSeq (mIfS (mT (m2 hIn (lv (m2 gIx (lv (mVar 1)) (lv (mp (.int 0))))) (lv (mTup (mCons (mp (.str "is")) (mCons (mp (.str "put")) (mp []))))))) (mDrop (mRvD (mCallA F_must_value (aD (mVar 0) (aD (m2 gIx (lv (mVar 1)) (lv (mp (.int 1)))) (aD (m2 gIx (lv (mVar 1)) (lv (mp (.int 2)))) (aNil))))))) (mp .nx))
  (mSeq (mIfS (mAnd (mT (m2 hEq (lv (m2 gIx (lv (mVar 1)) (lv (mp (.int 0))))) (lv (mp (.str "not"))))) (mNot (mT (mRvD (mCallA F_is_test (aD (m2 gIx (lv (mVar 1)) (lv (mp (.int 1)))) (aNil))))))) (mRaise (mMk "NoTest" (A "NoTest") ["saying"] (mCons (m2 gIx (lv (mVar 1)) (lv (mp (.int 1)))) (mp [])))) (mp .nx))
  (mForS (itS (mRvD (mCallA F_inside (aD (mVar 1) (aNil))))) (gN 2) (mDrop (mRvD (mCallA F_must_saying (aD (mVar 0) (aD (mVar 2) (aNil))))))))
-- slots: 0 saying
def m_must_plain (A : Str → Addr) (F_notes_in : Fd) : M Out :=
  mIfS (mT (m2 hGt (lv (mRvD (mCallA F_notes_in (aD (mVar 0) (aNil))))) (lv (mp (.int 0))))) (mRaise (mMk "NoPlain" (A "NoPlain") ["saying"] (mCons (mVar 0) (mp [])))) (mp .nx)
-- slots: 0 speech, 1 tie, 2 place
def m_must_tie (F_must_value : Fd) : M Out :=
  mForS (itR rng1 (mCons (mp (.int 4)) (mp []))) (gN 2) (mDrop (mRvD (mCallA F_must_value (aD (mVar 0) (aD (m2 gIx (lv (m2 gIx (lv (mVar 0)) (lv (m2 gMod (lv (mVar 2)) (lv (mp (.int 2))))))) (lv (mp (.int 0)))) (aD (m2 gIx (lv (mVar 1)) (lv (mVar 2))) (aNil)))))))
-- slots: 0 net, 1 speech, 2 rules, 3 ties, 4 rule, 5 tie
def m_must_net (A : Str → Addr) (F_must_saying : Fd) (F_must_plain : Fd) (F_must_tie : Fd) : M Out :=
  mSeq (mAsg (mVar 0) (gS 3 (gCons' (gN 1) (gCons' (gN 2) (gCons' (gN 3) (gNil'))))))
  (mSeq (mIfS (mOr (mT (m2 hLt (lv (mCl gLen (lCons (lv (mVar 1)) (mp [])))) (lv (mp (.int 2))))) (mT (m2 hNe (lv (mCl gLen (lCons (lv (mVar 2)) (mp [])))) (lv (m2 gIx (lv (m2 gIx (lv (mVar 1)) (lv (mp (.int 0))))) (lv (mp (.int 1)))))))) (mRaise (mp ⟨"NoNet", A "NoNet", []⟩)) (mp .nx))
  (mSeq (mForS (itS (mVar 2)) (gN 4) (mSeq (mDrop (mRvD (mCallA F_must_saying (aD (mVar 1) (aD (mVar 4) (aNil))))))
  (mDrop (mRvD (mCallA F_must_plain (aD (mVar 4) (aNil)))))))
  (mForS (itS (mVar 3)) (gN 5) (mDrop (mRvD (mCallA F_must_tie (aD (mVar 1) (aD (mVar 5) (aNil)))))))))
-- slots: 0 net
def m_saying_of (F_must_net : Fd) : M Out :=
  mSeq (mDrop (mRvD (mCallA F_must_net (aD (mVar 0) (aNil)))))
  ((fun _ => .stk))
-- slots: 0 net, 1 letter, 2 count
def m_hops (F_must_net : Fd) : M Out :=
  mSeq (mDrop (mRvD (mCallA F_must_net (aD (mVar 0) (aNil)))))
  ((fun _ => .stk))
-- slots: 0 net, 1 rule
def m_tables_of (F_must_net : Fd) : M Out :=
  mSeq (mDrop (mRvD (mCallA F_must_net (aD (mVar 0) (aNil)))))
  ((fun _ => .stk))
-- slots: 0 _law_script, 1 _law_k
def m_law_cell  : M Out :=
  mSeq (mIfS (mT (m2 hLt (lv (mVar 1)) (lv (mCl gLen (lCons (lv (mVar 0)) (mp [])))))) (mRet (m2 gIx (lv (mVar 0)) (lv (mVar 1)))) (mp .nx))
  (mRet (mp (.int 0)))
-- slots: 0 _law_cell_here, 1 _law_number, 2 _law_found, 3 _law_k
def m_law_purse  : M Out :=
  mSeq (mSet 1 (m2 gMod (lv (mVar 0)) (lv (mp (.int 2147483647)))))
  (mSeq (mSet 2 (mp (.int 1)))
  (mSeq (mForS (itR rng1 (mCons (mp (.int 16)) (mp []))) (gN 3) (mSeq (mSet 1 (m2 gMod (lv (m2 gAdd (lv (m2 gAdd (lv (m2 gAdd (lv (m2 gMul (lv (mVar 1)) (lv (mVar 1)))) (lv (m2 gMul (lv (m2 gMul (lv (mp (.int 48271))) (lv (mVar 3)))) (lv (mVar 3)))))) (lv (mVar 3)))) (lv (mp (.int 3))))) (lv (mp (.int 2147483629)))))
  (mSet 2 (m2 gAdd (lv (m2 gMul (lv (mVar 2)) (lv (mp (.int 2147483587))))) (lv (m2 gMod (lv (m2 gMul (lv (mVar 1)) (lv (mVar 1)))) (lv (mp (.int 2147483587)))))))))
  (mSeq (mIfS (mT (m2 hEq (lv (m2 gMod (lv (mVar 0)) (lv (mp (.int 2))))) (lv (mp (.int 0))))) (mRetO (mLst (mCons (m2 gDiv (lv (mCl gAbs (lCons (lv (mVar 0)) (mp [])))) (lv (mp (.int 2)))) (mCons (mVar 2) (mp []))))) (mp .nx))
  (mRetO (mLst (mCons (mp (.int 0)) (mCons (mVar 2) (mp []))))))))
-- slots: 0 _law_purse_here*, 1 _law_many, 2 _law_at, 3 _law_found
def m_law_take  : M Out :=
  mSeq (mSet 2 (mCl gInt (lCons (lv (m2 hEq (lv (m2 gIx (lName 0) (lv (mp (.int 0))))) (lv (mp (.int 0))))) (mp []))))
  (mSeq (mSet 3 (m2 gMod (lv (m2 gIx (lName 0) (lv (mVar 2)))) (lv (mVar 1))))
  (mSeq (mPut 0 (m2 gDiv (lv (m2 gIx (lName 0) (lv (mVar 2)))) (lv (mVar 1))) (mVar 2))
  (mRet (mVar 3))))
-- slots: 0 _law_cell_here, 1 _law_least, 2 _law_purse_here*, 3 _law_first, 4 _law_letters, 5 _law_left, 6 _law_many, 7 _law_tail, 8 _law_speech_here*, 9 _law_k, 10 _law_count
def m_law_speech (F_law_purse : Fd) (F_law_take : Fd) : M Out :=
  mSeq (mSetO 2 (mRvO (mCallA F_law_purse (aD (mVar 0) (aNil)))))
  (mSeq (mSet 3 (mRvD (mCallA F_law_take (aL 2 (aD (mp (.int 26)) (aNil))))))
  (mSeq (mSet 4 (mp (.str "abcdefghijklmnopqrstuvwxyz")))
  (mSeq (mSet 5 (m2 gIx (lv (mFz (mLst (mCons (mp (.int 8)) (mCons (mp (.int 8)) (mCons (mp (.int 6)) (mCons (mp (.int 8)) (mCons (mp (.int 12)) (mCons (mp (.int 8)) (mCons (mp (.int 4)) (mCons (mp (.int 24)) (mp [])))))))))))) (lv (mRvD (mCallA F_law_take (aL 2 (aD (mp (.int 8)) (aNil))))))))
  (mSeq (mSet 6 (mCl gMax (lCons (lv (mVar 1)) (lCons (lv (m2 gAdd (lv (mp (.int 1))) (lv (mRvD (mCallA F_law_take (aL 2 (aD (mp (.int 3)) (aNil)))))))) (mp [])))))
  (mSeq (mSet 7 (mSl gSl (lv (mp (.str "abcdefg"))) (mp none) (mPart (mRvD (mCallA F_law_take (aL 2 (aD (mp (.int 8)) (aNil))))))))
  (mSeq (mSetO 8 (mLst (mp [])))
  (mSeq (mForS (itR rng1 (mCons (mVar 6) (mp []))) (gN 9) (mSeq (mSet 10 (mCl gMin (lCons (lv (m2 gIx (lv (mFz (mLst (mCons (mp (.int 2)) (mCons (mp (.int 3)) (mCons (mp (.int 4)) (mCons (mp (.int 1)) (mCons (mp (.int 6)) (mCons (mp (.int 5)) (mp [])))))))))) (lv (mRvD (mCallA F_law_take (aL 2 (aD (mp (.int 6)) (aNil)))))))) (lCons (lv (mVar 5)) (mp [])))))
  (mSeq (mSet 5 (m2 gDiv (lv (mVar 5)) (lv (mVar 10))))
  (mDrop (mApp 8 (mTup (mCons (m2 gAdd (lv (m2 gIx (lv (mVar 4)) (lv (m2 gMod (lv (m2 gAdd (lv (mVar 3)) (lv (m2 gMul (lv (mp (.int 9))) (lv (mVar 9)))))) (lv (mp (.int 26))))))) (lv (mVar 7))) (mCons (mVar 10) (mp [])))))))))
  (mRet (mCl gTuple (lCons (lName 8) (mp [])))))))))))
-- slots: 0 _law_sort, 1 _law_purse_here*, 2 _law_speech_here, 3 _law_field, 4 _law_count
def m_law_lone (F_law_take : Fd) : M Out :=
  mSeq (mAsg (m2 gIx (lv (mVar 2)) (lv (mRvD (mCallA F_law_take (aL 1 (aD (mCl gLen (lCons (lv (mVar 2)) (mp []))) (aNil))))))) (gS 2 (gCons' (gN 3) (gCons' (gN 4) (gNil')))))
  (mRet (m2 gIx (lv (mFz (mLst (mCons (mTup (mCons (mp (.str "is")) (mCons (mVar 3) (mCons (mRvD (mCallA F_law_take (aL 1 (aD (mVar 4) (aNil))))) (mp []))))) (mCons (mTup (mCons (mp (.str "put")) (mCons (mVar 3) (mCons (mRvD (mCallA F_law_take (aL 1 (aD (mVar 4) (aNil))))) (mp []))))) (mCons (mTup (mCons (mp (.str "all")) (mp []))) (mCons (mTup (mCons (mp (.str "none")) (mp []))) (mp [])))))))) (lv (mVar 0))))
-- slots: 0 _law_row, 1 _law_cell_here, 2 _law_speech_here, 3 _law_most, 4 _law_purse_here*, 5 _law_sort, 6 _law_last, 7 _law_one
def m_law_grown (F_law_purse : Fd) (F_law_take : Fd) (F_law_joined : Fd) (F_law_lone : Fd) : M Out :=
  mSeq (mSetO 4 (mRvO (mCallA F_law_purse (aD (mVar 1) (aNil)))))
  (mSeq (mSet 5 (mRvD (mCallA F_law_take (aL 4 (aD (mp (.int 14)) (aNil))))))
  (mSeq (mSet 6 (m2 gIx (lv (mVar 0)) (lv (vNeg (mp (.int 1))))))
  (mSeq (mIfS (mAnd (mT (m2 hEq (lv (mVar 5)) (lv (mp (.int 4))))) (mT (m2 hLt (lv (mCl gSum (lCons (lv (mFz (mLc [7] (itS (mVar 0)) (gN 7) (mp true) (m2 gIx (lv (mVar 7)) (lv (mp (.int 2))))))) (mp [])))) (lv (mVar 3))))) (mRet (m2 gAdd (lv (mVar 0)) (lv (mFz (mLst (mCons (mFz (mLst (mCons (mTup (mCons (mp (.str "note")) (mp []))) (mCons (mp (.bl false)) (mCons (mp (.int 1)) (mCons (mp (.int 0)) (mp []))))))) (mp []))))))) (mp .nx))
  (mSeq (mIfS (mAnd (mT (m2 hEq (lv (mVar 5)) (lv (mp (.int 5))))) (mT (m2 gIx (lv (mVar 6)) (lv (mp (.int 1)))))) (mRet (m2 gAdd (lv (mSl gSl (lv (mVar 0)) (mp none) (mPart (vNeg (mp (.int 1)))))) (lv (mFz (mLst (mCons (mFz (mLst (mCons (mTup (mCons (mp (.str "not")) (mCons (m2 gIx (lv (mVar 6)) (lv (mp (.int 0)))) (mp [])))) (mCons (mp (.bl true)) (mCons (mp (.int 0)) (mCons (mp (.int 0)) (mp []))))))) (mp []))))))) (mp .nx))
  (mSeq (mIfS (mAnd (mT (m2 hEq (lv (mVar 5)) (lv (mp (.int 6))))) (mT (m2 hLt (lv (m2 gIx (lv (mVar 6)) (lv (mp (.int 3))))) (lv (mp (.int 3)))))) (mRet (m2 gAdd (lv (mSl gSl (lv (mVar 0)) (mp none) (mPart (vNeg (mp (.int 1)))))) (lv (mFz (mLst (mCons (mFz (mLst (mCons (mTup (mCons (mp (.str "again")) (mCons (m2 gIx (lv (mVar 6)) (lv (mp (.int 0)))) (mp [])))) (mCons (mp (.bl false)) (mCons (m2 gIx (lv (mVar 6)) (lv (mp (.int 2)))) (mCons (m2 gAdd (lv (m2 gIx (lv (mVar 6)) (lv (mp (.int 3))))) (lv (mp (.int 1)))) (mp []))))))) (mp []))))))) (mp .nx))
  (mSeq (mIfS (mAnd (mT (m2 hGt (lv (mVar 5)) (lv (mp (.int 6))))) (mAnd (mT (m2 hLt (lv (mVar 5)) (lv (mp (.int 12))))) (mT (m2 hGt (lv (mCl gLen (lCons (lv (mVar 0)) (mp [])))) (lv (mp (.int 1))))))) (mRet (mRvD (mCallA F_law_joined (aD (mVar 0) (aD (m2 gIx (lv (mFz (mLst (mCons (mp (.str "either")) (mCons (mp (.str "then")) (mp [])))))) (lv (m2 gMod (lv (mVar 5)) (lv (mp (.int 2)))))) (aNil)))))) (mp .nx))
  (mSeq (mSet 5 (m2 gIx (lv (mFz (mLst (mCons (mp (.int 0)) (mCons (mp (.int 1)) (mCons (mp (.int 2)) (mCons (mp (.int 3)) (mCons (mp (.int 2)) (mCons (mp (.int 0)) (mCons (mp (.int 1)) (mCons (mp (.int 0)) (mCons (mp (.int 1)) (mCons (mp (.int 0)) (mCons (mp (.int 1)) (mCons (mp (.int 0)) (mCons (mp (.int 1)) (mCons (mp (.int 0)) (mp [])))))))))))))))))) (lv (mVar 5))))
  (mRet (m2 gAdd (lv (mVar 0)) (lv (mFz (mLst (mCons (mFz (mLst (mCons (mRvD (mCallA F_law_lone (aD (mVar 5) (aL 4 (aD (mVar 2) (aNil)))))) (mCons (m2 hNe (lv (mVar 5)) (lv (mp (.int 1)))) (mCons (mp (.int 0)) (mCons (mp (.int 0)) (mp []))))))) (mp []))))))))))))))
-- slots: 0 _law_row, 1 _law_word, 2 _law_one, 3 _law_other, 4 _law_made
def m_law_joined  : M Out :=
  mSeq (mAsg (mSl gSl (lv (mVar 0)) (mPart (vNeg (mp (.int 2)))) (mp none)) (gS 2 (gCons' (gN 2) (gCons' (gN 3) (gNil')))))
  (mSeq (mSet 4 (mTup (mCons (mVar 1) (mCons (m2 gIx (lv (mVar 2)) (lv (mp (.int 0)))) (mCons (m2 gIx (lv (mVar 3)) (lv (mp (.int 0)))) (mp []))))))
  (mRet (m2 gAdd (lv (mSl gSl (lv (mVar 0)) (mp none) (mPart (vNeg (mp (.int 2)))))) (lv (mFz (mLst (mCons (mFz (mLst (mCons (mVar 4) (mCons (vAnd (m2 gIx (lv (mVar 2)) (lv (mp (.int 1)))) (m2 gIx (lv (mVar 3)) (lv (mp (.int 1))))) (mCons (m2 gAdd (lv (m2 gIx (lv (mVar 2)) (lv (mp (.int 2))))) (lv (m2 gIx (lv (mVar 3)) (lv (mp (.int 2)))))) (mCons (mCl gMax (lCons (lv (m2 gIx (lv (mVar 2)) (lv (mp (.int 3))))) (lCons (lv (m2 gIx (lv (mVar 3)) (lv (mp (.int 3))))) (mp [])))) (mp []))))))) (mp []))))))))
-- slots: 0 _law_cells, 1 _law_speech_here, 2 _law_most, 3 _law_row, 4 _law_cell_here
def m_law_saying (F_law_grown : Fd) (F_law_joined : Fd) (FUEL : Nat) : M Out :=
  mSeq (mSet 3 (mFz (mLst (mCons (mFz (mLst (mCons (mTup (mCons (mp (.str "all")) (mp []))) (mCons (mp (.bl true)) (mCons (mp (.int 0)) (mCons (mp (.int 0)) (mp []))))))) (mp [])))))
  (mSeq (mForS (itS (mVar 0)) (gN 4) (mSet 3 (mRvD (mCallA F_law_grown (aD (mVar 3) (aD (mVar 4) (aD (mVar 1) (aD (mVar 2) (aNil)))))))))
  (mSeq (mWhile (mT (m2 hGt (lv (mCl gLen (lCons (lv (mVar 3)) (mp [])))) (lv (mp (.int 1))))) (mSet 3 (mRvD (mCallA F_law_joined (aD (mVar 3) (aD (m2 gIx (lv (mFz (mLst (mCons (mp (.str "either")) (mCons (mp (.str "then")) (mp [])))))) (lv (m2 gMod (lv (m2 gMod (lv (mCl gLen (lCons (lv (mVar 3)) (mp [])))) (lv (mp (.int 3))))) (lv (mp (.int 2)))))) (aNil)))))) FUEL)
  (mRet (m2 gIx (lv (m2 gIx (lv (mVar 3)) (lv (mp (.int 0))))) (lv (mp (.int 0)))))))
-- slots: 0 _law_script, 1 _law_at, 2 _law_speech_here, 3 _law_many, 4 _law_rules*, 5 _law_k, 6 _law_ties*, 7 _law_purse_here*, 8 _law_place
def m_law_net (F_law_speech : Fd) (F_law_cell : Fd) (F_law_saying : Fd) (F_law_purse : Fd) (F_law_take : Fd) : M Out :=
  mSeq (mSet 2 (mRvD (mCallA F_law_speech (aD (mRvD (mCallA F_law_cell (aD (mVar 0) (aD (mVar 1) (aNil))))) (aD (mp (.int 2)) (aNil))))))
  (mSeq (mSet 3 (m2 gIx (lv (m2 gIx (lv (mVar 2)) (lv (mp (.int 0))))) (lv (mp (.int 1)))))
  (mSeq (mSetO 4 (mLst (mp [])))
  (mSeq (mForS (itR rng1 (mCons (mVar 3) (mp []))) (gN 5) (mDrop (mApp 4 (mRvD (mCallA F_law_saying (aD (mSl gSl (lv (mVar 0)) (mPart (m2 gAdd (lv (m2 gAdd (lv (mVar 1)) (lv (mp (.int 8))))) (lv (m2 gMul (lv (mp (.int 7))) (lv (mVar 5)))))) (mPart (m2 gAdd (lv (m2 gAdd (lv (mVar 1)) (lv (mp (.int 15))))) (lv (m2 gMul (lv (mp (.int 7))) (lv (mVar 5))))))) (aD (mVar 2) (aD (mp (.int 0)) (aNil)))))))))
  (mSeq (mSetO 6 (mLst (mp [])))
  (mSeq (mForS (itR rng1 (mCons (m2 gMod (lv (mRvD (mCallA F_law_cell (aD (mVar 0) (aD (m2 gAdd (lv (mVar 1)) (lv (mp (.int 1)))) (aNil)))))) (lv (mp (.int 7)))) (mp []))) (gN 5) (mSeq (mSetO 7 (mRvO (mCallA F_law_purse (aD (mRvD (mCallA F_law_cell (aD (mVar 0) (aD (m2 gAdd (lv (m2 gAdd (lv (mVar 1)) (lv (mp (.int 2))))) (lv (mVar 5))) (aNil))))) (aNil)))))
  (mDrop (mApp 6 (mCl gTuple (lCons (lv (mFz (mLc [8] (itR rng1 (mCons (mp (.int 4)) (mp []))) (gN 8) (mp true) (mRvD (mCallA F_law_take (aL 7 (aD (m2 gIx (lv (m2 gIx (lv (mVar 2)) (lv (m2 gMod (lv (mVar 8)) (lv (mp (.int 2))))))) (lv (mp (.int 1)))) (aNil)))))))) (mp [])))))))
  (mRet (mTup (mCons (mVar 2) (mCons (mCl gTuple (lCons (lName 4) (mp []))) (mCons (mCl gTuple (lCons (lName 6) (mp []))) (mp [])))))))))))
-- slots: 0 _law_saying_here, 1 _law_one
def m_law_is_test (F_law_is_test : Fd) : M Out :=
  mSeq (mIfS (mT (m2 hIn (lv (m2 gIx (lv (mVar 0)) (lv (mp (.int 0))))) (lv (mFz (mLst (mCons (mp (.str "put")) (mCons (mp (.str "again")) (mCons (mp (.str "note")) (mp []))))))))) (mRet (mp (.bl false))) (mp .nx))
  (mSeq (mIfS (mT (m2 hIn (lv (m2 gIx (lv (mVar 0)) (lv (mp (.int 0))))) (lv (mFz (mLst (mCons (mp (.str "is")) (mCons (mp (.str "all")) (mCons (mp (.str "none")) (mp []))))))))) (mRet (mp (.bl true))) (mp .nx))
  (mRet (m2 hEq (lv (mCl gLen (lCons (lv (mFz (mLc [1] (itS (mSl gSl (lv (mVar 0)) (mPart (mp (.int 1))) (mp none))) (gN 1) (mNot (mT (mRvD (mCallA F_law_is_test (aD (mVar 1) (aNil)))))) (mVar 1)))) (mp [])))) (lv (mp (.int 0))))))
-- slots: 0 _law_saying_here, 1 _law_one
def m_law_has_note (F_law_has_note : Fd) : M Out :=
  mSeq (mIfS (mT (m2 hIn (lv (m2 gIx (lv (mVar 0)) (lv (mp (.int 0))))) (lv (mFz (mLst (mCons (mp (.str "is")) (mCons (mp (.str "put")) (mCons (mp (.str "all")) (mCons (mp (.str "none")) (mCons (mp (.str "note")) (mp []))))))))))) (mRet (m2 hEq (lv (m2 gIx (lv (mVar 0)) (lv (mp (.int 0))))) (lv (mp (.str "note"))))) (mp .nx))
  (mRet (m2 hGt (lv (mCl gLen (lCons (lv (mFz (mLc [1] (itS (mSl gSl (lv (mVar 0)) (mPart (mp (.int 1))) (mp none))) (gN 1) (mT (mRvD (mCallA F_law_has_note (aD (mVar 1) (aNil))))) (mVar 1)))) (mp [])))) (lv (mp (.int 0)))))
-- slots: 0 _law_speech_here, 1 _law_saying_here, 2 _law_sort, 3 _law_counts, 4 _law_one, 5 _law_found, 6 _law_field, 7 _law_count
def m_law_bad (F_law_is_test : Fd) (F_law_bad : Fd) : M Out :=
  mSeq (mSet 2 (m2 gIx (lv (mVar 1)) (lv (mp (.int 0)))))
  (mSeq (mIfS (mOr (mT (m2 hEq (lv (mVar 2)) (lv (mp (.str "is"))))) (mT (m2 hEq (lv (mVar 2)) (lv (mp (.str "put")))))) (mSeq (mSet 3 (mFz (mLc [6, 7] (itS (mVar 0)) (gS 2 (gCons' (gN 6) (gCons' (gN 7) (gNil')))) (mT (m2 hEq (lv (mVar 6)) (lv (m2 gIx (lv (mVar 1)) (lv (mp (.int 1))))))) (mVar 7))))
  (mSeq (mIfS (mT (m2 hEq (lv (mVar 3)) (lv (mFz (mLst (mp [])))))) (mRet (mFz (mLst (mCons (mp (.str "field")) (mCons (m2 gIx (lv (mVar 1)) (lv (mp (.int 1)))) (mp [])))))) (mp .nx))
  (mRet (m2 gIx (lv (mFz (mLst (mCons (mFz (mLst (mCons (mp (.str "value")) (mCons (m2 gIx (lv (mVar 1)) (lv (mp (.int 2)))) (mp []))))) (mCons (mFz (mLst (mp []))) (mp [])))))) (lv (mCl gInt (lCons (lv (vAnd (m2 hLe (lv (mp (.int 0))) (lv (m2 gIx (lv (mVar 1)) (lv (mp (.int 2)))))) (m2 hLt (lv (m2 gIx (lv (mVar 1)) (lv (mp (.int 2))))) (lv (m2 gIx (lv (mVar 3)) (lv (mp (.int 0)))))))) (mp [])))))))) (mp .nx))
  (mSeq (mIfS (mAnd (mT (m2 hEq (lv (mVar 2)) (lv (mp (.str "not"))))) (mNot (mT (mRvD (mCallA F_law_is_test (aD (m2 gIx (lv (mVar 1)) (lv (mp (.int 1)))) (aNil))))))) (mRet (mFz (mLst (mCons (mp (.str "test")) (mCons (m2 gIx (lv (mVar 1)) (lv (mp (.int 1)))) (mp [])))))) (mp .nx))
  (mSeq (mIfS (mT (m2 hIn (lv (mVar 2)) (lv (mFz (mLst (mCons (mp (.str "all")) (mCons (mp (.str "none")) (mCons (mp (.str "note")) (mp []))))))))) (mRet (mFz (mLst (mp [])))) (mp .nx))
  (mSeq (mForS (itS (mSl gSl (lv (mVar 1)) (mPart (mp (.int 1))) (mp none))) (gN 4) (mSeq (mSet 5 (mRvD (mCallA F_law_bad (aD (mVar 0) (aD (mVar 4) (aNil))))))
  (mIfS (mT (m2 hNe (lv (mVar 5)) (lv (mFz (mLst (mp [])))))) (mRet (mVar 5)) (mp .nx))))
  (mRet (mFz (mLst (mp []))))))))
-- slots: 0 _law_net_here, 1 _law_speech_here, 2 _law_rules, 3 _law_ties, 4 _law_rule, 5 _law_found, 6 _law_tie, 7 _law_place
def m_law_due (F_law_bad : Fd) (F_law_has_note : Fd) : M Out :=
  mSeq (mAsg (mVar 0) (gS 3 (gCons' (gN 1) (gCons' (gN 2) (gCons' (gN 3) (gNil'))))))
  (mSeq (mIfS (mOr (mT (m2 hLt (lv (mCl gLen (lCons (lv (mVar 1)) (mp [])))) (lv (mp (.int 2))))) (mT (m2 hNe (lv (mCl gLen (lCons (lv (mVar 2)) (mp [])))) (lv (m2 gIx (lv (m2 gIx (lv (mVar 1)) (lv (mp (.int 0))))) (lv (mp (.int 1)))))))) (mRet (mFz (mLst (mCons (mp (.str "net")) (mCons (mp .non) (mp [])))))) (mp .nx))
  (mSeq (mForS (itS (mVar 2)) (gN 4) (mSeq (mSet 5 (mRvD (mCallA F_law_bad (aD (mVar 1) (aD (mVar 4) (aNil))))))
  (mSeq (mIfS (mT (m2 hNe (lv (mVar 5)) (lv (mFz (mLst (mp [])))))) (mRet (mVar 5)) (mp .nx))
  (mIfS (mT (mRvD (mCallA F_law_has_note (aD (mVar 4) (aNil))))) (mRet (mFz (mLst (mCons (mp (.str "plain")) (mCons (mVar 4) (mp [])))))) (mp .nx)))))
  (mSeq (mForS (itS (mVar 3)) (gN 6) (mForS (itR rng1 (mCons (mp (.int 4)) (mp []))) (gN 7) (mIfS (mOr (mT (m2 hLt (lv (m2 gIx (lv (mVar 6)) (lv (mVar 7)))) (lv (mp (.int 0))))) (mT (m2 hGe (lv (m2 gIx (lv (mVar 6)) (lv (mVar 7)))) (lv (m2 gIx (lv (m2 gIx (lv (mVar 1)) (lv (m2 gMod (lv (mVar 7)) (lv (mp (.int 2))))))) (lv (mp (.int 1)))))))) (mRet (mFz (mLst (mCons (mp (.str "value")) (mCons (m2 gIx (lv (mVar 6)) (lv (mVar 7))) (mp [])))))) (mp .nx))))
  (mRet (mFz (mLst (mp [])))))))
-- slots: 0 _law_purse_here*, 1 _law_speech_here, 2 _law_rule, 3 _law_field, 4 _law_count, 5 _law_far, 6 _law_sort
def m_law_strange (F_law_take : Fd) : M Out :=
  mSeq (mAsg (m2 gIx (lv (mVar 1)) (lv (mRvD (mCallA F_law_take (aL 0 (aD (mCl gLen (lCons (lv (mVar 1)) (mp []))) (aNil))))))) (gS 2 (gCons' (gN 3) (gCons' (gN 4) (gNil')))))
  (mSeq (mSet 5 (m2 gIx (lv (mFz (mLst (mCons (vNeg (mp (.int 1))) (mCons (mVar 4) (mCons (m2 gAdd (lv (m2 gPow (lv (mp (.int 10))) (lv (mp (.int 59))))) (lv (mVar 4))) (mp []))))))) (lv (mRvD (mCallA F_law_take (aL 0 (aD (mp (.int 3)) (aNil))))))))
  (mSeq (mSet 6 (mRvD (mCallA F_law_take (aL 0 (aD (mp (.int 5)) (aNil))))))
  (mSeq (mIfS (mT (m2 hEq (lv (mVar 6)) (lv (mp (.int 0))))) (mRet (mTup (mCons (mp (.str "then")) (mCons (mVar 2) (mCons (mTup (mCons (mp (.str "is")) (mCons (m2 gAdd (lv (mVar 3)) (lv (mp (.str "x")))) (mCons (mVar 5) (mp []))))) (mp [])))))) (mp .nx))
  (mSeq (mIfS (mT (m2 hEq (lv (mVar 6)) (lv (mp (.int 1))))) (mRet (mTup (mCons (mp (.str "either")) (mCons (mTup (mCons (mp (.str "put")) (mCons (mVar 3) (mCons (mVar 5) (mp []))))) (mCons (mVar 2) (mp [])))))) (mp .nx))
  (mSeq (mIfS (mT (m2 hEq (lv (mVar 6)) (lv (mp (.int 2))))) (mRet (mTup (mCons (mp (.str "then")) (mCons (mTup (mCons (mp (.str "not")) (mCons (mTup (mCons (mp (.str "put")) (mCons (mVar 3) (mCons (mp (.int 0)) (mp []))))) (mp [])))) (mCons (mVar 2) (mp [])))))) (mp .nx))
  (mSeq (mIfS (mT (m2 hEq (lv (mVar 6)) (lv (mp (.int 3))))) (mRet (mTup (mCons (mp (.str "then")) (mCons (mVar 2) (mCons (mTup (mCons (mp (.str "again")) (mCons (mTup (mCons (mp (.str "note")) (mp []))) (mp [])))) (mp [])))))) (mp .nx))
  (mRet (mTup (mCons (mp (.str "either")) (mCons (mTup (mCons (mp (.str "note")) (mp []))) (mCons (mTup (mCons (mp (.str "is")) (mCons (mVar 3) (mCons (mVar 5) (mp []))))) (mp []))))))))))))
-- slots: 0 _law_net_here, 1 _law_purse_here*, 2 _law_speech_here, 3 _law_rules, 4 _law_ties, 5 _law_sort, 6 _law_at, 7 _law_place, 8 _law_count, 9 _law_far, 10 _law_tie*
def m_law_spoiled (F_law_take : Fd) (F_law_strange : Fd) : M Out :=
  mSeq (mAsg (mVar 0) (gS 3 (gCons' (gN 2) (gCons' (gN 3) (gCons' (gN 4) (gNil'))))))
  (mSeq (mSet 5 (mRvD (mCallA F_law_take (aL 1 (aD (mp (.int 6)) (aNil))))))
  (mSeq (mIfS (mT (m2 hEq (lv (mVar 5)) (lv (mp (.int 0))))) (mRet (mTup (mCons (mSl gSl (lv (mVar 2)) (mp none) (mPart (mp (.int 1)))) (mCons (mVar 3) (mCons (mVar 4) (mp [])))))) (mp .nx))
  (mSeq (mIfS (mT (m2 hEq (lv (mVar 5)) (lv (mp (.int 1))))) (mRet (mTup (mCons (mVar 2) (mCons (m2 gIx (lv (mFz (mLst (mCons (mSl gSl (lv (mVar 3)) (mp none) (mPart (vNeg (mp (.int 1))))) (mCons (m2 gAdd (lv (mVar 3)) (lv (mSl gSl (lv (mVar 3)) (mp none) (mPart (mp (.int 1)))))) (mp [])))))) (lv (mRvD (mCallA F_law_take (aL 1 (aD (mp (.int 2)) (aNil))))))) (mCons (mVar 4) (mp [])))))) (mp .nx))
  (mSeq (mIfS (mAnd (mT (m2 hLt (lv (mVar 5)) (lv (mp (.int 4))))) (mT (m2 hNe (lv (mVar 3)) (lv (mTup (mp [])))))) (mSeq (mSet 6 (mRvD (mCallA F_law_take (aL 1 (aD (mCl gLen (lCons (lv (mVar 3)) (mp []))) (aNil))))))
  (mRet (mTup (mCons (mVar 2) (mCons (m2 gAdd (lv (m2 gAdd (lv (mSl gSl (lv (mVar 3)) (mp none) (mPart (mVar 6)))) (lv (mTup (mCons (mRvD (mCallA F_law_strange (aL 1 (aD (mVar 2) (aD (m2 gIx (lv (mVar 3)) (lv (mVar 6))) (aNil)))))) (mp [])))))) (lv (mSl gSl (lv (mVar 3)) (mPart (m2 gAdd (lv (mVar 6)) (lv (mp (.int 1))))) (mp none)))) (mCons (mVar 4) (mp []))))))) (mp .nx))
  (mSeq (mSet 7 (mRvD (mCallA F_law_take (aL 1 (aD (mp (.int 4)) (aNil))))))
  (mSeq (mSet 8 (m2 gIx (lv (m2 gIx (lv (mVar 2)) (lv (mCl gMin (lCons (lv (m2 gMod (lv (mVar 7)) (lv (mp (.int 2))))) (lCons (lv (m2 gSub (lv (mCl gLen (lCons (lv (mVar 2)) (mp [])))) (lv (mp (.int 1))))) (mp []))))))) (lv (mp (.int 1)))))
  (mSeq (mSet 9 (m2 gIx (lv (mFz (mLst (mCons (vNeg (mp (.int 1))) (mCons (mVar 8) (mCons (m2 gAdd (lv (mVar 8)) (lv (mp (.int 1)))) (mCons (m2 gAdd (lv (m2 gPow (lv (mp (.int 10))) (lv (mp (.int 59))))) (lv (mVar 8))) (mCons (m2 gSub (lv (vNeg (mp (.int 1)))) (lv (m2 gPow (lv (mp (.int 10))) (lv (mp (.int 58)))))) (mp []))))))))) (lv (mRvD (mCallA F_law_take (aL 1 (aD (mp (.int 5)) (aNil))))))))
  (mSeq (mSetO 10 (mLst (mCons (mp (.int 0)) (mCons (mp (.int 0)) (mCons (mp (.int 0)) (mCons (mp (.int 0)) (mp [])))))))
  (mSeq (mPut 10 (mVar 9) (mVar 7))
  (mSeq (mIfS (mT (m2 hEq (lv (mRvD (mCallA F_law_take (aL 1 (aD (mp (.int 3)) (aNil)))))) (lv (mp (.int 1))))) (mPut 10 (m2 gPow (lv (mp (.int 10))) (lv (mp (.int 50)))) (mp (.int 3))) (mp .nx))
  (mSeq (mSet 6 (mRvD (mCallA F_law_take (aL 1 (aD (mp (.int 6)) (aNil))))))
  (mSeq (mSet 4 (mSl gSl (lv (mVar 4)) (mp none) (mPart (mp (.int 5)))))
  (mRet (mTup (mCons (mVar 2) (mCons (mVar 3) (mCons (m2 gAdd (lv (m2 gAdd (lv (mSl gSl (lv (mVar 4)) (mp none) (mPart (mVar 6)))) (lv (mTup (mCons (mCl gTuple (lCons (lName 10) (mp []))) (mp [])))))) (lv (mSl gSl (lv (mVar 4)) (mPart (mVar 6)) (mp none)))) (mp []))))))))))))))))))
-- slots: 0 _law_way, 1 _law_net_here, 2 _law_caught_here, 3 _law_e
def m_law_caught (A : Str → Addr) (F_must_net : Fd) (F_hops : Fd) (F_saying_of : Fd) (F_tables_of : Fd) : M Out :=
  mSeq (mSet 2 (mp .non))
  (mSeq (mTry A xcls 3 (mSeq (mIfS (mT (m2 hEq (lv (mVar 0)) (lv (mp (.int 0))))) (mDrop (mRvD (mCallA F_must_net (aD (mVar 1) (aNil))))) (mp .nx))
  (mSeq (mIfS (mT (m2 hEq (lv (mVar 0)) (lv (mp (.int 1))))) (mDrop (mRvD (mCallA F_hops (aD (mVar 1) (aD (m2 gTMul (lv (mTup (mCons (mp (.int 0)) (mp [])))) (lv (mCl gLen (lCons (lv (m2 gIx (lv (mVar 1)) (lv (mp (.int 0))))) (mp []))))) (aD (mp (.int 1)) (aNil))))))) (mp .nx))
  (mSeq (mIfS (mT (m2 hEq (lv (mVar 0)) (lv (mp (.int 2))))) (mDrop (mRvD (mCallA F_saying_of (aD (mVar 1) (aNil))))) (mp .nx))
  (mIfS (mT (m2 hEq (lv (mVar 0)) (lv (mp (.int 3))))) (mDrop (mRvD (mCallA F_tables_of (aD (mVar 1) (aNil))))) (mp .nx))))) (mSet 2 (mVar 3)))
  (mRet (mVar 2)))
-- slots: 0 _law_e, 1 _law_due_here, 2 _law_found, 3 _law_word
def m_law_refused (A : Str → Addr)  : M Out :=
  mSeq (mIfS (mOr (mNot (mT (mIsX A (xsub "ValueError") (mVar 0)))) (mT (mIsX A (xsub "TooGreat") (mVar 0)))) (mRet (mp (.bl false))) (mp .nx))
  (mSeq (mSet 2 (mFz (mLst (mCons (mIsX A (xsub "NoField") (mVar 0)) (mCons (mIsX A (xsub "NoValue") (mVar 0)) (mCons (mIsX A (xsub "NoTest") (mVar 0)) (mCons (mIsX A (xsub "NoPlain") (mVar 0)) (mp []))))))))
  (mSeq (mIfS (mT (m2 hNe (lv (m2 gAdd (lv (mVar 2)) (lv (mFz (mLst (mCons (mIsX A (xsub "NoNet") (mVar 0)) (mp []))))))) (lv (mFz (mLc [3] (itS (mFz (mLst (mCons (mp (.str "field")) (mCons (mp (.str "value")) (mCons (mp (.str "test")) (mCons (mp (.str "plain")) (mCons (mp (.str "net")) (mp []))))))))) (gN 3) (mp true) (m2 hEq (lv (m2 gIx (lv (mVar 1)) (lv (mp (.int 0))))) (lv (mVar 3)))))))) (mRet (mp (.bl false))) (mp .nx))
  (mSeq (mIfS (mT (m2 hEq (lv (m2 gIx (lv (mVar 1)) (lv (mp (.int 0))))) (lv (mp (.str "field"))))) (mRet (m2 hEq (lv (mXf A (xfld "field") "field" (mVar 0))) (lv (m2 gIx (lv (mVar 1)) (lv (mp (.int 1))))))) (mp .nx))
  (mSeq (mIfS (mT (m2 hEq (lv (m2 gIx (lv (mVar 1)) (lv (mp (.int 0))))) (lv (mp (.str "value"))))) (mRet (m2 hEq (lv (mXf A (xfld "value") "value" (mVar 0))) (lv (m2 gIx (lv (mVar 1)) (lv (mp (.int 1))))))) (mp .nx))
  (mRet (vOr (m2 hEq (lv (m2 gIx (lv (mVar 1)) (lv (mp (.int 0))))) (lv (mp (.str "net")))) (m2 hEq (lv (mXf A (xfld "saying") "saying" (mVar 0))) (lv (m2 gIx (lv (mVar 1)) (lv (mp (.int 1))))))))))))
-- slots: 0 _law_net_here, 1 _law_cell_here, 2 _law_due_here, 3 _law_k
def m_law_good (F_law_due : Fd) (F_must_net : Fd) (F_law_refused : Fd) (F_law_caught : Fd) : M Out :=
  mSeq (mSet 2 (mRvD (mCallA F_law_due (aD (mVar 0) (aNil)))))
  (mSeq (mIfS (mT (m2 hEq (lv (mVar 2)) (lv (mFz (mLst (mp [])))))) (mRet (m2 gIsN (lv (mRvD (mCallA F_must_net (aD (mVar 0) (aNil))))) (lv (mp .non)))) (mp .nx))
  (mSeq (mForS (itR rng1 (mCons (mp (.int 4)) (mp []))) (gN 3) (mIfS (mNot (mT (mRvD (mCallA F_law_refused (aD (mRvD (mCallA F_law_caught (aD (m2 gMod (lv (m2 gAdd (lv (mVar 1)) (lv (mVar 3)))) (lv (mp (.int 4)))) (aD (mVar 0) (aNil))))) (aD (mVar 2) (aNil))))))) (mRet (mp (.bl false))) (mp .nx)))
  (mRet (mp (.bl true)))))
-- slots: 0 _law_script, 1 _law_net_here, 2 _law_cell_here, 3 _law_purse_here*, 4 _law_other
def m_law (F_law_net : Fd) (F_law_good : Fd) (F_law_purse : Fd) (F_law_spoiled : Fd) : M Out :=
  mSeq (mSet 1 (mRvD (mCallA F_law_net (aD (mVar 0) (aD (mp (.int 12)) (aNil))))))
  (mSeq (mIfS (mNot (mT (mRvD (mCallA F_law_good (aD (mVar 1) (aD (mp (.int 0)) (aNil))))))) (mRet (mp (.bl false))) (mp .nx))
  (mSeq (mForS (itS (m2 gAdd (lv (mFz (mLst (mCons (mp (.int 1)) (mCons (mp (.int 2)) (mCons (mp (.int 3)) (mCons (mp (.int 5)) (mCons (mp (.int 9)) (mp []))))))))) (lv (mSl gSl (lv (mVar 0)) (mp none) (mPart (mp (.int 20))))))) (gN 2) (mSeq (mSetO 3 (mRvO (mCallA F_law_purse (aD (mVar 2) (aNil)))))
  (mSeq (mSet 4 (mRvD (mCallA F_law_spoiled (aD (mVar 1) (aL 3 (aNil))))))
  (mIfS (mOr (mNot (mT (mRvD (mCallA F_law_good (aD (mVar 4) (aD (mVar 2) (aNil))))))) (mNot (mT (mRvD (mCallA F_law_good (aD (mRvD (mCallA F_law_spoiled (aD (mVar 4) (aL 3 (aNil))))) (aD (mVar 2) (aNil)))))))) (mRet (mp (.bl false))) (mp .nx)))))
  (mRet (mp (.bl true)))))
end K72
set_option maxRecDepth 100000
set_option maxHeartbeats 4000000
namespace Sw
open PySem PySem.Spec L2

/-! ### loops that stop at the first thing due -/
theorem mFor_due {A : Str → Addr} {α : Type} {enc : α → D} {g : D → M Out} {b : M Out} {C : Ctx → Prop} {f : α → Option Du} : ∀ (ys : List α) (c : Ctx), C c →
    (∀ y ∈ ys, ∀ c, C c → ∃ c1, g (enc y) c = .ok .nx c1 ∧ ((f y = none ∧ ∃ c2, b c1 = .ok .nx c2 ∧ C c2) ∨ ∃ du c2, f y = some du ∧ b c1 = .er (du.ex A) c2)) →
    (ys.findSome? f = none ∧ ∃ c', mFor g b (ys.map enc) c = .ok .nx c' ∧ C c') ∨ ∃ du c', ys.findSome? f = some du ∧ mFor g b (ys.map enc) c = .er (du.ex A) c'
  | [], c, h, _ => .inl ⟨rfl, c, rfl, h⟩
  | y :: ys, c, h, one => by
    obtain ⟨c1, e1, h1⟩ := one y List.mem_cons_self c h
    rw [List.map_cons, mFor_cons, e1, Rs.qt_ok, Rs.bnd_ok, tk1_nx]
    rcases h1 with ⟨hp, c2, e2, h2⟩ | ⟨du, c2, hp, e2⟩
    · have r := mFor_due (A := A) (f := f) (enc := enc) ys c2 h2 fun z hz => one z (List.mem_cons_of_mem _ hz)
      rw [e2, Rs.bnd_ok, tk2_nx, List.findSome?_cons, hp]
      exact r
    · rw [e2, Rs.bnd_er, List.findSome?_cons, hp]
      exact .inr ⟨du, c2, rfl, rfl⟩
theorem mFor_ret {α : Type} {enc : α → D} {g : D → M Out} {b : M Out} {C : Ctx → Prop} {f : α → Option Du} {v : Du → Rv} : ∀ (ys : List α) (c : Ctx), C c →
    (∀ y ∈ ys, ∀ c, C c → ∃ c1, g (enc y) c = .ok .nx c1 ∧ ((f y = none ∧ ∃ c2, b c1 = .ok .nx c2 ∧ C c2) ∨ ∃ du c2, f y = some du ∧ b c1 = .ok (.rt (v du)) c2)) →
    (ys.findSome? f = none ∧ ∃ c', mFor g b (ys.map enc) c = .ok .nx c' ∧ C c') ∨ ∃ du c', ys.findSome? f = some du ∧ mFor g b (ys.map enc) c = .ok (.rt (v du)) c'
  | [], c, h, _ => .inl ⟨rfl, c, rfl, h⟩
  | y :: ys, c, h, one => by
    obtain ⟨c1, e1, h1⟩ := one y List.mem_cons_self c h
    rw [List.map_cons, mFor_cons, e1, Rs.qt_ok, Rs.bnd_ok, tk1_nx]
    rcases h1 with ⟨hp, c2, e2, h2⟩ | ⟨du, c2, hp, e2⟩
    · have r := mFor_ret (f := f) (v := v) (enc := enc) ys c2 h2 fun z hz => one z (List.mem_cons_of_mem _ hz)
      rw [e2, Rs.bnd_ok, tk2_nx, List.findSome?_cons, hp]
      exact r
    · rw [e2, Rs.bnd_ok, tk2_rt, List.findSome?_cons, hp]
      exact .inr ⟨du, c2, rfl, rfl⟩

/-! ### nets -/
abbrev Ties := List (List Int)
structure Net where
  sp : Sp
  rules : List Say
  ties : Ties
def enN (n : Net) : D := .nd .tup [enSp n.sp, .nd .tup (n.rules.map enS), .nd .tup (n.ties.map enL)]
structure NetOk (B : Nat) (n : Net) : Prop where
  s1 : 1 ≤ n.sp.length
  s3 : n.sp.length ≤ 3
  cnt : ∀ q ∈ n.sp, 1 ≤ q.2 ∧ q.2 ≤ 6
  nm : ∀ q ∈ n.sp, Asc 8 q.1
  d01 : ∀ q0 q1, n.sp[0]? = some q0 → n.sp[1]? = some q1 → q0.1 ≠ q1.1
  rf : ∀ s ∈ n.rules, s.Fine ∧ s.dep ≤ B
  rl : n.rules.length ≤ 90 + B
  tl : ∀ t ∈ n.ties, t.length = 4
  tn : n.ties.length ≤ 100
theorem NetOk.spN {B : Nat} {n : Net} (h : NetOk B n) : SpN n.sp := ⟨by have := h.s3; omega, fun q hq => (h.nm q hq).ok⟩
def plainDu (s : Say) : Option Du := if 0 < s.notes then some (.pln (enS s)) else none
def ruleDu (sp : Sp) (s : Say) : Option Du := (s.due sp).or (plainDu s)
def cntAt (sp : Sp) (k : Nat) : Int := (sp.getD (k % 2) ("", 0)).2
def tieAt (sp : Sp) (t : List Int) (k : Nat) : Option Du := if 0 ≤ t.getD k 0 ∧ t.getD k 0 < cntAt sp k then none else some (.val (t.getD k 0))
def tieDu (sp : Sp) (t : List Int) : Option Du := (List.range 4).findSome? (tieAt sp t)
def Net.due (n : Net) : Option Du := if n.sp.length < 2 ∨ (n.rules.length : Int) ≠ (n.sp.getD 0 ("", 0)).2 then some .net else (n.rules.findSome? (ruleDu n.sp)).or (n.ties.findSome? (tieDu n.sp))
def fPlain (A : Str → Addr) : Fd := fnM 1 (K72.m_must_plain A (fNotesIn 70))
theorem plain_run (A : Str → Addr) {s : Say} (h : s.dep < 70) : ∃ c, fPlain A [.d (enS s)] = outDu A (plainDu s) c := by
  obtain ⟨c1, e1⟩ := notesIn_run 70 s h
  unfold fPlain plainDu
  rw [fnM_r]
  unfold K72.m_must_plain
  refine ⟨[.d (enS s)], ?_⟩
  by_cases hn : 0 < s.notes
  · have : (0 : Int) < (s.notes : Int) := by omega
    simp [e1, hn, this, outDu, Du.ex]
  · have : ¬ (0 : Int) < (s.notes : Int) := by omega
    simp [e1, hn, this, outDu]
theorem spIx {sp : Sp} {k : Nat} {q : Str × Int} (h : sp[k]? = some q) : gIx (enSp sp) (.int (k : Nat)) = some (enF q) := by
  show L2.atI (sp.map enF) (k : Nat) = _
  rw [atI_pos (by omega), List.getElem?_map]
  simp [h]
theorem enL_ix {t : List Int} {k : Nat} (h : k < t.length) : gIx (enL t) (.int (k : Nat)) = some (.int (t.getD k 0)) := by
  show L2.atI (t.map D.int) (k : Nat) = _
  rw [atI_pos (by omega), List.getElem?_map]
  simp [List.getD_eq_getElem?_getD, List.getElem?_eq_getElem h]
theorem getD_lt {sp : Sp} {k : Nat} (h : k < sp.length) : sp[k]? = some (sp.getD k ("", 0)) := by
  rw [List.getD_eq_getElem?_getD, List.getElem?_eq_getElem h]
  rfl
/-- the first two fields stand at their own places -/
theorem fi_own {sp : Sp} (h2 : 2 ≤ sp.length) (d : ∀ q0 q1, sp[0]? = some q0 → sp[1]? = some q1 → q0.1 ≠ q1.1) (k : Nat) : fi sp (sp.getD (k % 2) ("", 0)).1 = some (k % 2) := by
  match sp, h2 with
  | q0 :: q1 :: r, _ =>
    have hk : k % 2 = 0 ∨ k % 2 = 1 := by omega
    rcases hk with hk | hk
    · rw [hk]
      show fi _ q0.1 = _
      rw [fi_cons, if_pos rfl]
    · rw [hk]
      show fi _ q1.1 = _
      rw [fi_cons, if_neg (d q0 q1 rfl rfl), fi_cons, if_pos rfl]
      rfl
def fTie (A : Str → Addr) : Fd := fnM 3 (K72.m_must_tie (fMust A))
theorem rng4 : rng 0 4 = (List.range 4).map fun k : Nat => D.int (k : Int) := by
  unfold rng
  exact List.map_congr_left fun k _ => by rw [Int.zero_add]
theorem tie_run (A : Str → Addr) {B : Nat} {n : Net} (h : NetOk B n) (h2 : 2 ≤ n.sp.length) {t : List Int} (ht : t.length = 4) : ∃ c, fTie A [.d (enSp n.sp), .d (enL t)] = outDu A (tieDu n.sp t) c := by
  have r := mFor_due (A := A) (enc := fun k : Nat => D.int (k : Int)) (g := gN 2) (b := mDrop (mRvD (mCallA (fMust A) (aD (mVar 0) (aD (m2 gIx (lv (m2 gIx (lv (mVar 0)) (lv (m2 gMod (lv (mVar 2)) (lv (mp (.int 2))))))) (lv (mp (.int 0)))) (aD (m2 gIx (lv (mVar 1)) (lv (mVar 2))) (aNil)))))))
    (C := fun c => ∃ s2, c = [.d (enSp n.sp), .d (enL t), s2]) (f := tieAt n.sp t) (List.range 4) [.d (enSp n.sp), .d (enL t), .no] ⟨_, rfl⟩ (by
      rintro k hk c ⟨s2, rfl⟩
      have hk4 : k < 4 := List.mem_range.mp hk
      have hm : ((k : Int) % 2) = ((k % 2 : Nat) : Int) := by omega
      have hq := getD_lt (sp := n.sp) (k := k % 2) (by omega)
      obtain ⟨q, hqe⟩ : ∃ q, n.sp.getD (k % 2) ("", 0) = q := ⟨_, rfl⟩
      have hfi := fi_own h2 h.d01 k
      rw [hqe] at hq hfi
      have e1 := spIx hq
      have e2 : gIx (enF q) (.int 0) = some (.str q.1) := rfl
      have e3 := enL_ix (t := t) (k := k) (by omega)
      have e4 : gMod (.int (k : Int)) (.int 2) = some (.int ((k % 2 : Nat) : Int)) := by rw [gMod_i (by omega), hm]
      obtain ⟨K, hK⟩ : ∃ K : Int, (k : Int) = K := ⟨_, rfl⟩
      obtain ⟨K2, hK2⟩ : ∃ K2 : Int, ((k % 2 : Nat) : Int) = K2 := ⟨_, rfl⟩
      rw [hK2] at e1 e4
      rw [hK] at e3 e4 ⊢
      obtain ⟨x, hx⟩ : ∃ x, t.getD k 0 = x := ⟨_, rfl⟩
      rw [hx] at e3
      refine ⟨[.d (enSp n.sp), .d (enL t), .d (.int K)], by simp, ?_⟩
      rcases must_run A h.spN (h.nm q (List.mem_of_getElem? hq)).ok x with ⟨h1, i, q', c1, _, _, _, _, em⟩ | ⟨du, c1, h1, em⟩
      · refine .inl ⟨?_, [.d (enSp n.sp), .d (enL t), .d (.int K)], by simp [e1, e2, e3, e4, em], _, rfl⟩
        unfold mvDu at h1
        rw [hfi] at h1
        simp only at h1
        rw [getD_some hq] at h1
        unfold tieAt cntAt
        rw [hqe, hx]
        split at h1
        · rename_i hr
          rw [if_pos hr]
        · cases h1
      · refine .inr ⟨du, [.d (enSp n.sp), .d (enL t), .d (.int K)], ?_, by simp [e1, e2, e3, e4, em]⟩
        unfold mvDu at h1
        rw [hfi] at h1
        simp only at h1
        rw [getD_some hq] at h1
        unfold tieAt cntAt
        rw [hqe, hx]
        split at h1
        · cases h1
        · rename_i hr
          rw [if_neg hr]
          exact h1)
  rw [← rng4] at r
  unfold fTie
  rw [fnM_r]
  unfold K72.m_must_tie tieDu
  rcases r with ⟨h1, c', e, s2, rfl⟩ | ⟨du, c', h1, e⟩
  · rw [h1]
    exact ⟨[.d (enSp n.sp), .d (enL t), s2], by simp [e, outDu]⟩
  · rw [h1]
    exact ⟨c', by simp [e, outDu]⟩
def fNet (A : Str → Addr) : Fd := fnM 6 (K72.m_must_net A (fMustS A 70) (fPlain A) (fTie A))
theorem net_ix (n : Net) : enN n = .nd .tup [enSp n.sp, .nd .tup (n.rules.map enS), .nd .tup (n.ties.map enL)] := rfl
theorem net_run (A : Str → Addr) {B : Nat} {n : Net} (h : NetOk B n) (hB : B < 70) : ∃ c, fNet A [.d (enN n)] = outDu A n.due c := by
  have q0 := getD_lt (sp := n.sp) (k := 0) (by have := h.s1; omega)
  obtain ⟨q, hq⟩ : ∃ q, n.sp.getD 0 ("", 0) = q := ⟨_, rfl⟩
  rw [hq] at q0
  have i0 : gIx (enSp n.sp) (.int 0) = some (enF q) := spIx (k := 0) q0
  have i1 : gIx (enF q) (.int 1) = some (.int q.2) := rfl
  obtain ⟨L, hL⟩ : ∃ L : Int, (n.sp.length : Int) = L := ⟨_, rfl⟩
  have gl : gLen [enSp n.sp] = some (.int L) := by
    show some (D.int _) = _
    rw [List.length_map, hL]
  obtain ⟨R, hR⟩ : ∃ R : Int, (n.rules.length : Int) = R := ⟨_, rfl⟩
  have gr : gLen [.nd .tup (n.rules.map enS)] = some (.int R) := by
    show some (D.int _) = _
    rw [List.length_map, hR]
  unfold fNet Net.due
  rw [fnM_r, hq, net_ix]
  unfold K72.m_must_net
  by_cases hs : n.sp.length < 2
  · have hs' : L < 2 := by omega
    rw [if_pos (.inl hs)]
    exact ⟨[.d (enN n), .d (enSp n.sp), .d (.nd .tup (n.rules.map enS)), .d (.nd .tup (n.ties.map enL)), .no, .no], by rw [net_ix]; simp [gl, hs', outDu, Du.ex]⟩
  have hs' : ¬ L < 2 := by omega
  by_cases hr : (n.rules.length : Int) ≠ q.2
  · have hr' : ¬ R = q.2 := by rw [← hR]; exact hr
    rw [if_pos (.inr hr)]
    exact ⟨[.d (enN n), .d (enSp n.sp), .d (.nd .tup (n.rules.map enS)), .d (.nd .tup (n.ties.map enL)), .no, .no], by rw [net_ix]; simp [gl, hs', gr, i0, i1, hr', outDu, Du.ex]⟩
  have hr' : R = q.2 := by rw [← hR]; exact Classical.byContradiction fun z => hr z
  rw [if_neg (by rintro (z | z); exact hs z; exact hr z)]
  have r1 := mFor_due (A := A) (enc := enS) (g := gN 4) (b := mSeq (mDrop (mRvD (mCallA (fMustS A 70) (aD (mVar 1) (aD (mVar 4) (aNil))))))
  (mDrop (mRvD (mCallA (fPlain A) (aD (mVar 4) (aNil)))))) (C := fun c => ∃ s4, c = [.d (enN n), .d (enSp n.sp), .d (.nd .tup (n.rules.map enS)), .d (.nd .tup (n.ties.map enL)), s4, .no]) (f := ruleDu n.sp) n.rules
    [.d (enN n), .d (enSp n.sp), .d (.nd .tup (n.rules.map enS)), .d (.nd .tup (n.ties.map enL)), .no, .no] ⟨_, rfl⟩ (by
      rintro s hs c ⟨s4, rfl⟩
      obtain ⟨f1, f2⟩ := h.rf s hs
      obtain ⟨c1, e1⟩ := mustS_run A h.spN 70 s f1 (by omega) (by omega)
      obtain ⟨c2, e2⟩ := plain_run A (s := s) (by omega)
      refine ⟨[.d (enN n), .d (enSp n.sp), .d (.nd .tup (n.rules.map enS)), .d (.nd .tup (n.ties.map enL)), .d (enS s), .no], by simp, ?_⟩
      unfold ruleDu
      cases hd : s.due n.sp with
      | some du =>
        rw [hd] at e1
        unfold outDu at e1
        exact .inr ⟨du, [.d (enN n), .d (enSp n.sp), .d (.nd .tup (n.rules.map enS)), .d (.nd .tup (n.ties.map enL)), .d (enS s), .no], rfl, by simp [e1]⟩
      | none =>
        rw [hd] at e1
        unfold outDu at e1 e2
        cases hp : plainDu s with
        | some du =>
          rw [hp] at e2
          exact .inr ⟨du, [.d (enN n), .d (enSp n.sp), .d (.nd .tup (n.rules.map enS)), .d (.nd .tup (n.ties.map enL)), .d (enS s), .no], rfl, by simp [e1, e2]⟩
        | none =>
          rw [hp] at e2
          exact .inl ⟨rfl, [.d (enN n), .d (enSp n.sp), .d (.nd .tup (n.rules.map enS)), .d (.nd .tup (n.ties.map enL)), .d (enS s), .no], by simp [e1, e2], _, rfl⟩)
  rcases r1 with ⟨h1, c1, e1, s4, rfl⟩ | ⟨du, c1, h1, e1⟩
  · rw [h1]
    have r2 := mFor_due (A := A) (enc := enL) (g := gN 5) (b := mDrop (mRvD (mCallA (fTie A) (aD (mVar 1) (aD (mVar 5) (aNil)))))) (C := fun c => ∃ s5, c = [.d (enN n), .d (enSp n.sp), .d (.nd .tup (n.rules.map enS)), .d (.nd .tup (n.ties.map enL)), s4, s5]) (f := tieDu n.sp) n.ties
      [.d (enN n), .d (enSp n.sp), .d (.nd .tup (n.rules.map enS)), .d (.nd .tup (n.ties.map enL)), s4, .no] ⟨_, rfl⟩ (by
        rintro t ht c ⟨s5, rfl⟩
        obtain ⟨c1, e1⟩ := tie_run A h (by omega) (h.tl t ht)
        refine ⟨[.d (enN n), .d (enSp n.sp), .d (.nd .tup (n.rules.map enS)), .d (.nd .tup (n.ties.map enL)), s4, .d (enL t)], by simp, ?_⟩
        cases hd : tieDu n.sp t with
        | some du =>
          rw [hd] at e1
          unfold outDu at e1
          exact .inr ⟨du, [.d (enN n), .d (enSp n.sp), .d (.nd .tup (n.rules.map enS)), .d (.nd .tup (n.ties.map enL)), s4, .d (enL t)], rfl, by simp [e1]⟩
        | none =>
          rw [hd] at e1
          unfold outDu at e1
          exact .inl ⟨rfl, [.d (enN n), .d (enSp n.sp), .d (.nd .tup (n.rules.map enS)), .d (.nd .tup (n.ties.map enL)), s4, .d (enL t)], by simp [e1], _, rfl⟩)
    rw [net_ix] at e1 r2
    rcases r2 with ⟨h2, c2, e2, s5, rfl⟩ | ⟨du, c2, h2, e2⟩
    · rw [h2]
      exact ⟨[.d (enN n), .d (enSp n.sp), .d (.nd .tup (n.rules.map enS)), .d (.nd .tup (n.ties.map enL)), s4, s5], by rw [net_ix]; simp [gl, hs', gr, i0, i1, hr', e1, e2, outDu]⟩
    · rw [h2]
      exact ⟨c2, by simp [gl, hs', gr, i0, i1, hr', e1, e2, outDu]⟩
  · rw [h1]
    rw [net_ix] at e1
    exact ⟨c1, by simp [gl, hs', gr, i0, i1, hr', e1, outDu]⟩
end Sw
set_option maxRecDepth 100000
set_option maxHeartbeats 4000000
namespace Sw
open PySem PySem.Spec L2

/-! ### has it a note -/
def fHasN : Nat → Fd
  | 0 => fun _ => .stk
  | k + 1 => fnM 2 (K72.m_law_has_note (fHasN k))
theorem hasn_lc {k : Nat} {x : D} {ks : List Say} {mi : M (List D)} (hi : mi [.d x, .no] = .ok (ks.map enS) [.d x, .no]) (hk : ∀ t ∈ ks, ∃ c, fHasN k [.d (enS t)] = .ok (.d (.bl (decide (0 < t.notes)))) c) (hl : ks.length ≤ 2) :
    mLc [1] mi (gN 1) (mT (mRvD (mCallA (fHasN k) (aD (mVar 1) aNil)))) (mVar 1) [.d x, .no] = .ok (.lst ((ks.filter fun t => decide (0 < t.notes)).map enS)) [.d x, .no] :=
  mLc_if (enc := enS) (fun t : Say => decide (0 < t.notes)) enS ks hi (fun t ht => by
    obtain ⟨c, e⟩ := hk t ht
    exact ⟨[.d x, .d (enS t)], [.d x, .d (enS t)], by simp, by simp [e], by simp, fun _ => ⟨[.d x, .d (enS t)], by simp, by simp⟩⟩) (by omega)
theorem hasn_run : ∀ (k : Nat) (s : Say), s.dep < k → ∃ c, fHasN k [.d (enS s)] = .ok (.d (.bl (decide (0 < s.notes)))) c
  | 0, s, h => by omega
  | k + 1, s, h => by
    show ∃ c, fnM 2 (K72.m_law_has_note (fHasN k)) _ = _
    rw [fnM_r]
    unfold K72.m_law_has_note
    refine ⟨[.d (enS s), .no], ?_⟩
    cases s with
    | non => simp [hIn_l, hEq_s, Say.tag, Say.notes]
    | all => simp [hIn_l, hEq_s, Say.tag, Say.notes]
    | note => simp [hIn_l, hEq_s, Say.tag, Say.notes]
    | is f v => simp [hIn_l, hEq_s, Say.tag, Say.notes]
    | put f v => simp [hIn_l, hEq_s, Say.tag, Say.notes]
    | no s =>
      have el := hasn_lc (k := k) (x := enS (.no s)) (ks := [s]) (mi := itS (mSl gSl (lv (mVar 0)) (mPart (mp (.int 1))) (mp none))) (by simp) (fun t ht => hasn_run k t (by rw [List.mem_singleton.mp ht]; simp [Say.dep] at h; omega)) (by simp)
      by_cases ht : 0 < s.notes <;> simp [el, hIn_l, Say.tag, Say.notes, ht]
    | ag s =>
      have el := hasn_lc (k := k) (x := enS (.ag s)) (ks := [s]) (mi := itS (mSl gSl (lv (mVar 0)) (mPart (mp (.int 1))) (mp none))) (by simp) (fun t ht => hasn_run k t (by rw [List.mem_singleton.mp ht]; simp [Say.dep] at h; omega)) (by simp)
      by_cases ht : 0 < s.notes <;> simp [el, hIn_l, Say.tag, Say.notes, ht]
    | ei a b =>
      have el := hasn_lc (k := k) (x := enS (.ei a b)) (ks := [a, b]) (mi := itS (mSl gSl (lv (mVar 0)) (mPart (mp (.int 1))) (mp none))) (by simp) (fun t ht => hasn_run k t (by simp at ht; simp [Say.dep] at h; rcases ht with rfl | rfl <;> omega)) (by simp)
      have hs : decide (0 < a.notes + b.notes) = (decide (0 < a.notes) || decide (0 < b.notes)) := by
        by_cases ha : 0 < a.notes <;> by_cases hb : 0 < b.notes <;> simp [ha, hb] <;> omega
      show _ = Rs.ok (Rv.d (.bl (decide (0 < a.notes + b.notes)))) _
      rw [hs]
      by_cases ha : 0 < a.notes <;> by_cases hb : 0 < b.notes <;> simp [el, hIn_l, Say.tag, ha, hb]
    | th a b =>
      have el := hasn_lc (k := k) (x := enS (.th a b)) (ks := [a, b]) (mi := itS (mSl gSl (lv (mVar 0)) (mPart (mp (.int 1))) (mp none))) (by simp) (fun t ht => hasn_run k t (by simp at ht; simp [Say.dep] at h; rcases ht with rfl | rfl <;> omega)) (by simp)
      have hs : decide (0 < a.notes + b.notes) = (decide (0 < a.notes) || decide (0 < b.notes)) := by
        by_cases ha : 0 < a.notes <;> by_cases hb : 0 < b.notes <;> simp [ha, hb] <;> omega
      show _ = Rs.ok (Rv.d (.bl (decide (0 < a.notes + b.notes)))) _
      rw [hs]
      by_cases ha : 0 < a.notes <;> by_cases hb : 0 < b.notes <;> simp [el, hIn_l, Say.tag, ha, hb]

/-! ### what is due of a net -/
def DuOk (B : Nat) (du : Du) : Prop := (∃ f, du = .fld f ∧ PySem.PyData.strOk f = true) ∨ (∃ v, du = .val v) ∨ (∃ t : Say, du = .tst (enS t) ∧ t.Fine ∧ t.dep ≤ B) ∨ (∃ t : Say, du = .pln (enS t) ∧ t.Fine ∧ t.dep ≤ B) ∨ du = .net
theorem ruleDu_ok {sp : Sp} {B : Nat} {s : Say} {du : Du} (f : s.Fine) (d : s.dep ≤ B) (h : ruleDu sp s = some du) : DuOk B du := by
  unfold ruleDu at h
  rcases Option.or_eq_some_iff.mp h with h | ⟨_, h⟩
  · rcases due_cases f h with q | q | ⟨t, q1, q2, q3⟩
    · exact .inl q
    · exact .inr (.inl q)
    · exact .inr (.inr (.inl ⟨t, q1, q2, by omega⟩))
  · unfold plainDu at h
    split at h
    · cases h; exact .inr (.inr (.inr (.inl ⟨s, rfl, f, d⟩)))
    · cases h
theorem tieAt_ok {sp : Sp} {B : Nat} {t : List Int} {k : Nat} {du : Du} (h : tieAt sp t k = some du) : DuOk B du := by
  unfold tieAt at h
  split at h
  · cases h
  · cases h; exact .inr (.inl ⟨_, rfl⟩)
theorem Net.due_ok {B : Nat} {n : Net} {du : Du} (h : NetOk B n) (hd : n.due = some du) : DuOk B du := by
  unfold Net.due at hd
  split at hd
  · cases hd; exact .inr (.inr (.inr (.inr rfl)))
  · rcases Option.or_eq_some_iff.mp hd with hd | ⟨_, hd⟩
    · obtain ⟨s, hs, e⟩ := List.exists_of_findSome?_eq_some hd
      obtain ⟨f1, f2⟩ := h.rf s hs
      exact ruleDu_ok f1 f2 e
    · obtain ⟨t, ht, e⟩ := List.exists_of_findSome?_eq_some hd
      obtain ⟨k, hk, e⟩ := List.exists_of_findSome?_eq_some e
      exact tieAt_ok e
theorem DuOk.ne {B : Nat} {du : Du} (h : DuOk B du) (f : Bool → Bool) : gEqN f (enDu (some du)) (.nd .lst []) = some (.bl (f false)) := by
  rcases h with ⟨g, rfl, hg⟩ | ⟨v, rfl⟩ | ⟨t, rfl, ht, _⟩ | ⟨t, rfl, ht, _⟩ | rfl
  · exact eq_nil (by simp [D.pl, hg])
  · exact eq_nil (by simp [D.pl])
  · exact eq_nil (by simp [ht.pl])
  · exact eq_nil (by simp [ht.pl])
  · exact eq_nil (by decide +kernel)
def fDueN : Fd := fnM 8 (K72.m_law_due (fDue 70) (fHasN 70))
theorem dueN_run {B : Nat} {n : Net} (h : NetOk B n) (hB : B < 70) : ∃ c, fDueN [.d (enN n)] = .ok (.d (enDu n.due)) c := by
  have q0 := getD_lt (sp := n.sp) (k := 0) (by have := h.s1; omega)
  obtain ⟨q, hq⟩ : ∃ q, n.sp.getD 0 ("", 0) = q := ⟨_, rfl⟩
  rw [hq] at q0
  have i0 : gIx (enSp n.sp) (.int 0) = some (enF q) := spIx (k := 0) q0
  have i1 : gIx (enF q) (.int 1) = some (.int q.2) := rfl
  obtain ⟨L, hL⟩ : ∃ L : Int, (n.sp.length : Int) = L := ⟨_, rfl⟩
  have gl : gLen [enSp n.sp] = some (.int L) := by
    show some (D.int _) = _
    rw [List.length_map, hL]
  obtain ⟨R, hR⟩ : ∃ R : Int, (n.rules.length : Int) = R := ⟨_, rfl⟩
  have gr : gLen [.nd .tup (n.rules.map enS)] = some (.int R) := by
    show some (D.int _) = _
    rw [List.length_map, hR]
  have en : D.nd .lst [.str "net", .non] = enDu (some .net) := rfl
  have e0 : D.nd .lst [] = enDu none := rfl
  have nn : gEqN not (.nd .lst []) (.nd .lst []) = some (.bl false) := eq_nn
  unfold fDueN Net.due
  rw [fnM_r, hq, net_ix]
  unfold K72.m_law_due
  by_cases hs : n.sp.length < 2
  · have hs' : L < 2 := by omega
    rw [if_pos (.inl hs)]
    exact ⟨[.d (enN n), .d (enSp n.sp), .d (.nd .tup (n.rules.map enS)), .d (.nd .tup (n.ties.map enL)), .no, .no, .no, .no], by rw [net_ix]; simp [gl, hs', en]⟩
  have hs' : ¬ L < 2 := by omega
  by_cases hr : (n.rules.length : Int) ≠ q.2
  · have hr' : ¬ R = q.2 := by rw [← hR]; exact hr
    rw [if_pos (.inr hr)]
    exact ⟨[.d (enN n), .d (enSp n.sp), .d (.nd .tup (n.rules.map enS)), .d (.nd .tup (n.ties.map enL)), .no, .no, .no, .no], by rw [net_ix]; simp [gl, hs', gr, i0, i1, hr', en]⟩
  have hr' : R = q.2 := by rw [← hR]; exact Classical.byContradiction fun z => hr z
  rw [if_neg (by rintro (z | z); exact hs z; exact hr z)]
  have r1 := mFor_ret (enc := enS) (g := gN 4) (b := mSeq (mSet 5 (mRvD (mCallA (fDue 70) (aD (mVar 1) (aD (mVar 4) (aNil))))))
  (mSeq (mIfS (mT (m2 hNe (lv (mVar 5)) (lv (mFz (mLst (mp [])))))) (mRet (mVar 5)) (mp .nx))
  (mIfS (mT (mRvD (mCallA (fHasN 70) (aD (mVar 4) (aNil))))) (mRet (mFz (mLst (mCons (mp (.str "plain")) (mCons (mVar 4) (mp [])))))) (mp .nx)))) (C := fun c => ∃ s4 s5, c = [.d (enN n), .d (enSp n.sp), .d (.nd .tup (n.rules.map enS)), .d (.nd .tup (n.ties.map enL)), s4, s5, .no, .no]) (f := ruleDu n.sp) (v := fun du => .d (enDu (some du))) n.rules
    [.d (enN n), .d (enSp n.sp), .d (.nd .tup (n.rules.map enS)), .d (.nd .tup (n.ties.map enL)), .no, .no, .no, .no] ⟨_, _, rfl⟩ (by
      rintro s hs c ⟨s4, s5, rfl⟩
      obtain ⟨f1, f2⟩ := h.rf s hs
      obtain ⟨c1, e1⟩ := due_run h.spN 70 s f1 (by omega) (by omega)
      obtain ⟨c2, e2⟩ := hasn_run 70 s (by omega)
      refine ⟨[.d (enN n), .d (enSp n.sp), .d (.nd .tup (n.rules.map enS)), .d (.nd .tup (n.ties.map enL)), .d (enS s), s5, .no, .no], by simp, ?_⟩
      unfold ruleDu plainDu
      cases hd : s.due n.sp with
      | some du =>
        rw [hd] at e1
        have nx := enDu_pl f1 hd (f := not)
        exact .inr ⟨du, [.d (enN n), .d (enSp n.sp), .d (.nd .tup (n.rules.map enS)), .d (.nd .tup (n.ties.map enL)), .d (enS s), .d (enDu (some du)), .no, .no], rfl, by simp [e1, nx]⟩
      | none =>
        rw [hd] at e1
        have e1 : fDue 70 [.d (enSp n.sp), .d (enS s)] = .ok (.d (.nd .lst [])) c1 := e1
        by_cases hp : 0 < s.notes
        · have ep : D.nd .lst [.str "plain", enS s] = enDu (some (.pln (enS s))) := rfl
          exact .inr ⟨.pln (enS s), [.d (enN n), .d (enSp n.sp), .d (.nd .tup (n.rules.map enS)), .d (.nd .tup (n.ties.map enL)), .d (enS s), .d (.nd .lst []), .no, .no], by simp [hp], by simp [e1, e2, nn, hp, ep]⟩
        · exact .inl ⟨by simp [hp], [.d (enN n), .d (enSp n.sp), .d (.nd .tup (n.rules.map enS)), .d (.nd .tup (n.ties.map enL)), .d (enS s), .d (.nd .lst []), .no, .no], by simp [e1, e2, nn, hp], _, _, rfl⟩)
  rcases r1 with ⟨h1, c1, e1, s4, s5, rfl⟩ | ⟨du, c1, h1, e1⟩
  · rw [h1]
    have r2 := mFor_ret (enc := enL) (g := gN 6) (b := mForS (itR rng1 (mCons (mp (.int 4)) (mp []))) (gN 7) (mIfS (mOr (mT (m2 hLt (lv (m2 gIx (lv (mVar 6)) (lv (mVar 7)))) (lv (mp (.int 0))))) (mT (m2 hGe (lv (m2 gIx (lv (mVar 6)) (lv (mVar 7)))) (lv (m2 gIx (lv (m2 gIx (lv (mVar 1)) (lv (m2 gMod (lv (mVar 7)) (lv (mp (.int 2))))))) (lv (mp (.int 1)))))))) (mRet (mFz (mLst (mCons (mp (.str "value")) (mCons (m2 gIx (lv (mVar 6)) (lv (mVar 7))) (mp [])))))) (mp .nx)))
      (C := fun c => ∃ s6 s7, c = [.d (enN n), .d (enSp n.sp), .d (.nd .tup (n.rules.map enS)), .d (.nd .tup (n.ties.map enL)), s4, s5, s6, s7]) (f := tieDu n.sp) (v := fun du => .d (enDu (some du))) n.ties
      [.d (enN n), .d (enSp n.sp), .d (.nd .tup (n.rules.map enS)), .d (.nd .tup (n.ties.map enL)), s4, s5, .no, .no] ⟨_, _, rfl⟩ (by
        rintro t ht c ⟨s6, s7, rfl⟩
        have h4 := h.tl t ht
        refine ⟨[.d (enN n), .d (enSp n.sp), .d (.nd .tup (n.rules.map enS)), .d (.nd .tup (n.ties.map enL)), s4, s5, .d (enL t), s7], by simp, ?_⟩
        have r3 := mFor_ret (enc := fun k : Nat => D.int (k : Int)) (g := gN 7) (b := mIfS (mOr (mT (m2 hLt (lv (m2 gIx (lv (mVar 6)) (lv (mVar 7)))) (lv (mp (.int 0))))) (mT (m2 hGe (lv (m2 gIx (lv (mVar 6)) (lv (mVar 7)))) (lv (m2 gIx (lv (m2 gIx (lv (mVar 1)) (lv (m2 gMod (lv (mVar 7)) (lv (mp (.int 2))))))) (lv (mp (.int 1)))))))) (mRet (mFz (mLst (mCons (mp (.str "value")) (mCons (m2 gIx (lv (mVar 6)) (lv (mVar 7))) (mp [])))))) (mp .nx))
          (C := fun c => ∃ s7, c = [.d (enN n), .d (enSp n.sp), .d (.nd .tup (n.rules.map enS)), .d (.nd .tup (n.ties.map enL)), s4, s5, .d (enL t), s7]) (f := tieAt n.sp t) (v := fun du => .d (enDu (some du))) (List.range 4)
          [.d (enN n), .d (enSp n.sp), .d (.nd .tup (n.rules.map enS)), .d (.nd .tup (n.ties.map enL)), s4, s5, .d (enL t), s7] ⟨_, rfl⟩ (by
            rintro k hk c ⟨s7, rfl⟩
            have hk4 : k < 4 := List.mem_range.mp hk
            have hm : ((k : Int) % 2) = ((k % 2 : Nat) : Int) := by omega
            have hqk := getD_lt (sp := n.sp) (k := k % 2) (by omega)
            obtain ⟨qk, hqe⟩ : ∃ q, n.sp.getD (k % 2) ("", 0) = q := ⟨_, rfl⟩
            rw [hqe] at hqk
            have e1 := spIx hqk
            have e2 : gIx (enF qk) (.int 1) = some (.int qk.2) := rfl
            obtain ⟨x, hx⟩ : ∃ x, t.getD k 0 = x := ⟨_, rfl⟩
            have e3 := enL_ix (t := t) (k := k) (by omega)
            rw [hx] at e3
            have e4 : gMod (.int (k : Int)) (.int 2) = some (.int ((k % 2 : Nat) : Int)) := by rw [gMod_i (by omega), hm]
            obtain ⟨K, hK⟩ : ∃ K : Int, (k : Int) = K := ⟨_, rfl⟩
            obtain ⟨K2, hK2⟩ : ∃ K2 : Int, ((k % 2 : Nat) : Int) = K2 := ⟨_, rfl⟩
            rw [hK2] at e1 e4
            rw [hK] at e3 e4 ⊢
            refine ⟨[.d (enN n), .d (enSp n.sp), .d (.nd .tup (n.rules.map enS)), .d (.nd .tup (n.ties.map enL)), s4, s5, .d (enL t), .d (.int K)], by simp, ?_⟩
            unfold tieAt cntAt
            rw [hqe, hx]
            by_cases h0 : 0 ≤ x
            · have h0' : ¬ x < 0 := by omega
              by_cases h5 : x < qk.2
              · have h5' : ¬ qk.2 ≤ x := by omega
                exact .inl ⟨if_pos ⟨h0, h5⟩, [.d (enN n), .d (enSp n.sp), .d (.nd .tup (n.rules.map enS)), .d (.nd .tup (n.ties.map enL)), s4, s5, .d (enL t), .d (.int K)], by simp [e1, e2, e3, e4, h0', h5'], _, rfl⟩
              · have h5' : qk.2 ≤ x := by omega
                exact .inr ⟨.val x, [.d (enN n), .d (enSp n.sp), .d (.nd .tup (n.rules.map enS)), .d (.nd .tup (n.ties.map enL)), s4, s5, .d (enL t), .d (.int K)], if_neg (fun z => h5 z.2), by simp [e1, e2, e3, e4, h0', h5', enDu]⟩
            · have h0' : x < 0 := by omega
              exact .inr ⟨.val x, [.d (enN n), .d (enSp n.sp), .d (.nd .tup (n.rules.map enS)), .d (.nd .tup (n.ties.map enL)), s4, s5, .d (enL t), .d (.int K)], if_neg (fun z => h0 z.1), by simp [e1, e2, e3, e4, h0', enDu]⟩)
        unfold tieDu
        rw [← rng4] at r3
        rcases r3 with ⟨h3, c3, e3, s7', rfl⟩ | ⟨du, c3, h3, e3⟩
        · exact .inl ⟨h3, [.d (enN n), .d (enSp n.sp), .d (.nd .tup (n.rules.map enS)), .d (.nd .tup (n.ties.map enL)), s4, s5, .d (enL t), s7'], by simp [e3], _, _, rfl⟩
        · exact .inr ⟨du, c3, h3, by simp [e3]⟩)
    rw [net_ix] at e1 r2
    rcases r2 with ⟨h2, c2, e2, s6, s7, rfl⟩ | ⟨du, c2, h2, e2⟩
    · rw [h2]
      exact ⟨[.d (enN n), .d (enSp n.sp), .d (.nd .tup (n.rules.map enS)), .d (.nd .tup (n.ties.map enL)), s4, s5, s6, s7], by rw [net_ix]; simp [gl, hs', gr, i0, i1, hr', e1, e2, e0]⟩
    · rw [h2]
      exact ⟨c2, by simp [gl, hs', gr, i0, i1, hr', e1, e2]⟩
  · rw [h1]
    rw [net_ix] at e1
    exact ⟨c1, by simp [gl, hs', gr, i0, i1, hr', e1]⟩
end Sw
set_option maxRecDepth 100000
set_option maxHeartbeats 4000000
namespace Sw
open PySem PySem.Spec L2

/-! ### what was caught -/
def fHops (A : Str → Addr) : Fd := fnM 3 (K72.m_hops (fNet A))
def fSayOf (A : Str → Addr) : Fd := fnM 1 (K72.m_saying_of (fNet A))
def fTabs (A : Str → Addr) : Fd := fnM 2 (K72.m_tables_of (fNet A))
def fCaught72 (A : Str → Addr) : Fd := fnM 4 (K72.m_law_caught A (fNet A) (fHops A) (fSayOf A) (fTabs A))
theorem caught72_run (A : Str → Addr) {B : Nat} {n : Net} (h : NetOk B n) (hB : B < 70) {du : Du} (hd : n.due = some du) {w : Int} (w0 : 0 ≤ w) (w4 : w < 4) :
    ∃ c, fCaught72 A [.d (.int w), .d (enN n)] = .ok (.d (excD (du.ex A))) c := by
  obtain ⟨c1, e1⟩ := net_run A h hB
  rw [hd] at e1
  unfold outDu at e1
  obtain ⟨N, hN⟩ : ∃ N, enN n = N := ⟨_, rfl⟩
  have x0 : gIx N (.int 0) = some (enSp n.sp) := by rw [← hN]; rfl
  obtain ⟨L, hL⟩ : ∃ L : Int, (n.sp.length : Int) = L := ⟨_, rfl⟩
  have gl : gLen [enSp n.sp] = some (.int L) := by
    show some (D.int _) = _
    rw [List.length_map, hL]
  have hs1 := h.s1
  have hs3 := h.s3
  have tm : gTMul (.nd .tup [.int 0]) (.int L) = some (.nd .tup (List.replicate L.toNat [D.int 0]).flatten) := gTMul_i ⟨by simp, by simp, by omega, by omega⟩
  obtain ⟨T, hT⟩ : ∃ T, D.nd .tup (List.replicate L.toNat [D.int 0]).flatten = T := ⟨_, rfl⟩
  rw [hT] at tm
  rw [hN] at e1 ⊢
  refine ⟨[.d (.int w), .d N, .d (excD (du.ex A)), .no], ?_⟩
  have hc : w = 0 ∨ w = 1 ∨ w = 2 ∨ w = 3 := by omega
  unfold fCaught72
  rw [fnM_r]
  unfold K72.m_law_caught fHops fSayOf fTabs
  rcases hc with rfl | rfl | rfl | rfl
  · cases du <;> simp only [Du.ex] at e1 ⊢ <;> simp [e1]
  · cases du <;> simp only [Du.ex] at e1 ⊢ <;> simp [e1, x0, gl, tm, fnM_r, K72.m_hops]
  · cases du <;> simp only [Du.ex] at e1 ⊢ <;> simp [e1, fnM_r, K72.m_saying_of]
  · cases du <;> simp only [Du.ex] at e1 ⊢ <;> simp [e1, fnM_r, K72.m_tables_of]

/-! ### is the refusal the due one -/
def fRefused (A : Str → Addr) : Fd := fnM 4 (K72.m_law_refused A)
theorem ne_b5 (a b c d e : Bool) : gEqN not (.nd .lst [.bl a, .bl b, .bl c, .bl d, .bl e]) (.nd .lst [.bl a, .bl b, .bl c, .bl d, .bl e]) = some (.bl false) := by
  cases a <;> cases b <;> cases c <;> cases d <;> cases e <;> rfl
def wds : List Str := ["field", "value", "test", "plain", "net"]
theorem words_run {E U F : D} {x : Str} (hx : PySem.PyData.strOk x = true) (h0 : gIx U (.int 0) = some (.str x)) :
    mLc [3] (itS (mFz (mLst (mCons (mp (.str "field")) (mCons (mp (.str "value")) (mCons (mp (.str "test")) (mCons (mp (.str "plain")) (mCons (mp (.str "net")) (mp []))))))))) (gN 3) (mp true) (m2 hEq (lv (m2 gIx (lv (mVar 1)) (lv (mp (.int 0))))) (lv (mVar 3))) [.d E, .d U, .d F, .no] =
      .ok (.lst (wds.map fun w => .bl (decide (x = w)))) [.d E, .d U, .d F, .no] := by
  exact mLc_mp (vs := [3]) (c1 := [.d E, .d U, .d F, .no]) (enc := D.str) (fun w : Str => D.bl (decide (x = w))) wds (by simp [wds]) (fun w hw => by
    have hw' : PySem.PyData.strOk w = true := by
      unfold wds at hw
      simp only [List.mem_cons, List.not_mem_nil, or_false] at hw
      rcases hw with rfl | rfl | rfl | rfl | rfl <;> decide +kernel
    have e := hEq_s (f := id) hx hw'
    exact ⟨[.d E, .d U, .d F, .d (.str w)], [.d E, .d U, .d F, .d (.str w)], by simp, by simp [h0, e], by simp⟩) (by decide)
theorem wd1 : (wds.map fun w => D.bl (decide (("field" : Str) = w))) = [.bl true, .bl false, .bl false, .bl false, .bl false] := by
  have : (wds.map fun w => (decide (("field" : Str) = w))) = [true, false, false, false, false] := by decide +kernel
  have := congrArg (List.map D.bl) this
  rwa [List.map_map] at this
theorem wd2 : (wds.map fun w => D.bl (decide (("value" : Str) = w))) = [.bl false, .bl true, .bl false, .bl false, .bl false] := by
  have : (wds.map fun w => (decide (("value" : Str) = w))) = [false, true, false, false, false] := by decide +kernel
  have := congrArg (List.map D.bl) this
  rwa [List.map_map] at this
theorem wd3 : (wds.map fun w => D.bl (decide (("test" : Str) = w))) = [.bl false, .bl false, .bl true, .bl false, .bl false] := by
  have : (wds.map fun w => (decide (("test" : Str) = w))) = [false, false, true, false, false] := by decide +kernel
  have := congrArg (List.map D.bl) this
  rwa [List.map_map] at this
theorem wd4 : (wds.map fun w => D.bl (decide (("plain" : Str) = w))) = [.bl false, .bl false, .bl false, .bl true, .bl false] := by
  have : (wds.map fun w => (decide (("plain" : Str) = w))) = [false, false, false, true, false] := by decide +kernel
  have := congrArg (List.map D.bl) this
  rwa [List.map_map] at this
theorem wd5 : (wds.map fun w => D.bl (decide (("net" : Str) = w))) = [.bl false, .bl false, .bl false, .bl false, .bl true] := by
  have : (wds.map fun w => (decide (("net" : Str) = w))) = [false, false, false, false, true] := by decide +kernel
  have := congrArg (List.map D.bl) this
  rwa [List.map_map] at this
theorem refused_run (A : Str → Addr) {B : Nat} {du : Du} (h : DuOk B du) (hB : B < 70) : ∃ c, fRefused A [.d (excD (du.ex A)), .d (enDu (some du))] = .ok (.d (.bl true)) c := by
  have add : ∀ a b c d e : Bool, gAdd (.nd .lst [.bl a, .bl b, .bl c, .bl d]) (.nd .lst [.bl e]) = some (.nd .lst [.bl a, .bl b, .bl c, .bl d, .bl e]) := fun a b c d e => gAdd_l (by simp)
  unfold fRefused
  rw [fnM_r]
  unfold K72.m_law_refused
  rcases h with ⟨f, rfl, hs⟩ | ⟨v, rfl⟩ | ⟨t, rfl, ht, hd⟩ | ⟨t, rfl, ht, hd⟩ | rfl
  · have b := ne_b5 true false false false false
    have ee := hEq_s (f := id) hs hs
    have ew := words_run (E := excD (Du.ex A (.fld f))) (U := enDu (some (.fld f))) (F := .nd .lst [.bl true, .bl false, .bl false, .bl false]) (x := "field") (by decide +kernel) rfl
    rw [wd1] at ew
    have a := add true false false false false
    simp only [Du.ex, excD_mk, List.map_cons, List.map_nil, enDu] at ew ⊢
    exact ⟨[.d (.nd (.exc "NoField" (A "NoField") ["field"]) [.str f]), .d (.nd .lst [.str "field", .str f]), .d (.nd .lst [.bl true, .bl false, .bl false, .bl false]), .no], by simp [ew, a, b, ee, hEq_s]⟩
  · have b := ne_b5 false true false false false
    have ew := words_run (E := excD (Du.ex A (.val v))) (U := enDu (some (.val v))) (F := .nd .lst [.bl false, .bl true, .bl false, .bl false]) (x := "value") (by decide +kernel) rfl
    rw [wd2] at ew
    have a := add false true false false false
    simp only [Du.ex, excD_mk, List.map_cons, List.map_nil, enDu] at ew ⊢
    exact ⟨[.d (.nd (.exc "NoValue" (A "NoValue") ["value"]) [.int v]), .d (.nd .lst [.str "value", .int v]), .d (.nd .lst [.bl false, .bl true, .bl false, .bl false]), .no], by simp [ew, a, b, hEq_s]⟩
  · have b := ne_b5 false false true false false
    have ee : gEqN id (enS t) (enS t) = some (.bl true) := by
      rw [gEqN_pl ht.pl ht.pl (by rw [dp_enS]; omega)]
      simp
    have ew := words_run (E := excD (Du.ex A (.tst (enS t)))) (U := enDu (some (.tst (enS t)))) (F := .nd .lst [.bl false, .bl false, .bl true, .bl false]) (x := "test") (by decide +kernel) rfl
    rw [wd3] at ew
    have a := add false false true false false
    simp only [Du.ex, excD_mk, List.map_cons, List.map_nil, enDu] at ew ⊢
    exact ⟨[.d (.nd (.exc "NoTest" (A "NoTest") ["saying"]) [enS t]), .d (.nd .lst [.str "test", enS t]), .d (.nd .lst [.bl false, .bl false, .bl true, .bl false]), .no], by simp [ew, a, b, ee, hEq_s]⟩
  · have b := ne_b5 false false false true false
    have ee : gEqN id (enS t) (enS t) = some (.bl true) := by
      rw [gEqN_pl ht.pl ht.pl (by rw [dp_enS]; omega)]
      simp
    have ew := words_run (E := excD (Du.ex A (.pln (enS t)))) (U := enDu (some (.pln (enS t)))) (F := .nd .lst [.bl false, .bl false, .bl false, .bl true]) (x := "plain") (by decide +kernel) rfl
    rw [wd4] at ew
    have a := add false false false true false
    simp only [Du.ex, excD_mk, List.map_cons, List.map_nil, enDu] at ew ⊢
    exact ⟨[.d (.nd (.exc "NoPlain" (A "NoPlain") ["saying"]) [enS t]), .d (.nd .lst [.str "plain", enS t]), .d (.nd .lst [.bl false, .bl false, .bl false, .bl true]), .no], by simp [ew, a, b, ee, hEq_s]⟩
  · have b := ne_b5 false false false false true
    have ew := words_run (E := excD (Du.ex A .net)) (U := enDu (some .net)) (F := .nd .lst [.bl false, .bl false, .bl false, .bl false]) (x := "net") (by decide +kernel) rfl
    rw [wd5] at ew
    have a := add false false false false true
    simp only [Du.ex, excD_mk, List.map_cons, List.map_nil, enDu] at ew ⊢
    exact ⟨[.d (.nd (.exc "NoNet" (A "NoNet") []) []), .d (.nd .lst [.str "net", .non]), .d (.nd .lst [.bl false, .bl false, .bl false, .bl false]), .no], by simp [ew, a, b, hEq_s]⟩
/-! ### is it good -/
def fGood72 (A : Str → Addr) : Fd := fnM 4 (K72.m_law_good fDueN (fNet A) (fRefused A) (fCaught72 A))
theorem good72_run (A : Str → Addr) {B : Nat} {n : Net} (h : NetOk B n) (hB : B < 70) (z : Int) : ∃ c, fGood72 A [.d (enN n), .d (.int z)] = .ok (.d (.bl true)) c := by
  obtain ⟨c1, e1⟩ := dueN_run h hB
  obtain ⟨c2, e2⟩ := net_run A h hB
  unfold fGood72
  rw [fnM_r]
  unfold K72.m_law_good
  cases hd : n.due with
  | none =>
    rw [hd] at e1 e2
    unfold outDu at e2
    have e1 : fDueN [.d (enN n)] = .ok (.d (.nd .lst [])) c1 := e1
    have nn : gEqN id (.nd .lst []) (.nd .lst []) = some (.bl true) := eq_nn
    have ni : gIsN .non .non = some (.bl true) := rfl
    exact ⟨[.d (enN n), .d (.int z), .d (.nd .lst []), .no], by simp [e1, e2, nn, ni]⟩
  | some du =>
    rw [hd] at e1
    have ok := n.due_ok h hd
    have ne := ok.ne id
    obtain ⟨c3, e3⟩ := refused_run A ok hB
    obtain ⟨N, hN⟩ : ∃ N, enN n = N := ⟨_, rfl⟩
    obtain ⟨U, hU⟩ : ∃ U, enDu (some du) = U := ⟨_, rfl⟩
    obtain ⟨E, hE⟩ : ∃ E, excD (du.ex A) = E := ⟨_, rfl⟩
    rw [hU] at ne e1 e3
    rw [hE] at e3
    rw [hN] at e1
    obtain ⟨c4, e4, s3, rfl⟩ := mFor_run (g := gN 3) (b := mIfS (mNot (mT (mRvD (mCallA (fRefused A) (aD (mRvD (mCallA (fCaught72 A) (aD (m2 gMod (lv (m2 gAdd (lv (mVar 1)) (lv (mVar 3)))) (lv (mp (.int 4)))) (aD (mVar 0) (aNil))))) (aD (mVar 2) (aNil))))))) (mRet (mp (.bl false))) (mp .nx)) (xs := rng 0 4) (c := [.d N, .d (.int z), .d U, .no])
      (fun i c => ∃ s3, c = [.d N, .d (.int z), .d U, s3]) ⟨_, rfl⟩ (by
        rintro i x c hx ⟨s3, rfl⟩
        obtain ⟨hi, rfl⟩ := rng_get hx
        rw [Int.zero_add]
        have m4 := mod_pos (i := z + (i : Int)) (j := 4) (by omega)
        obtain ⟨c5, e5⟩ := caught72_run A h hB hd m4.1 m4.2
        rw [hN, hE] at e5
        exact ⟨[.d N, .d (.int z), .d U, .d (.int (i : Int))], [.d N, .d (.int z), .d U, .d (.int (i : Int))], by simp, .inl (by simp [gMod_i (show (0 : Int) < 4 by omega), e5, e3]), _, rfl⟩)
    rw [hN]
    have r4 : rng1 [.int 4] = some (rng 0 4) := rng1_i (by omega)
    exact ⟨[.d N, .d (.int z), .d U, s3], by simp [e1, ne, r4, e4]⟩
end Sw
set_option maxRecDepth 100000
set_option maxHeartbeats 4000000
namespace Sw
open PySem PySem.Spec L2

/-! ### a rule spoilt -/
theorem three_i {a b c : Int} {t : Int} (h0 : 0 ≤ t) (h1 : t < 3) : ∃ w : Int, L2.atI [D.int a, .int b, .int c] t = some (.int w) := by
  have h : t = 0 ∨ t = 1 ∨ t = 2 := by omega
  rcases h with rfl | rfl | rfl
  all_goals exact ⟨_, rfl⟩
def fStr72 : Fd := fnM 7 (K72.m_law_strange fTake)
theorem str72_run {B : Nat} {n : Net} (h : NetOk B n) (p : Int × Int) {s : Say} (hs : s.Fine) : ∃ s' p' r, fStr72 [.l (enP p), .d (enSp n.sp), .d (enS s)] = .ok (.d (enS s')) (.l (enP p') :: r) ∧ s'.Fine ∧ s'.dep ≤ s.dep + 2 := by
  obtain ⟨Sn, hSn⟩ : ∃ S : Int, (n.sp.length : Int) = S := ⟨_, rfl⟩
  have s1 := h.s1
  have s3 := h.s3
  have ln : gLen [enSp n.sp] = some (.int Sn) := by
    show some (D.int _) = _
    rw [List.length_map, hSn]
  obtain ⟨x1, y1, e1⟩ := take_run p (n := Sn) (by omega) (by omega)
  have u0 := tkv_lo p (n := Sn) (by omega)
  have u1 := tkv_hi p (n := Sn) (by omega)
  obtain ⟨q, hq⟩ : ∃ q, n.sp[(tkv p Sn).toNat]? = some q := ⟨_, List.getElem?_eq_getElem (by omega)⟩
  have ix : gIx (enSp n.sp) (.int (tkv p Sn)) = some (.nd .tup [.str q.1, .int q.2]) := by
    show L2.atI _ _ = _
    rw [atI_pos u0, List.getElem?_map, hq]
    rfl
  have hqm := List.mem_of_getElem? hq
  have hn := h.nm q hqm
  obtain ⟨p1, hp1⟩ : ∃ p1, tkp p Sn = p1 := ⟨_, rfl⟩
  rw [hp1] at e1
  obtain ⟨x2, y2, e2⟩ := take_run p1 (n := 3) (by omega) (by omega)
  obtain ⟨P, hP⟩ : ∃ P : Int, gPow (.int 10) (.int 59) = some (.int P) := ⟨_, gPow_i (by decide)⟩
  obtain ⟨far, efar⟩ := three_i (a := -1) (b := q.2) (c := P + q.2) (tkv_lo p1 (n := 3) (by omega)) (tkv_hi p1 (by omega))
  obtain ⟨x3, y3, e3⟩ := take_run (tkp p1 3) (n := 5) (by omega) (by omega)
  obtain ⟨o, ho⟩ : ∃ o, tkv (tkp p1 3) 5 = o := ⟨_, rfl⟩
  have o0 := tkv_lo (tkp p1 3) (n := 5) (by omega)
  have o1 := tkv_hi (tkp p1 3) (n := 5) (by omega)
  rw [ho] at e3 o0 o1
  have hx : Asc 10 (q.1 ++ "x") := (hn.app (m := 1) ⟨by decide +kernel, by decide +kernel⟩).mono (by omega)
  have a1 : gAdd (.str q.1) (.str "x") = some (.str (q.1 ++ "x")) := gAdd_s (by have := hn.len; have : ("x" : Str).length = 1 := (by decide +kernel); omega)
  unfold fStr72
  rw [fnM_r]
  unfold K72.m_law_strange
  have hc : o = 0 ∨ o = 1 ∨ o = 2 ∨ o = 3 ∨ o = 4 := by omega
  rcases hc with rfl | rfl | rfl | rfl | rfl
  · have en : D.nd .tup [.str "then", enS s, .nd .tup [.str "is", .str (q.1 ++ "x"), .int far]] = enS (.th s (.is (q.1 ++ "x") far)) := rfl
    exact ⟨.th s (.is (q.1 ++ "x") far), tkp (tkp p1 3) 5, [.d (enSp n.sp), .d (enS s), .d (.str q.1), .d (.int q.2), .d (.int far), .d (.int 0)], by simp [ln, e1, ix, e2, hP, efar, e3, a1, en], ⟨hs, hx.ok⟩, by show max s.dep 0 + 1 ≤ _; omega⟩
  · have en : D.nd .tup [.str "either", .nd .tup [.str "put", .str q.1, .int far], enS s] = enS (.ei (.put q.1 far) s) := rfl
    exact ⟨.ei (.put q.1 far) s, tkp (tkp p1 3) 5, [.d (enSp n.sp), .d (enS s), .d (.str q.1), .d (.int q.2), .d (.int far), .d (.int 1)], by simp [ln, e1, ix, e2, hP, efar, e3, a1, en], ⟨hn.ok, hs⟩, by show max 0 s.dep + 1 ≤ _; omega⟩
  · have en : D.nd .tup [.str "then", .nd .tup [.str "not", .nd .tup [.str "put", .str q.1, .int 0]], enS s] = enS (.th (.no (.put q.1 0)) s) := rfl
    exact ⟨.th (.no (.put q.1 0)) s, tkp (tkp p1 3) 5, [.d (enSp n.sp), .d (enS s), .d (.str q.1), .d (.int q.2), .d (.int far), .d (.int 2)], by simp [ln, e1, ix, e2, hP, efar, e3, a1, en], ⟨hn.ok, hs⟩, by show max (0 + 1) s.dep + 1 ≤ _; omega⟩
  · have en : D.nd .tup [.str "then", enS s, .nd .tup [.str "again", .nd .tup [.str "note"]]] = enS (.th s (.ag .note)) := rfl
    exact ⟨.th s (.ag .note), tkp (tkp p1 3) 5, [.d (enSp n.sp), .d (enS s), .d (.str q.1), .d (.int q.2), .d (.int far), .d (.int 3)], by simp [ln, e1, ix, e2, hP, efar, e3, a1, en], ⟨hs, trivial⟩, by show max s.dep (0 + 1) + 1 ≤ _; omega⟩
  · have en : D.nd .tup [.str "either", .nd .tup [.str "note"], .nd .tup [.str "is", .str q.1, .int far]] = enS (.ei .note (.is q.1 far)) := rfl
    exact ⟨.ei .note (.is q.1 far), tkp (tkp p1 3) 5, [.d (enSp n.sp), .d (enS s), .d (.str q.1), .d (.int q.2), .d (.int far), .d (.int 4)], by simp [ln, e1, ix, e2, hP, efar, e3, a1, en], ⟨trivial, hn.ok⟩, by show max 0 0 + 1 ≤ _; omega⟩

/-! ### a net spoilt -/
def fSpo72 : Fd := fnM 11 (K72.m_law_spoiled fTake fStr72)
theorem NetOk.put {B : Nat} {n : Net} (h : NetOk B n) {rules : List Say} {ties : Ties} (r1 : ∀ s ∈ rules, s.Fine ∧ s.dep ≤ B + 2) (r2 : rules.length ≤ 92 + B) (t1 : ∀ t ∈ ties, t.length = 4) (t2 : ties.length ≤ 100) : NetOk (B + 2) ⟨n.sp, rules, ties⟩ :=
  ⟨h.s1, h.s3, h.cnt, h.nm, h.d01, r1, by show rules.length ≤ _; omega, t1, t2⟩
theorem spo72_run {B : Nat} {n : Net} (h : NetOk B n) (hB : B < 70) (p : Int × Int) : ∃ n' p' r x, fSpo72 [.d (enN n), .l (enP p)] = .ok (.d (enN n')) (x :: .l (enP p') :: r) ∧ NetOk (B + 2) n' := by
  obtain ⟨N, hN⟩ : ∃ N, enN n = N := ⟨_, rfl⟩
  obtain ⟨S, hS⟩ : ∃ S, enSp n.sp = S := ⟨_, rfl⟩
  obtain ⟨R, hR⟩ : ∃ R, n.rules.map enS = R := ⟨_, rfl⟩
  obtain ⟨T, hT⟩ : ∃ T, n.ties.map enL = T := ⟨_, rfl⟩
  have nx : N = .nd .tup [S, .nd .tup R, .nd .tup T] := by rw [← hN, ← hS, ← hR, ← hT]; rfl
  have lR : R.length = n.rules.length := by rw [← hR, List.length_map]
  have lT : T.length = n.ties.length := by rw [← hT, List.length_map]
  have rl := h.rl
  have tn := h.tn
  obtain ⟨x1, y1, e1⟩ := take_run p (n := 6) (by omega) (by omega)
  obtain ⟨o, ho⟩ : ∃ o, tkv p 6 = o := ⟨_, rfl⟩
  have o0 := tkv_lo p (n := 6) (by omega)
  have o1 := tkv_hi p (n := 6) (by omega)
  rw [ho] at e1 o0 o1
  obtain ⟨p1, hp1⟩ : ∃ p1, tkp p 6 = p1 := ⟨_, rfl⟩
  rw [hp1] at e1
  have mk : ∀ n' : Net, enN n' = .nd .tup [enSp n'.sp, .nd .tup (n'.rules.map enS), .nd .tup (n'.ties.map enL)] := fun _ => rfl
  have rf : ∀ s ∈ n.rules, s.Fine ∧ s.dep ≤ B + 2 := fun s hs => ⟨(h.rf s hs).1, by have := (h.rf s hs).2; omega⟩
  have ne : gEqN not (.nd .tup R) (.nd .tup []) = some (.bl (!decide (R = []))) := by
    rw [gEqN_pl (x := .nd .tup R) (y := .nd .tup []) (by
      show (Tag.pl .tup && D.pls R) = true
      rw [← hR, pls_map _ fun s hs => (h.rf s hs).1.pl]
      rfl) rfl (by simp [D.dp])]
    simp
  unfold fSpo72
  rw [fnM_r]
  unfold K72.m_law_spoiled
  by_cases h0 : o = 0
  · subst h0
    have c1 : gSl S none (some 1) = some (enSp (n.sp.take 1)) := by
      rw [← hS]
      show some (D.nd .tup (cutD (n.sp.map enF) none (some ((1 : Nat) : Int)))) = _
      rw [cutD_to]
      unfold enSp
      rw [List.map_take]
    have en : D.nd .tup [enSp (n.sp.take 1), .nd .tup R, .nd .tup T] = enN ⟨n.sp.take 1, n.rules, n.ties⟩ := by rw [mk, hR, hT]
    refine ⟨⟨n.sp.take 1, n.rules, n.ties⟩, p1, [.d S, .d (.nd .tup R), .d (.nd .tup T), .d (.int 0), .no, .no, .no, .no, .no], .d N, by rw [hN, nx]; simp [e1, c1, en], ?_⟩
    refine ⟨by show 1 ≤ (n.sp.take 1).length; rw [List.length_take]; have := h.s1; omega, by show (n.sp.take 1).length ≤ 3; rw [List.length_take]; omega, fun q hq => h.cnt q (List.mem_of_mem_take hq), fun q hq => h.nm q (List.mem_of_mem_take hq), ?_, rf, by show n.rules.length ≤ _; omega, h.tl, h.tn⟩
    intro q0 q1 _ z
    have z : (n.sp.take 1)[1]? = some q1 := z
    have := (List.getElem?_eq_some_iff.mp z).1
    rw [List.length_take] at this
    omega
  by_cases h1 : o = 1
  · subst h1
    obtain ⟨x2, y2, e2⟩ := take_run p1 (n := 2) (by omega) (by omega)
    obtain ⟨t, ht⟩ : ∃ t, tkv p1 2 = t := ⟨_, rfl⟩
    have t0 := tkv_lo p1 (n := 2) (by omega)
    have t1 := tkv_hi p1 (n := 2) (by omega)
    rw [ht] at e2 t0 t1
    obtain ⟨ra, ea, la, ma⟩ := cutD_map (enc := enS) n.rules none (some (-1))
    obtain ⟨rb, eb, lb, mb⟩ := cutD_map (enc := enS) n.rules none (some 1)
    rw [hR] at ea eb
    have lb1 : rb.length ≤ 1 := by
      have : rb.length = (cutD R none (some ((1 : Nat) : Int))).length := by
        rw [show (((1 : Nat) : Int)) = 1 from rfl, eb, List.length_map]
      rw [cutD_to, List.length_take] at this
      omega
    have ad : gAdd (.nd .tup R) (.nd .tup (rb.map enS)) = some (.nd .tup (R ++ rb.map enS)) := gAdd_t (by simp; omega)
    have hc : t = 0 ∨ t = 1 := by omega
    rcases hc with rfl | rfl
    · have en : D.nd .tup [S, .nd .tup (ra.map enS), .nd .tup T] = enN ⟨n.sp, ra, n.ties⟩ := by rw [mk, hS, hT]
      exact ⟨⟨n.sp, ra, n.ties⟩, tkp p1 2, [.d S, .d (.nd .tup R), .d (.nd .tup T), .d (.int 1), .no, .no, .no, .no, .no], .d N, by rw [hN, nx]; simp [e1, e2, ea, eb, ad, en], h.put (fun s hs => rf s (ma s hs)) (by omega) h.tl h.tn⟩
    · have en : D.nd .tup [S, .nd .tup (R ++ rb.map enS), .nd .tup T] = enN ⟨n.sp, n.rules ++ rb, n.ties⟩ := by rw [mk, hS, hT, List.map_append, hR]
      exact ⟨⟨n.sp, n.rules ++ rb, n.ties⟩, tkp p1 2, [.d S, .d (.nd .tup R), .d (.nd .tup T), .d (.int 1), .no, .no, .no, .no, .no], .d N, by rw [hN, nx]; simp [e1, e2, ea, eb, ad, en], h.put (fun s hs => by
        rcases List.mem_append.mp hs with hs | hs
        · exact rf s hs
        · exact rf s (mb s hs)) (by rw [List.length_append]; omega) h.tl h.tn⟩
  by_cases h4 : o < 4 ∧ R ≠ []
  · obtain ⟨h4, hne⟩ := h4
    have ne : gEqN not (.nd .tup R) (.nd .tup []) = some (.bl true) := by rw [ne, decide_eq_false hne]; rfl
    have R1 : 1 ≤ R.length := by
      have : R.length ≠ 0 := fun e => hne (List.length_eq_zero_iff.mp e)
      omega
    obtain ⟨L, hL⟩ : ∃ L : Int, (R.length : Int) = L := ⟨_, rfl⟩
    obtain ⟨x2, y2, e2⟩ := take_run p1 (n := L) (by omega) (by omega)
    obtain ⟨t, ht⟩ : ∃ t, tkv p1 L = t := ⟨_, rfl⟩
    have t0 := tkv_lo p1 (n := L) (by omega)
    have t1 := tkv_hi p1 (n := L) (by omega)
    rw [ht] at e2 t0 t1
    obtain ⟨s, hs⟩ : ∃ s, n.rules[t.toNat]? = some s := ⟨_, List.getElem?_eq_getElem (by omega)⟩
    have hsm := List.mem_of_getElem? hs
    have ix : L2.atI R t = some (enS s) := by
      rw [atI_pos t0, ← hR, List.getElem?_map, hs]
      rfl
    obtain ⟨p2, hp2⟩ : ∃ p2, tkp p1 L = p2 := ⟨_, rfl⟩
    rw [hp2] at e2
    obtain ⟨s', p', r, e3, f1, f2⟩ := str72_run h p2 (s := s) (h.rf s hsm).1
    rw [hS] at e3
    obtain ⟨ra, ea, la, ma⟩ := cutD_map (enc := enS) n.rules none (some t)
    obtain ⟨rb, eb, lb, mb⟩ := cutD_map (enc := enS) n.rules (some (t + 1)) none
    rw [hR] at ea eb
    have lab : ra.length + rb.length ≤ R.length := by
      have hab : (cutD R none (some ((t.toNat : Nat) : Int))).length = ra.length := by
        rw [show ((t.toNat : Nat) : Int) = t from by omega, ea, List.length_map]
      have hbb : (cutD R (some (((t.toNat + 1 : Nat)) : Int)) none).length = rb.length := by
        rw [show ((t.toNat + 1 : Nat) : Int) = t + 1 from by omega, eb, List.length_map]
      rw [cutD_to, List.length_take] at hab
      rw [cutD_from, List.length_drop] at hbb
      omega
    have ad : gAdd (.nd .tup (ra.map enS)) (.nd .tup [enS s']) = some (.nd .tup (ra.map enS ++ [enS s'])) := gAdd_t (by simp; omega)
    have ad2 : gAdd (.nd .tup (ra.map enS ++ [enS s'])) (.nd .tup (rb.map enS)) = some (.nd .tup ((ra.map enS ++ [enS s']) ++ rb.map enS)) := gAdd_t (by simp; omega)
    have en : D.nd .tup [S, .nd .tup ((ra.map enS ++ [enS s']) ++ rb.map enS), .nd .tup T] = enN ⟨n.sp, (ra ++ [s']) ++ rb, n.ties⟩ := by rw [mk, hS, hT]; simp
    refine ⟨⟨n.sp, (ra ++ [s']) ++ rb, n.ties⟩, p', [.d S, .d (.nd .tup R), .d (.nd .tup T), .d (.int o), .d (.int t), .no, .no, .no, .no], .d N, ?_, h.put (fun z hz => ?_) (by simp; omega) h.tl h.tn⟩
    · rw [hN, nx]
      simp only [List.append_assoc, List.cons_append, List.nil_append] at ad2 en
      simp [e1, h0, h1, h4, ne, hL, e2, ix, e3, ea, eb, ad, ad2, en]
    · simp only [List.mem_append, List.mem_singleton] at hz
      rcases hz with (hz | rfl) | hz
      · exact rf z (ma z hz)
      · exact ⟨f1, by have := (h.rf s hsm).2; omega⟩
      · exact rf z (mb z hz)
  · have hcond : o < 4 → gEqN not (.nd .tup R) (.nd .tup []) = some (.bl false) := fun a => by
      have : R = [] := Classical.byContradiction fun z => h4 ⟨a, z⟩
      rw [ne, decide_eq_true this]; rfl
    obtain ⟨x2, y2, e2⟩ := take_run p1 (n := 4) (by omega) (by omega)
    obtain ⟨t, ht⟩ : ∃ t, tkv p1 4 = t := ⟨_, rfl⟩
    have t0 := tkv_lo p1 (n := 4) (by omega)
    have t1 := tkv_hi p1 (n := 4) (by omega)
    rw [ht] at e2 t0 t1
    obtain ⟨p2, hp2⟩ : ∃ p2, tkp p1 4 = p2 := ⟨_, rfl⟩
    rw [hp2] at e2
    obtain ⟨L, hL⟩ : ∃ L : Int, (n.sp.length : Int) = L := ⟨_, rfl⟩
    have gl : gLen [S] = some (.int L) := by
      rw [← hS]
      show some (D.int _) = _
      rw [List.length_map, hL]
    have s1 := h.s1
    obtain ⟨w, hw⟩ : ∃ w : Int, (if L - 1 < t % 2 then L - 1 else t % 2) = w := ⟨_, rfl⟩
    have hw2 : 0 ≤ w ∧ w < L := by
      rw [← hw]
      have := mod_pos (i := t) (j := 2) (by omega)
      split <;> omega
    obtain ⟨q, hq⟩ : ∃ q, n.sp[w.toNat]? = some q := ⟨_, List.getElem?_eq_getElem (by omega)⟩
    have ix : gIx S (.int w) = some (enF q) := by
      rw [← hS]
      show L2.atI _ _ = _
      rw [atI_pos hw2.1, List.getElem?_map, hq]
      rfl
    have ix2 : gIx (enF q) (.int 1) = some (.int q.2) := rfl
    obtain ⟨P, hP⟩ : ∃ P : Int, gPow (.int 10) (.int 59) = some (.int P) := ⟨_, gPow_i (by decide)⟩
    obtain ⟨P2, hP2⟩ : ∃ P : Int, gPow (.int 10) (.int 58) = some (.int P) := ⟨_, gPow_i (by decide)⟩
    obtain ⟨P3, hP3⟩ : ∃ P : Int, gPow (.int 10) (.int 50) = some (.int P) := ⟨_, gPow_i (by decide)⟩
    obtain ⟨x3, y3, e3⟩ := take_run p2 (n := 5) (by omega) (by omega)
    obtain ⟨far, efar⟩ := five_i (a := -1) (b := q.2) (c := q.2 + 1) (d := P + q.2) (e := -1 - P2) (tkv_lo p2 (n := 5) (by omega)) (tkv_hi p2 (by omega))
    obtain ⟨p3, hp3⟩ : ∃ p3, tkp p2 5 = p3 := ⟨_, rfl⟩
    rw [hp3] at e3
    obtain ⟨x4, y4, e4⟩ := take_run p3 (n := 3) (by omega) (by omega)
    obtain ⟨p4, hp4⟩ : ∃ p4, tkp p3 3 = p4 := ⟨_, rfl⟩
    rw [hp4] at e4
    obtain ⟨x5, y5, e5⟩ := take_run p4 (n := 6) (by omega) (by omega)
    obtain ⟨a, ha⟩ : ∃ a, tkv p4 6 = a := ⟨_, rfl⟩
    have a0 := tkv_lo p4 (n := 6) (by omega)
    have a1 := tkv_hi p4 (n := 6) (by omega)
    rw [ha] at e5 a0 a1
    obtain ⟨p5, hp5⟩ : ∃ p5, tkp p4 6 = p5 := ⟨_, rfl⟩
    rw [hp5] at e5
    -- the tie
    obtain ⟨i1, i2, i3, i4, etie⟩ : ∃ i1 i2 i3 i4 : Int, ∀ (f : O → Sv), lPut (.int far) (.int t) (.lst [.int 0, .int 0, .int 0, .int 0]) = some ((), .lst [.int i1, .int i2, .int i3, .int i4]) := by
      have hc : t = 0 ∨ t = 1 ∨ t = 2 ∨ t = 3 := by omega
      rcases hc with rfl | rfl | rfl | rfl
      · exact ⟨far, 0, 0, 0, fun _ => rfl⟩
      · exact ⟨0, far, 0, 0, fun _ => rfl⟩
      · exact ⟨0, 0, far, 0, fun _ => rfl⟩
      · exact ⟨0, 0, 0, far, fun _ => rfl⟩
    have etie := etie .o
    obtain ⟨i5, etie2⟩ : ∃ i5 : Int, (if decide (tkv p3 3 = 1) = true then lPut (.int P3) (.int 3) (.lst [.int i1, .int i2, .int i3, .int i4]) else some ((), .lst [.int i1, .int i2, .int i3, .int i4])) = some ((), .lst [.int i1, .int i2, .int i3, .int i5]) := by
      by_cases hc : tkv p3 3 = 1
      · exact ⟨P3, by rw [if_pos (by simpa using hc)]; rfl⟩
      · exact ⟨i4, by rw [if_neg (by simpa using hc)]⟩
    obtain ⟨ta, ea, la, ma⟩ := cutD_map (enc := enL) n.ties none (some 5)
    rw [hT] at ea
    have la5 : ta.length ≤ 5 := by
      have : ta.length = (cutD T none (some ((5 : Nat) : Int))).length := by
        rw [show (((5 : Nat) : Int)) = 5 from rfl, ea, List.length_map]
      rw [cutD_to, List.length_take] at this
      omega
    obtain ⟨tb, eb, lb, mb⟩ := cutD_map (enc := enL) ta none (some a)
    obtain ⟨tc, ec, lc, mc⟩ := cutD_map (enc := enL) ta (some a) none
    have etl : D.nd .tup [.int i1, .int i2, .int i3, .int i5] = enL [i1, i2, i3, i5] := rfl
    have ad : gAdd (.nd .tup (tb.map enL)) (.nd .tup [enL [i1, i2, i3, i5]]) = some (.nd .tup (tb.map enL ++ [enL [i1, i2, i3, i5]])) := gAdd_t (by simp; omega)
    have ad2 : gAdd (.nd .tup (tb.map enL ++ [enL [i1, i2, i3, i5]])) (.nd .tup (tc.map enL)) = some (.nd .tup ((tb.map enL ++ [enL [i1, i2, i3, i5]]) ++ tc.map enL)) := gAdd_t (by simp; omega)
    have en : D.nd .tup [S, .nd .tup R, .nd .tup ((tb.map enL ++ [enL [i1, i2, i3, i5]]) ++ tc.map enL)] = enN ⟨n.sp, n.rules, (tb ++ [[i1, i2, i3, i5]]) ++ tc⟩ := by rw [mk, hS, hR]; simp
    refine ⟨⟨n.sp, n.rules, (tb ++ [[i1, i2, i3, i5]]) ++ tc⟩, p5, [.d S, .d (.nd .tup R), .d (.nd .tup (ta.map enL)), .d (.int o), .d (.int a), .d (.int t), .d (.int q.2), .d (.int far), .o (.lst [.int i1, .int i2, .int i3, .int i5])], .d N, ?_, h.put rf (by omega) (fun z hz => ?_) (by simp; omega)⟩
    · rw [hN, nx]
      simp only [List.append_assoc, List.cons_append, List.nil_append] at ad2 en
      by_cases hc : tkv p3 3 = 1
      · rw [if_pos (by simpa using hc)] at etie2
        by_cases ho4 : o < 4
        · simp [e1, h0, h1, ho4, hcond ho4, e2, gl, gMod_i, hw, ix, ix2, hP, hP2, hP3, e3, efar, etie, e4, hc, etie2, e5, ea, eb, ec, etl, ad, ad2, en]
        · simp [e1, h0, h1, ho4, e2, gl, gMod_i, hw, ix, ix2, hP, hP2, hP3, e3, efar, etie, e4, hc, etie2, e5, ea, eb, ec, etl, ad, ad2, en]
      · rw [if_neg (by simpa using hc)] at etie2
        have h45 : i4 = i5 := by
          injection etie2 with z
          injection z with _ z
          injection z with z
          injection z with _ z
          injection z with _ z
          injection z with _ z
          injection z with z
          injection z
        subst h45
        by_cases ho4 : o < 4
        · simp [e1, h0, h1, ho4, hcond ho4, e2, gl, gMod_i, hw, ix, ix2, hP, hP2, hP3, e3, efar, etie, e4, hc, e5, ea, eb, ec, etl, ad, ad2, en]
        · simp [e1, h0, h1, ho4, e2, gl, gMod_i, hw, ix, ix2, hP, hP2, hP3, e3, efar, etie, e4, hc, e5, ea, eb, ec, etl, ad, ad2, en]
    · simp only [List.mem_append, List.mem_singleton] at hz
      rcases hz with (hz | rfl) | hz
      · exact h.tl z (ma z (mb z hz))
      · rfl
      · exact h.tl z (ma z (mc z hz))
end Sw
set_option maxRecDepth 100000
set_option maxHeartbeats 4000000
namespace Sw
open PySem PySem.Spec L2

/-! ### a comprehension that draws -/
theorem lcLoop_st {vs : List Nat} {g : D → M Out} {me : M D} (C : Ctx → Prop) (P : D → Prop) : ∀ (xs acc : List D) (c : Ctx), C (wipeC c vs) →
    (∀ x ∈ xs, ∀ c, C c → ∃ c1 y c2, g x c = .ok .nx c1 ∧ me c1 = .ok y c2 ∧ C (wipeC c2 vs) ∧ P y) → acc.length + xs.length ≤ 16777216 →
    ∃ ys c', lcLoop vs g (mp true) me xs acc c = .ok (acc ++ ys) c' ∧ C c' ∧ ys.length = xs.length ∧ ∀ y ∈ ys, P y
  | [], acc, c, hc, _, _ => ⟨[], wipeC c vs, by rw [List.append_nil]; rfl, hc, rfl, fun _ h => by simp at h⟩
  | x :: xs, acc, c, hc, one, hl => by
    rw [List.length_cons] at hl
    obtain ⟨c1, y, c2, e1, e2, h2, py⟩ := one x List.mem_cons_self _ hc
    obtain ⟨ys, c', e, h', l', p'⟩ := lcLoop_st C P xs (acc ++ [y]) c2 h2 (fun z hz => one z (List.mem_cons_of_mem _ hz)) (by rw [List.length_append]; simp; omega)
    refine ⟨y :: ys, c', ?_, h', by rw [List.length_cons, List.length_cons, l'], fun z hz => ?_⟩
    · rw [lcLoop]
      dsimp only
      rw [mb_r, e1, Rs.bnd_ok]
      show mb (mp true) _ c1 = _
      rw [mb_r, mp_r, Rs.bnd_ok, if_pos rfl, mb_r, e2, Rs.bnd_ok, if_pos (by rw [sizeLine_big]; omega), e]
      simp
    · rcases List.mem_cons.mp hz with rfl | hz
      · exact py
      · exact p' z hz
theorem mLc_st {vs : List Nat} {mi : M (List D)} {g : D → M Out} {me : M D} (C : Ctx → Prop) (P : D → Prop) {xs : List D} {c c1 : Ctx} (hi : mi c = .ok xs c1) (h : C (wipeC c1 vs))
    (one : ∀ x ∈ xs, ∀ c, C c → ∃ c1 y c2, g x c = .ok .nx c1 ∧ me c1 = .ok y c2 ∧ C (wipeC c2 vs) ∧ P y) (hl : xs.length ≤ 16777216) :
    ∃ ys c', mLc vs mi g (mp true) me c = .ok (.lst ys) c' ∧ C c' ∧ ys.length = xs.length ∧ ∀ y ∈ ys, P y := by
  obtain ⟨ys, c', e, h1, h2, h3⟩ := lcLoop_st C P xs [] c1 h one (by simpa using hl)
  refine ⟨ys, c', ?_, h1, h2, h3⟩
  unfold mLc
  rw [mb_r, hi, Rs.bnd_ok, mb_r, mq_r, e]
  simp
theorem all_ints : ∀ {ys : List D}, (∀ y ∈ ys, ∃ i : Int, y = .int i) → ∃ zs : List Int, ys = zs.map .int
  | [], _ => ⟨[], rfl⟩
  | y :: ys, h => by
    obtain ⟨i, rfl⟩ := h y List.mem_cons_self
    obtain ⟨zs, rfl⟩ := all_ints fun z hz => h z (List.mem_cons_of_mem _ hz)
    exact ⟨i :: zs, rfl⟩
theorem names_two {sp : Sp} {f : Int} {tail : Str} (G : GoodSp sp f tail) : ∀ q0 q1, sp[0]? = some q0 → sp[1]? = some q1 → q0.1 ≠ q1.1 := by
  intro q0 q1 h0 h1 he
  have l1 := (List.getElem?_eq_some_iff.mp h1).1
  have n0 : (sp.map (·.1))[0]? = some q0.1 := by rw [List.getElem?_map, h0]; rfl
  have n1 : (sp.map (·.1))[1]? = some q1.1 := by rw [List.getElem?_map, h1]; rfl
  rw [G.names, List.getElem?_map, List.getElem?_range (by omega)] at n0 n1
  have n0 : nameOf f tail 0 = q0.1 := Option.some.inj n0
  have n1 : nameOf f tail 1 = q1.1 := Option.some.inj n1
  have e : nameOf f tail 0 = nameOf f tail 1 := by rw [n0, n1, he]
  have e2 := congrArg (fun s : Str => s.cps.toList.head?) e
  unfold nameOf at e2
  simp only [PySem.Str.cps_append, Array.toList_append] at e2
  have e3 : signN f 0 = signN f 1 := by simpa using e2
  unfold signN at e3
  have a0 := G.f0
  have a1 := G.f1
  omega

/-! ### a net drawn -/
def fNetL : Fd := fnM 9 (K72.m_law_net fSpeech fCellD fSaying fPurse fTake)
theorem cellD_at (ns : List Int) {k : Int} (h : 0 ≤ k) : ∃ z c, fCellD [.d (.nd .scr (ns.map .int)), .d (.int k)] = .ok (.d (.int z)) c := by
  obtain ⟨z, c, e⟩ := cellD_run ns k.toNat
  rw [Int.toNat_of_nonneg h] at e
  exact ⟨z, c, e⟩
theorem cut_scr (ns : List Int) {a b : Int} (h0 : 0 ≤ a) (h : b = a + 7) : ∃ zs : List Int, gSl (.nd .scr (ns.map .int)) (some a) (some b) = some (.nd .lst (zs.map .int)) ∧ zs.length ≤ 7 := by
  obtain ⟨zs, ez, _, _⟩ := cutD_map (enc := D.int) ns (some a) (some b)
  refine ⟨zs, by rw [gSl_s, ez], ?_⟩
  have hl : zs.length = (cutD (ns.map D.int) (some ((a.toNat : Nat) : Int)) (some ((b.toNat : Nat) : Int))).length := by
    rw [Int.toNat_of_nonneg h0, Int.toNat_of_nonneg (by omega), ez, List.length_map]
  rw [hl]
  unfold cutD
  rw [List.length_take, HT.sIx_nat, HT.sIx_nat]
  omega
def mTieP : M Out := mSeq (mSetO 7 (mRvO (mCallA fPurse (aD (mRvD (mCallA fCellD (aD (mVar 0) (aD (m2 gAdd (lv (m2 gAdd (lv (mVar 1)) (lv (mp (.int 2))))) (lv (mVar 5))) (aNil))))) (aNil)))))
  (mDrop (mApp 6 (mCl gTuple (lCons (lv (mFz (mLc [8] (itR rng1 (mCons (mp (.int 4)) (mp []))) (gN 8) (mp true) (mRvD (mCallA fTake (aL 7 (aD (m2 gIx (lv (m2 gIx (lv (mVar 2)) (lv (m2 gMod (lv (mVar 8)) (lv (mp (.int 2))))))) (lv (mp (.int 1)))) (aNil)))))))) (mp [])))))
def mRuleP : M Out := mDrop (mApp 4 (mRvD (mCallA fSaying (aD (mSl gSl (lv (mVar 0)) (mPart (m2 gAdd (lv (m2 gAdd (lv (mVar 1)) (lv (mp (.int 8))))) (lv (m2 gMul (lv (mp (.int 7))) (lv (mVar 5)))))) (mPart (m2 gAdd (lv (m2 gAdd (lv (mVar 1)) (lv (mp (.int 15))))) (lv (m2 gMul (lv (mp (.int 7))) (lv (mVar 5))))))) (aD (mVar 2) (aD (mp (.int 0)) (aNil)))))))
theorem tieP_run (ns : List Int) {sp : Sp} (h2 : 2 ≤ sp.length) (hc : ∀ q ∈ sp, 1 ≤ q.2 ∧ q.2 ≤ 6) {m : D} {R : List D} {k : Int} (k0 : 0 ≤ k) {ties : Ties} (hl : ties.length < 100) (s7 s8 : Sv) :
    ∃ t : List Int, t.length = 4 ∧ ∃ s7' s8', mTieP [.d (.nd .scr (ns.map .int)), .d (.int 12), .d (enSp sp), .d m, .o (.lst R), .d (.int k), .o (.lst (ties.map enL)), s7, s8] =
      .ok .nx [.d (.nd .scr (ns.map .int)), .d (.int 12), .d (enSp sp), .d m, .o (.lst R), .d (.int k), .o (.lst ((ties ++ [t]).map enL)), s7', s8'] := by
  obtain ⟨z, c1, e1⟩ := cellD_at ns (k := 14 + k) (by omega)
  obtain ⟨p, c2, e2⟩ := purse_run z
  obtain ⟨N, hN⟩ : ∃ N, D.nd .scr (ns.map .int) = N := ⟨_, rfl⟩
  obtain ⟨T, hT⟩ : ∃ T, ties.map enL = T := ⟨_, rfl⟩
  have lT : T.length = ties.length := by rw [← hT, List.length_map]
  rw [hN] at e1
  rw [hN, hT]
  obtain ⟨ys, c', e3, ⟨p', hc'⟩, ly, py⟩ := mLc_st (vs := [8]) (mi := itR rng1 (mCons (mp (.int 4)) (mp []))) (g := gN 8) (me := mRvD (mCallA fTake (aL 7 (aD (m2 gIx (lv (m2 gIx (lv (mVar 2)) (lv (m2 gMod (lv (mVar 8)) (lv (mp (.int 2))))))) (lv (mp (.int 1)))) (aNil)))))
    (fun c => ∃ p', c = [.d N, .d (.int 12), .d (enSp sp), .d m, .o (.lst R), .d (.int k), .o (.lst T), .o (enP p'), .no]) (fun y => ∃ i : Int, y = .int i) (xs := rng 0 4)
    (c := [.d N, .d (.int 12), .d (enSp sp), .d m, .o (.lst R), .d (.int k), .o (.lst T), .o (enP p), s8]) (c1 := [.d N, .d (.int 12), .d (enSp sp), .d m, .o (.lst R), .d (.int k), .o (.lst T), .o (enP p), s8]) (by simp) ⟨p, by simp⟩ (by
      rintro x hx c ⟨p', rfl⟩
      rw [rng4] at hx
      obtain ⟨j, hj, rfl⟩ := List.mem_map.mp hx
      have hq := getD_lt (sp := sp) (k := j % 2) (by omega)
      obtain ⟨q, hqe⟩ : ∃ q, sp.getD (j % 2) ("", 0) = q := ⟨_, rfl⟩
      rw [hqe] at hq
      have x1 := spIx hq
      have x2 : gIx (enF q) (.int 1) = some (.int q.2) := rfl
      have x4 : gMod (.int (j : Int)) (.int 2) = some (.int ((j % 2 : Nat) : Int)) := by rw [gMod_i (by omega)]; rfl
      obtain ⟨J, hJ⟩ : ∃ J : Int, (j : Int) = J := ⟨_, rfl⟩
      obtain ⟨J2, hJ2⟩ : ∃ J2 : Int, ((j % 2 : Nat) : Int) = J2 := ⟨_, rfl⟩
      rw [hJ2] at x1 x4
      rw [hJ] at x4 ⊢
      have hcq := hc q (List.mem_of_getElem? hq)
      obtain ⟨a, b, et⟩ := take_run p' (n := q.2) (by omega) (by omega)
      exact ⟨[.d N, .d (.int 12), .d (enSp sp), .d m, .o (.lst R), .d (.int k), .o (.lst T), .o (enP p'), .d (.int J)], .int (tkv p' q.2), [.d N, .d (.int 12), .d (enSp sp), .d m, .o (.lst R), .d (.int k), .o (.lst T), .o (enP (tkp p' q.2)), .d (.int J)], by simp, by simp [x1, x2, x4, et], ⟨tkp p' q.2, by simp⟩, _, rfl⟩) (by simp [rng])
  obtain ⟨t, rfl⟩ := all_ints py
  subst hc'
  refine ⟨t, by simpa [rng] using ly, .o (enP p'), .no, ?_⟩
  have et : D.nd .tup (t.map .int) = enL t := rfl
  have eT : T ++ [enL t] = (ties ++ [t]).map enL := by rw [List.map_append, hT]; rfl
  unfold mTieP
  have h16 : T.length < 16777216 := by omega
  simp [e1, e2, e3, et, h16, eT]
theorem ruleP_run (ns : List Int) {sp : Sp} (G : SpOk sp) {m : D} {k : Int} (k0 : 0 ≤ k) (k1 : k < 1000) {rules : List Say} (hl : rules.length < 100) :
    ∃ s : Say, s.Good sp ∧ s.dep ≤ 8 ∧ mRuleP [.d (.nd .scr (ns.map .int)), .d (.int 12), .d (enSp sp), .d m, .o (.lst (rules.map enS)), .d (.int k), .no, .no, .no] =
      .ok .nx [.d (.nd .scr (ns.map .int)), .d (.int 12), .d (enSp sp), .d m, .o (.lst ((rules ++ [s]).map enS)), .d (.int k), .no, .no, .no] := by
  have hm : CMul 7 k := .inl ⟨by decide, by decide⟩
  obtain ⟨K, hK⟩ : ∃ K, 7 * k = K := ⟨_, rfl⟩
  have em : gMul (.int 7) (.int k) = some (.int K) := by rw [gMul_i hm, hK]
  obtain ⟨zs, ez, lz⟩ := cut_scr ns (a := 20 + K) (b := 27 + K) (by omega) (by omega)
  obtain ⟨s, c, es, g, d, _⟩ := saying_run G zs (by omega) 0
  have es : fSaying [.d (.nd .lst (zs.map .int)), .d (enSp sp), .d (.int 0)] = .ok (.d (enS s)) c := es
  refine ⟨s, g, by omega, ?_⟩
  obtain ⟨N, hN⟩ : ∃ N, D.nd .scr (ns.map .int) = N := ⟨_, rfl⟩
  obtain ⟨T, hT⟩ : ∃ T, rules.map enS = T := ⟨_, rfl⟩
  have lT : T.length = rules.length := by rw [← hT, List.length_map]
  have eT : T ++ [enS s] = (rules ++ [s]).map enS := by rw [List.map_append, hT]; rfl
  rw [hN] at ez
  rw [hN, hT]
  unfold mRuleP
  have h16 : T.length < 16777216 := by omega
  simp [em, ez, es, h16, eT]
theorem netL_run (ns : List Int) : ∃ n c, fNetL [.d (.nd .scr (ns.map .int)), .d (.int 12)] = .ok (.d (enN n)) c ∧ NetOk 8 n := by
  obtain ⟨z, c0, e0⟩ := cellD_at ns (k := 12) (by omega)
  obtain ⟨z1, c1, e1⟩ := cellD_at ns (k := 13) (by omega)
  obtain ⟨sp, f, tail, cs, es, G, l2⟩ := speech_run z 2 (by omega) (by omega)
  have S : SpOk sp := ⟨G.len, G.pos, G.cnt⟩
  have q0 := getD_lt (sp := sp) (k := 0) (by omega)
  obtain ⟨q, hq⟩ : ∃ q, sp.getD 0 ("", 0) = q := ⟨_, rfl⟩
  rw [hq] at q0
  have hcq := G.cnt q (List.mem_of_getElem? q0)
  have i0 : gIx (enSp sp) (.int 0) = some (enF q) := spIx (k := 0) q0
  have i1 : gIx (enF q) (.int 1) = some (.int q.2) := rfl
  have rq : rng1 [.int q.2] = some (rng 0 q.2.toNat) := rng1_i (by omega)
  obtain ⟨M, hM⟩ : ∃ M, z1 % 7 = M := ⟨_, rfl⟩
  have m7 := mod_pos (i := z1) (j := 7) (by omega)
  rw [hM] at m7
  have em : gMod (.int z1) (.int 7) = some (.int M) := by rw [gMod_i (by omega), hM]
  have rm : rng1 [.int M] = some (rng 0 M.toNat) := rng1_i (by omega)
  obtain ⟨N, hN⟩ : ∃ N, D.nd .scr (ns.map .int) = N := ⟨_, rfl⟩
  obtain ⟨c2, e2, rules, s5, rfl, g2, l2'⟩ := mFor_run (g := gN 5) (b := mRuleP) (xs := rng 0 q.2.toNat) (c := [.d N, .d (.int 12), .d (enSp sp), .d (.int q.2), .o (.lst []), .no, .no, .no, .no])
    (fun i c => ∃ (rules : List Say) (s5 : Sv), c = [.d N, .d (.int 12), .d (enSp sp), .d (.int q.2), .o (.lst (rules.map enS)), s5, .no, .no, .no] ∧ (∀ s ∈ rules, s.Good sp ∧ s.dep ≤ 8) ∧ rules.length = i) ⟨[], _, rfl, fun _ h => by simp at h, rfl⟩ (by
      rintro i x c hx ⟨rules, s5, rfl, h1, h2⟩
      obtain ⟨hi, rfl⟩ := rng_get hx
      rw [Int.zero_add]
      obtain ⟨s, g, d, e⟩ := ruleP_run ns S (m := .int q.2) (k := (i : Int)) (by omega) (by omega) (rules := rules) (by omega)
      rw [hN] at e
      exact ⟨[.d N, .d (.int 12), .d (enSp sp), .d (.int q.2), .o (.lst (rules.map enS)), .d (.int (i : Int)), .no, .no, .no], _, by simp, .inl e, rules ++ [s], _, rfl, fun t ht => by
        rcases List.mem_append.mp ht with ht | ht
        · exact h1 t ht
        · rw [List.mem_singleton.mp ht]; exact ⟨g, d⟩, by simp [h2]⟩)
  obtain ⟨c3, e3, ties, s5', s7, s8, rfl, g3, l3⟩ := mFor_run (g := gN 5) (b := mTieP) (xs := rng 0 M.toNat) (c := [.d N, .d (.int 12), .d (enSp sp), .d (.int q.2), .o (.lst (rules.map enS)), s5, .o (.lst []), .no, .no])
    (fun i c => ∃ (ties : Ties) (s5 s7 s8 : Sv), c = [.d N, .d (.int 12), .d (enSp sp), .d (.int q.2), .o (.lst (rules.map enS)), s5, .o (.lst (ties.map enL)), s7, s8] ∧ (∀ t ∈ ties, t.length = 4) ∧ ties.length = i) ⟨[], _, _, _, rfl, fun _ h => by simp at h, rfl⟩ (by
      rintro i x c hx ⟨ties, s5, s7, s8, rfl, h1, h2⟩
      obtain ⟨hi, rfl⟩ := rng_get hx
      rw [Int.zero_add]
      obtain ⟨t, ht, s7', s8', e⟩ := tieP_run ns (by omega) G.cnt (m := .int q.2) (R := rules.map enS) (k := (i : Int)) (by omega) (ties := ties) (by omega) s7 s8
      rw [hN] at e
      exact ⟨[.d N, .d (.int 12), .d (enSp sp), .d (.int q.2), .o (.lst (rules.map enS)), .d (.int (i : Int)), .o (.lst (ties.map enL)), s7, s8], _, by simp, .inl e, ties ++ [t], _, _, _, rfl, fun u hu => by
        rcases List.mem_append.mp hu with hu | hu
        · exact h1 u hu
        · rw [List.mem_singleton.mp hu]; exact ht, by simp [h2]⟩)
  have lr : rules.length ≤ 6 := by rw [l2']; simp [rng]; omega
  have lt : ties.length ≤ 6 := by rw [l3]; simp [rng]; omega
  rw [hN] at e0 e1
  refine ⟨⟨sp, rules, ties⟩, [.d N, .d (.int 12), .d (enSp sp), .d (.int q.2), .o (.lst (rules.map enS)), s5', .o (.lst (ties.map enL)), s7, s8], ?_, ⟨G.pos, G.len, G.cnt, G.name, names_two G, fun s hs => ⟨(g2 s hs).1.fine G.spN.nm, (g2 s hs).2⟩, by show rules.length ≤ _; omega, g3, by show ties.length ≤ _; omega⟩⟩
  have en : D.nd .tup [enSp sp, .nd .tup (rules.map enS), .nd .tup (ties.map enL)] = enN ⟨sp, rules, ties⟩ := rfl
  rw [hN]
  unfold fNetL
  rw [fnM_r]
  unfold K72.m_law_net
  unfold mRuleP at e2
  unfold mTieP at e3
  simp [e0, es, i0, i1, rq, e2, e1, em, rm, e3, en]

/-! ### the law -/
theorem law72_run (A : Str → Addr) (ns : List Int) (hl : ns.length ≤ 63) : ∃ c, fnM 5 (K72.m_law fNetL (fGood72 A) fPurse fSpo72) [.d (.nd .scr (ns.map .int))] = .ok (.d (.bl true)) c := by
  obtain ⟨n, cn, en, hn⟩ := netL_run ns
  obtain ⟨cg, eg⟩ := good72_run A hn (by omega) 0
  obtain ⟨zs, ez, hz, _⟩ := cutD_map (enc := D.int) ns none (some 20)
  have ea : gAdd (.nd .lst [.int 1, .int 2, .int 3, .int 5, .int 9]) (.nd .lst (zs.map D.int)) = some (.nd .lst ((1 :: 2 :: 3 :: 5 :: 9 :: zs).map D.int)) := by
    rw [gAdd_l (by simp; omega)]
    rfl
  obtain ⟨c1, e1, ⟨s2, s3, s4, rfl⟩⟩ := mFor_run (g := gN 2) (b := mSeq (mSetO 3 (mRvO (mCallA fPurse (aD (mVar 2) (aNil)))))
  (mSeq (mSet 4 (mRvD (mCallA fSpo72 (aD (mVar 1) (aL 3 (aNil))))))
  (mIfS (mOr (mNot (mT (mRvD (mCallA (fGood72 A) (aD (mVar 4) (aD (mVar 2) (aNil))))))) (mNot (mT (mRvD (mCallA (fGood72 A) (aD (mRvD (mCallA fSpo72 (aD (mVar 4) (aL 3 (aNil))))) (aD (mVar 2) (aNil)))))))) (mRet (mp (.bl false))) (mp .nx)))) (xs := (1 :: 2 :: 3 :: 5 :: 9 :: zs).map D.int) (c := [.d (.nd .scr (ns.map .int)), .d (enN n), .no, .no, .no])
    (fun i c => ∃ s2 s3 s4, c = [.d (.nd .scr (ns.map .int)), .d (enN n), s2, s3, s4]) ⟨_, _, _, rfl⟩ (by
      rintro i x c hx ⟨s2, s3, s4, rfl⟩
      rw [List.getElem?_map] at hx
      obtain ⟨z, hz', rfl⟩ := Option.map_eq_some_iff.mp hx
      obtain ⟨p, cp, ep⟩ := purse_run z
      obtain ⟨n1, p1, r1, x1, h1, f1⟩ := spo72_run hn (by omega) p
      obtain ⟨k1, g1⟩ := good72_run A f1 (by omega) z
      obtain ⟨n2, p2, r2, x2, h2, f2⟩ := spo72_run f1 (by omega) p1
      obtain ⟨k2, g2⟩ := good72_run A f2 (by omega) z
      exact ⟨[.d (.nd .scr (ns.map .int)), .d (enN n), .d (.int z), s3, s4], [.d (.nd .scr (ns.map .int)), .d (enN n), .d (.int z), .o (enP p2), .d (enN n1)], by simp, .inl (by simp [ep, h1, g1, h2, g2]), _, _, _, rfl⟩)
  refine ⟨[.d (.nd .scr (ns.map .int)), .d (enN n), s2, s3, s4], ?_⟩
  rw [fnM_r]
  unfold K72.m_law
  simp only [List.map_cons] at e1 ea
  simp [en, eg, ez, ea, e1]
end Sw
set_option maxRecDepth 100000
set_option maxHeartbeats 8000000
namespace K72
open PySem PySem.Spec L2 Sw
def topS (i : Nat) : Stmt := PySem.Challenge.pw_switchsay_k72_no_net.main.body.getD i (.Pass ⟨0, 0, 0, 0⟩)
structure Bl (mg : Str → Option Value) : Prop where
  n_enumerate : mg "enumerate" = none
  n_all : mg "all" = none
  n_int : mg "int" = none
  n_sum : mg "sum" = none
  n_range : mg "range" = none
  n_len : mg "len" = none
  n_abs : mg "abs" = none
  n_max : mg "max" = none
  n_min : mg "min" = none
  n_tuple : mg "tuple" = none
  n_isinstance : mg "isinstance" = none
  n_ValueError : mg "ValueError" = none
section
variable {P : Program} {w : World} {K : PySem.W.Frag} {mg : Str → Option Value} {base : Heap}
abbrev si_NoField : Stmt := clsS (topS 2) 0
theorem sci_NoField : FnScope ["self", "field"] ["self", "field"] (defScope si_NoField) := ⟨rfl, rfl, rfl, by decide +kernel, rfl, by decide +kernel, by decide +kernel⟩
theorem oki_NoField {fI C : Addr} {fd : FuncData} (F : Fun K "__init__" "NoField.__init__" si_NoField fI fd) (T : OexC K C) (h0 : PySem.W.findIn K (.ref C) "field" = some none) : FnOk P w K mg base (L2.CX P w) 1 fI fd ["self", "field"] (spI C ["field"]) :=
  init1_ok (k := 0) F sci_NoField T h0 rfl fun cdv A outer s H E => (pss_one (ps_ost (pv 0) (pv 1)))
abbrev si_NoValue : Stmt := clsS (topS 3) 0
theorem sci_NoValue : FnScope ["self", "value"] ["self", "value"] (defScope si_NoValue) := ⟨rfl, rfl, rfl, by decide +kernel, rfl, by decide +kernel, by decide +kernel⟩
theorem oki_NoValue {fI C : Addr} {fd : FuncData} (F : Fun K "__init__" "NoValue.__init__" si_NoValue fI fd) (T : OexC K C) (h0 : PySem.W.findIn K (.ref C) "value" = some none) : FnOk P w K mg base (L2.CX P w) 1 fI fd ["self", "value"] (spI C ["value"]) :=
  init1_ok (k := 0) F sci_NoValue T h0 rfl fun cdv A outer s H E => (pss_one (ps_ost (pv 0) (pv 1)))
abbrev si_NoTest : Stmt := clsS (topS 4) 0
theorem sci_NoTest : FnScope ["self", "saying"] ["self", "saying"] (defScope si_NoTest) := ⟨rfl, rfl, rfl, by decide +kernel, rfl, by decide +kernel, by decide +kernel⟩
theorem oki_NoTest {fI C : Addr} {fd : FuncData} (F : Fun K "__init__" "NoTest.__init__" si_NoTest fI fd) (T : OexC K C) (h0 : PySem.W.findIn K (.ref C) "saying" = some none) : FnOk P w K mg base (L2.CX P w) 1 fI fd ["self", "saying"] (spI C ["saying"]) :=
  init1_ok (k := 0) F sci_NoTest T h0 rfl fun cdv A outer s H E => (pss_one (ps_ost (pv 0) (pv 1)))
abbrev si_NoPlain : Stmt := clsS (topS 5) 0
theorem sci_NoPlain : FnScope ["self", "saying"] ["self", "saying"] (defScope si_NoPlain) := ⟨rfl, rfl, rfl, by decide +kernel, rfl, by decide +kernel, by decide +kernel⟩
theorem oki_NoPlain {fI C : Addr} {fd : FuncData} (F : Fun K "__init__" "NoPlain.__init__" si_NoPlain fI fd) (T : OexC K C) (h0 : PySem.W.findIn K (.ref C) "saying" = some none) : FnOk P w K mg base (L2.CX P w) 1 fI fd ["self", "saying"] (spI C ["saying"]) :=
  init1_ok (k := 0) F sci_NoPlain T h0 rfl fun cdv A outer s H E => (pss_one (ps_ost (pv 0) (pv 1)))
abbrev si_TooGreat : Stmt := clsS (topS 6) 0
theorem sci_TooGreat : FnScope ["self", "number", "most"] ["self", "number", "most"] (defScope si_TooGreat) := ⟨rfl, rfl, rfl, by decide +kernel, rfl, by decide +kernel, by decide +kernel⟩
theorem oki_TooGreat {fI C : Addr} {fd : FuncData} (F : Fun K "__init__" "TooGreat.__init__" si_TooGreat fI fd) (T : OexC K C) (h0 : PySem.W.findIn K (.ref C) "number" = some none) (h1 : PySem.W.findIn K (.ref C) "most" = some none) : FnOk P w K mg base (L2.CX P w) 1 fI fd ["self", "number", "most"] (spI C ["number", "most"]) :=
  init2_ok (k := 0) F sci_TooGreat T h0 h1 rfl fun cdv A outer s H E => (pss_cons (ps_ost (pv 0) (pv 1)) (pss_one (ps_ost (pv 0) (pv 2))))
abbrev s_place_of : Stmt := topS 10
abbrev N_place_of : List Str := ["speech", "field", "place", "one"]
theorem sc_place_of : FnScope N_place_of ["speech", "field"] (defScope s_place_of) := ⟨rfl, rfl, rfl, by decide +kernel, rfl, by decide +kernel, by decide +kernel⟩
theorem ok_place_of (B : Bl mg) {A : Str → Addr} (Xa : XAll P w K mg A) (F : FunC K mg "place_of" s_place_of ["speech", "field"]) : Cal P w K mg base (2 + 1) "place_of" ["speech", "field"] (fnM 4 (m_place_of A )) :=
  cal_ok F sc_place_of fun f cdv A outer s H E hr =>
  (sss_cons (ss_for (passes_of rfl) rfl (ei_enum (by rfl) B.n_enumerate (ed_var (pv 0))) (eg_seq rfl (egs_cons (eg_name (pg_name (i := 2) sc_place_of.nd rfl (.inl rfl))) (egs_cons (eg_name (pg_name (i := 3) sc_place_of.nd rfl (.inl rfl))) egs_nil))) (sss_one (ss_if (et_cmp (op_hEq hr) (dop_hEq _) (el_of (ed_ix ix_seq (dop_ix _) (el_of (ed_var (pv 3))) (el_of ed_int) (fun _ _ => rfl))) (el_of (ed_var (pv 1))) rfl) (sss_one (ss_ret (ed_var (pv 2)))) sss_nil)))
  (sss_one (ss_raise rfl (takes_of rfl rfl rfl rfl) (ex_mkC Xa.NoField hr (by omega) (by decide) (by rfl) (ea_cons (ed_var (pv 1)) ea_nil) (mCons_lenX mNil_len)))))
abbrev s_must_value : Stmt := topS 11
abbrev N_must_value : List Str := ["speech", "field", "value", "place"]
theorem sc_must_value : FnScope N_must_value ["speech", "field", "value"] (defScope s_must_value) := ⟨rfl, rfl, rfl, by decide +kernel, rfl, by decide +kernel, by decide +kernel⟩
theorem ok_must_value (B : Bl mg) {A : Str → Addr} (Xa : XAll P w K mg A) (F : FunC K mg "must_value" s_must_value ["speech", "field", "value"]) {F_place_of : Fd} (C_place_of : Cal P w K mg base 3 "place_of" ["speech", "field"] F_place_of) : Cal P w K mg base (3 + 1) "must_value" ["speech", "field", "value"] (fnM 4 (m_must_value A F_place_of)) :=
  cal_ok F sc_must_value fun f cdv A outer s H E hr =>
  (sss_cons (ss_set (i := 3) sc_must_value.nd rfl (.inl rfl) (ed_callC C_place_of hr (by decide) (by rfl) (takes_of rfl rfl rfl rfl) (eaa_d (ed_var (pv 0)) (eaa_d (ed_var (pv 1)) eaa_nil)) (aD_len (aD_len aNil_len))))
  (sss_cons (ss_if (et_not (et_chain (op_hLe (hu64 hr)) (dop_hLe _) (op_hLt (hu64 hr)) (dop_hLt _) (el_of ed_int) (el_of (ed_var (pv 2))) (el_of (ed_ix ix_seq (dop_ix _) (el_of (ed_ix ix_seq (dop_ix _) (el_of (ed_var (pv 0))) (el_of (ed_var (pv 3))) (fun _ _ => rfl))) (el_of ed_int) (fun _ _ => rfl))) rfl)) (sss_one (ss_raise rfl (takes_of rfl rfl rfl rfl) (ex_mkC Xa.NoValue hr (by omega) (by decide) (by rfl) (ea_cons (ed_var (pv 2)) ea_nil) (mCons_lenX mNil_len)))) sss_nil)
  (sss_one (ss_ret (ed_var (pv 3))))))
abbrev s_inside : Stmt := topS 14
abbrev N_inside : List Str := ["saying"]
theorem sc_inside : FnScope N_inside ["saying"] (defScope s_inside) := ⟨rfl, rfl, rfl, by decide +kernel, rfl, by decide +kernel, by decide +kernel⟩
theorem ok_inside (B : Bl mg) (F : FunC K mg "inside" s_inside ["saying"]) : Cal P w K mg base (0 + 1) "inside" ["saying"] (fnM 1 (m_inside )) :=
  cal_ok F sc_inside fun f cdv A outer s H E hr =>
  (sss_cons (ss_if (et_cmp (op_hIn hr) (dop_hIn _) (el_of (ed_ix ix_seq (dop_ix _) (el_of (ed_var (pv 0))) (el_of ed_int) (fun _ _ => rfl))) (el_of (ed_tup (ea_cons ed_str (ea_cons ed_str ea_nil)))) rfl) (sss_one (ss_ret (ed_fz (eo_lst (ea_cons (ed_ix ix_seq (dop_ix _) (el_of (ed_var (pv 0))) (el_of ed_int) (fun _ _ => rfl)) ea_nil))))) sss_nil)
  (sss_cons (ss_if (et_cmp (op_hIn hr) (dop_hIn _) (el_of (ed_ix ix_seq (dop_ix _) (el_of (ed_var (pv 0))) (el_of ed_int) (fun _ _ => rfl))) (el_of (ed_tup (ea_cons ed_str (ea_cons ed_str ea_nil)))) rfl) (sss_one (ss_ret (ed_fz (eo_lst (ea_cons (ed_ix ix_seq (dop_ix _) (el_of (ed_var (pv 0))) (el_of ed_int) (fun _ _ => rfl)) (ea_cons (ed_ix ix_seq (dop_ix _) (el_of (ed_var (pv 0))) (el_of ed_int) (fun _ _ => rfl)) ea_nil)))))) sss_nil)
  (sss_one (ss_ret (ed_fz (eo_lst ea_nil))))))
abbrev s_is_test : Stmt := topS 15
abbrev N_is_test : List Str := ["saying", "one"]
theorem sc_is_test : FnScope N_is_test ["saying"] (defScope s_is_test) := ⟨rfl, rfl, rfl, by decide +kernel, rfl, by decide +kernel, by decide +kernel⟩
theorem ok_is_test {k : Nat} (B : Bl mg) (F : FunC K mg "is_test" s_is_test ["saying"]) {F_inside : Fd} (C_inside : Cal P w K mg base 1 "inside" ["saying"] F_inside) {F_is_test : Fd} (C_is_test : Cal P w K mg base (1 + k) "is_test" ["saying"] F_is_test) : Cal P w K mg base (1 + k + 1) "is_test" ["saying"] (fnM 2 (m_is_test F_inside F_is_test)) :=
  cal_ok F sc_is_test fun f cdv A outer s H E hr =>
  (sss_cons (ss_if (et_cmp (op_hIn hr) (dop_hIn _) (el_of (ed_ix ix_seq (dop_ix _) (el_of (ed_var (pv 0))) (el_of ed_int) (fun _ _ => rfl))) (el_of (ed_tup (ea_cons ed_str (ea_cons ed_str (ea_cons ed_str ea_nil))))) rfl) (sss_one (ss_ret ed_bl)) sss_nil)
  (sss_one (ss_ret (ed_callB (cr_all rfl) dcl_all (by rfl) B.n_all (by decide +kernel) (eal_cons (el_of (ed_fz (eo_lc (own := [("one", 1)]) rfl sc_is_test.nd (ei_seq (ed_callC C_inside hr (by omega) (by rfl) (takes_of rfl rfl rfl rfl) (eaa_d (ed_var (pv 0)) eaa_nil) (aD_len aNil_len))) (blkOk_by (N := N_is_test) (sc := defScope s_is_test) (by decide +kernel)) (fun _ _ _ _ _ => (eg_name (pg_name (i := 1) sc_is_test.nd rfl (.inl rfl)))) (fun _ _ _ _ _ => eps_nil) (fun _ _ _ _ _ => (ed_callC C_is_test hr (by omega) (by rfl) takes0 (eaa_d (ed_var (pv 1)) eaa_nil) (aD_len aNil_len))) (by decide)))) eal_nil)))))
abbrev s_notes_in : Stmt := topS 16
abbrev N_notes_in : List Str := ["saying", "one"]
theorem sc_notes_in : FnScope N_notes_in ["saying"] (defScope s_notes_in) := ⟨rfl, rfl, rfl, by decide +kernel, rfl, by decide +kernel, by decide +kernel⟩
theorem ok_notes_in {k : Nat} (B : Bl mg) (F : FunC K mg "notes_in" s_notes_in ["saying"]) {F_inside : Fd} (C_inside : Cal P w K mg base 1 "inside" ["saying"] F_inside) {F_notes_in : Fd} (C_notes_in : Cal P w K mg base (1 + k) "notes_in" ["saying"] F_notes_in) : Cal P w K mg base (1 + k + 1) "notes_in" ["saying"] (fnM 2 (m_notes_in F_inside F_notes_in)) :=
  cal_ok F sc_notes_in fun f cdv A outer s H E hr =>
  (sss_one (ss_ret (ed_op opr_add (dop_add _) (el_of (ed_callTy call_int1 dcl_int (by rfl) B.n_int (by decide +kernel) (eal_cons (el_of (ed_cmp (op_hEq hr) (dop_hEq _) (el_of (ed_ix ix_seq (dop_ix _) (el_of (ed_var (pv 0))) (el_of ed_int) (fun _ _ => rfl))) (el_of ed_str) rfl)) eal_nil))) (el_of (ed_callB (cr_sum rfl) dcl_sum (by rfl) B.n_sum (by decide +kernel) (eal_cons (el_of (ed_fz (eo_lc (own := [("one", 1)]) rfl sc_notes_in.nd (ei_seq (ed_callC C_inside hr (by omega) (by rfl) (takes_of rfl rfl rfl rfl) (eaa_d (ed_var (pv 0)) eaa_nil) (aD_len aNil_len))) (blkOk_by (N := N_notes_in) (sc := defScope s_notes_in) (by decide +kernel)) (fun _ _ _ _ _ => (eg_name (pg_name (i := 1) sc_notes_in.nd rfl (.inl rfl)))) (fun _ _ _ _ _ => eps_nil) (fun _ _ _ _ _ => (ed_callC C_notes_in hr (by omega) (by rfl) takes0 (eaa_d (ed_var (pv 1)) eaa_nil) (aD_len aNil_len))) (by decide)))) eal_nil))))))
abbrev s_must_saying : Stmt := topS 17
abbrev N_must_saying : List Str := ["speech", "saying", "one"]
theorem sc_must_saying : FnScope N_must_saying ["speech", "saying"] (defScope s_must_saying) := ⟨rfl, rfl, rfl, by decide +kernel, rfl, by decide +kernel, by decide +kernel⟩
theorem ok_must_saying {k : Nat} (B : Bl mg) {A : Str → Addr} (Xa : XAll P w K mg A) (F : FunC K mg "must_saying" s_must_saying ["speech", "saying"]) {F_must_value : Fd} (C_must_value : Cal P w K mg base 4 "must_value" ["speech", "field", "value"] F_must_value) {F_is_test : Fd} (C_is_test : Cal P w K mg base 71 "is_test" ["saying"] F_is_test) {F_must_saying : Fd} (C_must_saying : Cal P w K mg base (71 + k) "must_saying" ["speech", "saying"] F_must_saying) {F_inside : Fd} (C_inside : Cal P w K mg base 1 "inside" ["saying"] F_inside) : Cal P w K mg base (71 + k + 1) "must_saying" ["speech", "saying"] (fnM 3 (m_must_saying A F_must_value F_is_test F_must_saying F_inside)) :=
  cal_ok F sc_must_saying fun f cdv A outer s H E hr =>
  (sss_cons (ss_if (et_cmp (op_hIn hr) (dop_hIn _) (el_of (ed_ix ix_seq (dop_ix _) (el_of (ed_var (pv 1))) (el_of ed_int) (fun _ _ => rfl))) (el_of (ed_tup (ea_cons ed_str (ea_cons ed_str ea_nil)))) rfl) (sss_one (ss_expr (ed_callC C_must_value hr (by omega) (by rfl) (takes_of rfl rfl rfl rfl) (eaa_d (ed_var (pv 0)) (eaa_d (ed_ix ix_seq (dop_ix _) (el_of (ed_var (pv 1))) (el_of ed_int) (fun _ _ => rfl)) (eaa_d (ed_ix ix_seq (dop_ix _) (el_of (ed_var (pv 1))) (el_of ed_int) (fun _ _ => rfl)) eaa_nil))) (aD_len (aD_len (aD_len aNil_len)))))) sss_nil)
  (sss_cons (ss_if (EW.et (ew_and (et_cmp (op_hEq hr) (dop_hEq _) (el_of (ed_ix ix_seq (dop_ix _) (el_of (ed_var (pv 1))) (el_of ed_int) (fun _ _ => rfl))) (el_of ed_str) rfl) (ew_and1 (et_not (et_val (ed_callC C_is_test hr (by omega) (by rfl) (takes_of rfl rfl rfl rfl) (eaa_d (ed_ix ix_seq (dop_ix _) (el_of (ed_var (pv 1))) (el_of ed_int) (fun _ _ => rfl)) eaa_nil) (aD_len aNil_len))))))) (sss_one (ss_raise rfl (takes_of rfl rfl rfl rfl) (ex_mkC Xa.NoTest hr (by omega) (by decide) (by rfl) (ea_cons (ed_ix ix_seq (dop_ix _) (el_of (ed_var (pv 1))) (el_of ed_int) (fun _ _ => rfl)) ea_nil) (mCons_lenX mNil_len)))) sss_nil)
  (sss_one (ss_for (passes_of rfl) rfl (ei_seq (ed_callC C_inside hr (by omega) (by rfl) (takes_of rfl rfl rfl rfl) (eaa_d (ed_var (pv 1)) eaa_nil) (aD_len aNil_len))) (eg_name (pg_name (i := 2) sc_must_saying.nd rfl (.inl rfl))) (sss_one (ss_expr (ed_callC C_must_saying hr (by omega) (by rfl) (takes_of rfl rfl rfl rfl) (eaa_d (ed_var (pv 0)) (eaa_d (ed_var (pv 2)) eaa_nil)) (aD_len (aD_len aNil_len)))))))))
abbrev s_must_plain : Stmt := topS 24
abbrev N_must_plain : List Str := ["saying"]
theorem sc_must_plain : FnScope N_must_plain ["saying"] (defScope s_must_plain) := ⟨rfl, rfl, rfl, by decide +kernel, rfl, by decide +kernel, by decide +kernel⟩
theorem ok_must_plain (B : Bl mg) {A : Str → Addr} (Xa : XAll P w K mg A) (F : FunC K mg "must_plain" s_must_plain ["saying"]) {F_notes_in : Fd} (C_notes_in : Cal P w K mg base 71 "notes_in" ["saying"] F_notes_in) : Cal P w K mg base (71 + 1) "must_plain" ["saying"] (fnM 1 (m_must_plain A F_notes_in)) :=
  cal_ok F sc_must_plain fun f cdv A outer s H E hr =>
  (sss_one (ss_if (et_cmp (op_hGt (hu64 hr)) (dop_hGt _) (el_of (ed_callC C_notes_in hr (by decide) (by rfl) (takes_of rfl rfl rfl rfl) (eaa_d (ed_var (pv 0)) eaa_nil) (aD_len aNil_len))) (el_of ed_int) rfl) (sss_one (ss_raise rfl (takes_of rfl rfl rfl rfl) (ex_mkC Xa.NoPlain hr (by omega) (by decide) (by rfl) (ea_cons (ed_var (pv 0)) ea_nil) (mCons_lenX mNil_len)))) sss_nil))
abbrev s_must_tie : Stmt := topS 36
abbrev N_must_tie : List Str := ["speech", "tie", "place"]
theorem sc_must_tie : FnScope N_must_tie ["speech", "tie"] (defScope s_must_tie) := ⟨rfl, rfl, rfl, by decide +kernel, rfl, by decide +kernel, by decide +kernel⟩
theorem ok_must_tie (B : Bl mg) (F : FunC K mg "must_tie" s_must_tie ["speech", "tie"]) {F_must_value : Fd} (C_must_value : Cal P w K mg base 4 "must_value" ["speech", "field", "value"] F_must_value) : Cal P w K mg base (4 + 1) "must_tie" ["speech", "tie"] (fnM 3 (m_must_tie F_must_value)) :=
  cal_ok F sc_must_tie fun f cdv A outer s H E hr =>
  (sss_one (ss_for (passes_of rfl) rfl (ei_rng1 (by rfl) B.n_range (ea_cons ed_int ea_nil)) (eg_name (pg_name (i := 2) sc_must_tie.nd rfl (.inl rfl))) (sss_one (ss_expr (ed_callC C_must_value hr (by decide) (by rfl) (takes_of rfl rfl rfl rfl) (eaa_d (ed_var (pv 0)) (eaa_d (ed_ix ix_seq (dop_ix _) (el_of (ed_ix ix_seq (dop_ix _) (el_of (ed_var (pv 0))) (el_of (ed_op op_mod (dop_mod _) (el_of (ed_var (pv 2))) (el_of ed_int))) (fun _ _ => rfl))) (el_of ed_int) (fun _ _ => rfl)) (eaa_d (ed_ix ix_seq (dop_ix _) (el_of (ed_var (pv 1))) (el_of (ed_var (pv 2))) (fun _ _ => rfl)) eaa_nil))) (aD_len (aD_len (aD_len aNil_len))))))))
abbrev s_must_net : Stmt := topS 37
abbrev N_must_net : List Str := ["net", "speech", "rules", "ties", "rule", "tie"]
theorem sc_must_net : FnScope N_must_net ["net"] (defScope s_must_net) := ⟨rfl, rfl, rfl, by decide +kernel, rfl, by decide +kernel, by decide +kernel⟩
theorem ok_must_net (B : Bl mg) {A : Str → Addr} (Xa : XAll P w K mg A) (F : FunC K mg "must_net" s_must_net ["net"]) {F_must_saying : Fd} (C_must_saying : Cal P w K mg base 141 "must_saying" ["speech", "saying"] F_must_saying) {F_must_plain : Fd} (C_must_plain : Cal P w K mg base 72 "must_plain" ["saying"] F_must_plain) {F_must_tie : Fd} (C_must_tie : Cal P w K mg base 5 "must_tie" ["speech", "tie"] F_must_tie) : Cal P w K mg base (141 + 1) "must_net" ["net"] (fnM 6 (m_must_net A F_must_saying F_must_plain F_must_tie)) :=
  cal_ok F sc_must_net fun f cdv A outer s H E hr =>
  (sss_cons (ss_asg (ed_var (pv 0)) (eg_seq rfl (egs_cons (eg_name (pg_name (i := 1) sc_must_net.nd rfl (.inl rfl))) (egs_cons (eg_name (pg_name (i := 2) sc_must_net.nd rfl (.inl rfl))) (egs_cons (eg_name (pg_name (i := 3) sc_must_net.nd rfl (.inl rfl))) egs_nil)))) (gS_nx (gCons_nx (gCons_nx (gCons_nx gNil_nx gN_nx) gN_nx) gN_nx)))
  (sss_cons (ss_if (EW.et (ew_or (et_cmp (op_hLt (hu64 hr)) (dop_hLt _) (el_of (ed_callB call_len_seq dcl_len (by rfl) B.n_len PySem.boot_len (eal_cons (el_of (ed_var (pv 1))) eal_nil))) (el_of ed_int) rfl) (ew_or1 (et_cmp (op_hNe hr) (dop_hNe _) (el_of (ed_callB call_len_seq dcl_len (by rfl) B.n_len PySem.boot_len (eal_cons (el_of (ed_var (pv 2))) eal_nil))) (el_of (ed_ix ix_seq (dop_ix _) (el_of (ed_ix ix_seq (dop_ix _) (el_of (ed_var (pv 1))) (el_of ed_int) (fun _ _ => rfl))) (el_of ed_int) (fun _ _ => rfl))) rfl)))) (sss_one (ss_raise rfl (takes_of rfl rfl rfl rfl) (ex_ownC Xa.NoNet (by rfl)))) sss_nil)
  (sss_cons (ss_for (passes_of rfl) rfl (ei_seq (ed_var (pv 2))) (eg_name (pg_name (i := 4) sc_must_net.nd rfl (.inl rfl))) (sss_cons (ss_expr (ed_callC C_must_saying hr (by decide) (by rfl) (takes_of rfl rfl rfl rfl) (eaa_d (ed_var (pv 1)) (eaa_d (ed_var (pv 4)) eaa_nil)) (aD_len (aD_len aNil_len))))
  (sss_one (ss_expr (ed_callC C_must_plain hr (by decide) (by rfl) (takes_of rfl rfl rfl rfl) (eaa_d (ed_var (pv 4)) eaa_nil) (aD_len aNil_len))))))
  (sss_one (ss_for (passes_of rfl) rfl (ei_seq (ed_var (pv 3))) (eg_name (pg_name (i := 5) sc_must_net.nd rfl (.inl rfl))) (sss_one (ss_expr (ed_callC C_must_tie hr (by decide) (by rfl) (takes_of rfl rfl rfl rfl) (eaa_d (ed_var (pv 1)) (eaa_d (ed_var (pv 5)) eaa_nil)) (aD_len (aD_len aNil_len))))))))))
abbrev s_saying_of : Stmt := topS 42
abbrev N_saying_of : List Str := ["net"]
theorem sc_saying_of : FnScope N_saying_of ["net"] (defScope s_saying_of) := ⟨rfl, rfl, rfl, by decide +kernel, rfl, by decide +kernel, by decide +kernel⟩
theorem ok_saying_of (B : Bl mg) (F : FunC K mg "saying_of" s_saying_of ["net"]) {F_must_net : Fd} (C_must_net : Cal P w K mg base 142 "must_net" ["net"] F_must_net) : Cal P w K mg base (142 + 1) "saying_of" ["net"] (fnM 1 (m_saying_of F_must_net)) :=
  cal_ok F sc_saying_of fun f cdv A outer s H E hr =>
  (sss_cons (ss_expr (ed_callC C_must_net hr (by decide) (by rfl) (takes_of rfl rfl rfl rfl) (eaa_d (ed_var (pv 0)) eaa_nil) (aD_len aNil_len)))
  sss_stk)
abbrev s_hops : Stmt := topS 43
abbrev N_hops : List Str := ["net", "letter", "count"]
theorem sc_hops : FnScope N_hops ["net", "letter", "count"] (defScope s_hops) := ⟨rfl, rfl, rfl, by decide +kernel, rfl, by decide +kernel, by decide +kernel⟩
theorem ok_hops (B : Bl mg) (F : FunC K mg "hops" s_hops ["net", "letter", "count"]) {F_must_net : Fd} (C_must_net : Cal P w K mg base 142 "must_net" ["net"] F_must_net) : Cal P w K mg base (142 + 1) "hops" ["net", "letter", "count"] (fnM 3 (m_hops F_must_net)) :=
  cal_ok F sc_hops fun f cdv A outer s H E hr =>
  (sss_cons (ss_expr (ed_callC C_must_net hr (by decide) (by rfl) (takes_of rfl rfl rfl rfl) (eaa_d (ed_var (pv 0)) eaa_nil) (aD_len aNil_len)))
  sss_stk)
abbrev s_tables_of : Stmt := topS 44
abbrev N_tables_of : List Str := ["net", "rule"]
theorem sc_tables_of : FnScope N_tables_of ["net"] (defScope s_tables_of) := ⟨rfl, rfl, rfl, by decide +kernel, rfl, by decide +kernel, by decide +kernel⟩
theorem ok_tables_of (B : Bl mg) (F : FunC K mg "tables_of" s_tables_of ["net"]) {F_must_net : Fd} (C_must_net : Cal P w K mg base 142 "must_net" ["net"] F_must_net) : Cal P w K mg base (142 + 1) "tables_of" ["net"] (fnM 2 (m_tables_of F_must_net)) :=
  cal_ok F sc_tables_of fun f cdv A outer s H E hr =>
  (sss_cons (ss_expr (ed_callC C_must_net hr (by decide) (by rfl) (takes_of rfl rfl rfl rfl) (eaa_d (ed_var (pv 0)) eaa_nil) (aD_len aNil_len)))
  sss_stk)
abbrev s_law_cell : Stmt := topS 46
abbrev N_law_cell : List Str := ["_law_script", "_law_k"]
theorem sc_law_cell : FnScope N_law_cell ["_law_script", "_law_k"] (defScope s_law_cell) := ⟨rfl, rfl, rfl, by decide +kernel, rfl, by decide +kernel, by decide +kernel⟩
theorem ok_law_cell (B : Bl mg) (F : FunC K mg "_law_cell" s_law_cell ["_law_script", "_law_k"]) : Cal P w K mg base (0 + 1) "_law_cell" ["_law_script", "_law_k"] (fnM 2 (m_law_cell )) :=
  cal_ok F sc_law_cell fun f cdv A outer s H E hr =>
  (sss_cons (ss_if (et_cmp (op_hLt (hu64 hr)) (dop_hLt _) (el_of (ed_var (pv 1))) (el_of (ed_callB call_len_seq dcl_len (by rfl) B.n_len PySem.boot_len (eal_cons (el_of (ed_var (pv 0))) eal_nil))) rfl) (sss_one (ss_ret (ed_ix ix_seq (dop_ix _) (el_of (ed_var (pv 0))) (el_of (ed_var (pv 1))) (fun _ _ => rfl)))) sss_nil)
  (sss_one (ss_ret ed_int)))
abbrev s_law_purse : Stmt := topS 47
abbrev N_law_purse : List Str := ["_law_cell_here", "_law_number", "_law_found", "_law_k"]
theorem sc_law_purse : FnScope N_law_purse ["_law_cell_here"] (defScope s_law_purse) := ⟨rfl, rfl, rfl, by decide +kernel, rfl, by decide +kernel, by decide +kernel⟩
theorem ok_law_purse (B : Bl mg) (F : FunC K mg "_law_purse" s_law_purse ["_law_cell_here"]) : Cal P w K mg base (0 + 1) "_law_purse" ["_law_cell_here"] (fnM 4 (m_law_purse )) :=
  cal_ok F sc_law_purse fun f cdv A outer s H E hr =>
  (sss_cons (ss_set (i := 1) sc_law_purse.nd rfl (.inl rfl) (ed_op op_mod (dop_mod _) (el_of (ed_var (pv 0))) (el_of ed_int)))
  (sss_cons (ss_set (i := 2) sc_law_purse.nd rfl (.inl rfl) ed_int)
  (sss_cons (ss_for (passes_of rfl) rfl (ei_rng1 (by rfl) B.n_range (ea_cons ed_int ea_nil)) (eg_name (pg_name (i := 3) sc_law_purse.nd rfl (.inl rfl))) (sss_cons (ss_set (i := 1) sc_law_purse.nd rfl (.inl rfl) (ed_op op_mod (dop_mod _) (el_of (ed_op opr_add (dop_add _) (el_of (ed_op opr_add (dop_add _) (el_of (ed_op opr_add (dop_add _) (el_of (ed_op op_mul (dop_mul _) (el_of (ed_var (pv 1))) (el_of (ed_var (pv 1))))) (el_of (ed_op op_mul (dop_mul _) (el_of (ed_op op_mul (dop_mul _) (el_of ed_int) (el_of (ed_var (pv 3))))) (el_of (ed_var (pv 3))))))) (el_of (ed_var (pv 3))))) (el_of ed_int))) (el_of ed_int)))
  (sss_one (ss_set (i := 2) sc_law_purse.nd rfl (.inl rfl) (ed_op opr_add (dop_add _) (el_of (ed_op op_mul (dop_mul _) (el_of (ed_var (pv 2))) (el_of ed_int))) (el_of (ed_op op_mod (dop_mod _) (el_of (ed_op op_mul (dop_mul _) (el_of (ed_var (pv 1))) (el_of (ed_var (pv 1))))) (el_of ed_int))))))))
  (sss_cons (ss_if (et_cmp (op_hEq hr) (dop_hEq _) (el_of (ed_op op_mod (dop_mod _) (el_of (ed_var (pv 0))) (el_of ed_int))) (el_of ed_int) rfl) (sss_one (ss_retO (eo_lst (ea_cons (ed_op op_fdiv (dop_div _) (el_of (ed_callB call_abs dcl_abs (by rfl) B.n_abs (by decide +kernel) (eal_cons (el_of (ed_var (pv 0))) eal_nil))) (el_of ed_int)) (ea_cons (ed_var (pv 2)) ea_nil))))) sss_nil)
  (sss_one (ss_retO (eo_lst (ea_cons ed_int (ea_cons (ed_var (pv 2)) ea_nil)))))))))
abbrev s_law_take : Stmt := topS 48
abbrev N_law_take : List Str := ["_law_purse_here", "_law_many", "_law_at", "_law_found"]
theorem sc_law_take : FnScope N_law_take ["_law_purse_here", "_law_many"] (defScope s_law_take) := ⟨rfl, rfl, rfl, by decide +kernel, rfl, by decide +kernel, by decide +kernel⟩
theorem ok_law_take (B : Bl mg) (F : FunC K mg "_law_take" s_law_take ["_law_purse_here", "_law_many"]) : Cal P w K mg base (0 + 1) "_law_take" ["_law_purse_here", "_law_many"] (fnM 4 (m_law_take )) :=
  cal_ok F sc_law_take fun f cdv A outer s H E hr =>
  (sss_cons (ss_set (i := 2) sc_law_take.nd rfl (.inl rfl) (ed_callTy call_int1 dcl_int (by rfl) B.n_int (by decide +kernel) (eal_cons (el_of (ed_cmp (op_hEq hr) (dop_hEq _) (el_of (ed_ix ix_seq (dop_ix _) (el_name (pv 0)) (el_of ed_int) (fun _ _ => rfl))) (el_of ed_int) rfl)) eal_nil)))
  (sss_cons (ss_set (i := 3) sc_law_take.nd rfl (.inl rfl) (ed_op op_mod (dop_mod _) (el_of (ed_ix ix_seq (dop_ix _) (el_name (pv 0)) (el_of (ed_var (pv 2))) (fun _ _ => rfl))) (el_of (ed_var (pv 1)))))
  (sss_cons (ss_put (pv 0) (ed_op op_fdiv (dop_div _) (el_of (ed_ix ix_seq (dop_ix _) (el_name (pv 0)) (el_of (ed_var (pv 2))) (fun _ _ => rfl))) (el_of (ed_var (pv 1)))) (ed_var (pv 2)))
  (sss_one (ss_ret (ed_var (pv 3)))))))
abbrev s_law_speech : Stmt := topS 49
abbrev N_law_speech : List Str := ["_law_cell_here", "_law_least", "_law_purse_here", "_law_first", "_law_letters", "_law_left", "_law_many", "_law_tail", "_law_speech_here", "_law_k", "_law_count"]
theorem sc_law_speech : FnScope N_law_speech ["_law_cell_here", "_law_least"] (defScope s_law_speech) := ⟨rfl, rfl, rfl, by decide +kernel, rfl, by decide +kernel, by decide +kernel⟩
theorem ok_law_speech (B : Bl mg) (F : FunC K mg "_law_speech" s_law_speech ["_law_cell_here", "_law_least"]) {F_law_purse : Fd} (C_law_purse : Cal P w K mg base 1 "_law_purse" ["_law_cell_here"] F_law_purse) {F_law_take : Fd} (C_law_take : Cal P w K mg base 1 "_law_take" ["_law_purse_here", "_law_many"] F_law_take) : Cal P w K mg base (1 + 1) "_law_speech" ["_law_cell_here", "_law_least"] (fnM 11 (m_law_speech F_law_purse F_law_take)) :=
  cal_ok F sc_law_speech fun f cdv A outer s H E hr =>
  (sss_cons (ss_setO (i := 2) sc_law_speech.nd rfl (.inl rfl) (eo_callC C_law_purse hr (by decide) (by rfl) (takes_of rfl rfl rfl rfl) (eaa_d (ed_var (pv 0)) eaa_nil) (aD_len aNil_len)))
  (sss_cons (ss_set (i := 3) sc_law_speech.nd rfl (.inl rfl) (ed_callC C_law_take hr (by decide) (by rfl) (takes_of rfl rfl rfl rfl) (eaa_l (pv 2) (eaa_d ed_int eaa_nil)) (aL_len (aD_len aNil_len))))
  (sss_cons (ss_set (i := 4) sc_law_speech.nd rfl (.inl rfl) ed_str)
  (sss_cons (ss_set (i := 5) sc_law_speech.nd rfl (.inl rfl) (ed_ix ix_seq (dop_ix _) (el_of (ed_fz (eo_lst (ea_cons ed_int (ea_cons ed_int (ea_cons ed_int (ea_cons ed_int (ea_cons ed_int (ea_cons ed_int (ea_cons ed_int (ea_cons ed_int ea_nil))))))))))) (el_of (ed_callC C_law_take hr (by decide) (by rfl) (takes_of rfl rfl rfl rfl) (eaa_l (pv 2) (eaa_d ed_int eaa_nil)) (aL_len (aD_len aNil_len)))) (fun _ _ => rfl)))
  (sss_cons (ss_set (i := 6) sc_law_speech.nd rfl (.inl rfl) (ed_callB (call_max2 rfl) dcl_max (by rfl) B.n_max (by decide +kernel) (eal_cons (el_of (ed_var (pv 1))) (eal_cons (el_of (ed_op opr_add (dop_add _) (el_of ed_int) (el_of (ed_callC C_law_take hr (by decide) (by rfl) (takes_of rfl rfl rfl rfl) (eaa_l (pv 2) (eaa_d ed_int eaa_nil)) (aL_len (aD_len aNil_len)))))) eal_nil))))
  (sss_cons (ss_set (i := 7) sc_law_speech.nd rfl (.inl rfl) (ed_sl sl_any (dsl_any _) (el_of ed_str) ep_none (ep_some (ed_callC C_law_take hr (by decide) (by rfl) (takes_of rfl rfl rfl rfl) (eaa_l (pv 2) (eaa_d ed_int eaa_nil)) (aL_len (aD_len aNil_len))))))
  (sss_cons (ss_setO (i := 8) sc_law_speech.nd rfl (.inl rfl) (eo_lst ea_nil))
  (sss_cons (ss_for (passes_of rfl) rfl (ei_rng1 (by rfl) B.n_range (ea_cons (ed_var (pv 6)) ea_nil)) (eg_name (pg_name (i := 9) sc_law_speech.nd rfl (.inl rfl))) (sss_cons (ss_set (i := 10) sc_law_speech.nd rfl (.inl rfl) (ed_callB (call_min2 rfl) dcl_min (by rfl) B.n_min (by decide +kernel) (eal_cons (el_of (ed_ix ix_seq (dop_ix _) (el_of (ed_fz (eo_lst (ea_cons ed_int (ea_cons ed_int (ea_cons ed_int (ea_cons ed_int (ea_cons ed_int (ea_cons ed_int ea_nil))))))))) (el_of (ed_callC C_law_take hr (by decide) (by rfl) (takes_of rfl rfl rfl rfl) (eaa_l (pv 2) (eaa_d ed_int eaa_nil)) (aL_len (aD_len aNil_len)))) (fun _ _ => rfl))) (eal_cons (el_of (ed_var (pv 5))) eal_nil))))
  (sss_cons (ss_set (i := 5) sc_law_speech.nd rfl (.inl rfl) (ed_op op_fdiv (dop_div _) (el_of (ed_var (pv 5))) (el_of (ed_var (pv 10)))))
  (sss_one (ss_expr (ed_app (pv 8) (ed_tup (ea_cons (ed_op opr_add (dop_add _) (el_of (ed_ix ix_seq (dop_ix _) (el_of (ed_var (pv 4))) (el_of (ed_op op_mod (dop_mod _) (el_of (ed_op opr_add (dop_add _) (el_of (ed_var (pv 3))) (el_of (ed_op op_mul (dop_mul _) (el_of ed_int) (el_of (ed_var (pv 9))))))) (el_of ed_int))) (fun _ _ => rfl))) (el_of (ed_var (pv 7)))) (ea_cons (ed_var (pv 10)) ea_nil)))))))))
  (sss_one (ss_ret (ed_callTy call_tuple_of dcl_tuple (by rfl) B.n_tuple (by decide +kernel) (eal_cons (el_name (pv 8)) eal_nil))))))))))))
abbrev s_law_lone : Stmt := topS 50
abbrev N_law_lone : List Str := ["_law_sort", "_law_purse_here", "_law_speech_here", "_law_field", "_law_count"]
theorem sc_law_lone : FnScope N_law_lone ["_law_sort", "_law_purse_here", "_law_speech_here"] (defScope s_law_lone) := ⟨rfl, rfl, rfl, by decide +kernel, rfl, by decide +kernel, by decide +kernel⟩
theorem ok_law_lone (B : Bl mg) (F : FunC K mg "_law_lone" s_law_lone ["_law_sort", "_law_purse_here", "_law_speech_here"]) {F_law_take : Fd} (C_law_take : Cal P w K mg base 1 "_law_take" ["_law_purse_here", "_law_many"] F_law_take) : Cal P w K mg base (1 + 1) "_law_lone" ["_law_sort", "_law_purse_here", "_law_speech_here"] (fnM 5 (m_law_lone F_law_take)) :=
  cal_ok F sc_law_lone fun f cdv A outer s H E hr =>
  (sss_cons (ss_asg (ed_ix ix_seq (dop_ix _) (el_of (ed_var (pv 2))) (el_of (ed_callC C_law_take hr (by decide) (by rfl) (takes_of rfl rfl rfl rfl) (eaa_l (pv 1) (eaa_d (ed_callB call_len_seq dcl_len (by rfl) B.n_len PySem.boot_len (eal_cons (el_of (ed_var (pv 2))) eal_nil)) eaa_nil)) (aL_len (aD_len aNil_len)))) (fun _ _ => rfl)) (eg_seq rfl (egs_cons (eg_name (pg_name (i := 3) sc_law_lone.nd rfl (.inl rfl))) (egs_cons (eg_name (pg_name (i := 4) sc_law_lone.nd rfl (.inl rfl))) egs_nil))) (gS_nx (gCons_nx (gCons_nx gNil_nx gN_nx) gN_nx)))
  (sss_one (ss_ret (ed_ix ix_seq (dop_ix _) (el_of (ed_fz (eo_lst (ea_cons (ed_tup (ea_cons ed_str (ea_cons (ed_var (pv 3)) (ea_cons (ed_callC C_law_take hr (by decide) (by rfl) (takes_of rfl rfl rfl rfl) (eaa_l (pv 1) (eaa_d (ed_var (pv 4)) eaa_nil)) (aL_len (aD_len aNil_len))) ea_nil)))) (ea_cons (ed_tup (ea_cons ed_str (ea_cons (ed_var (pv 3)) (ea_cons (ed_callC C_law_take hr (by decide) (by rfl) (takes_of rfl rfl rfl rfl) (eaa_l (pv 1) (eaa_d (ed_var (pv 4)) eaa_nil)) (aL_len (aD_len aNil_len))) ea_nil)))) (ea_cons (ed_tup (ea_cons ed_str ea_nil)) (ea_cons (ed_tup (ea_cons ed_str ea_nil)) ea_nil))))))) (el_of (ed_var (pv 0))) (fun _ _ => rfl)))))
abbrev s_law_grown : Stmt := topS 51
abbrev N_law_grown : List Str := ["_law_row", "_law_cell_here", "_law_speech_here", "_law_most", "_law_purse_here", "_law_sort", "_law_last", "_law_one"]
theorem sc_law_grown : FnScope N_law_grown ["_law_row", "_law_cell_here", "_law_speech_here", "_law_most"] (defScope s_law_grown) := ⟨rfl, rfl, rfl, by decide +kernel, rfl, by decide +kernel, by decide +kernel⟩
theorem ok_law_grown (B : Bl mg) (F : FunC K mg "_law_grown" s_law_grown ["_law_row", "_law_cell_here", "_law_speech_here", "_law_most"]) {F_law_purse : Fd} (C_law_purse : Cal P w K mg base 1 "_law_purse" ["_law_cell_here"] F_law_purse) {F_law_take : Fd} (C_law_take : Cal P w K mg base 1 "_law_take" ["_law_purse_here", "_law_many"] F_law_take) {F_law_joined : Fd} (C_law_joined : Cal P w K mg base 1 "_law_joined" ["_law_row", "_law_word"] F_law_joined) {F_law_lone : Fd} (C_law_lone : Cal P w K mg base 2 "_law_lone" ["_law_sort", "_law_purse_here", "_law_speech_here"] F_law_lone) : Cal P w K mg base (2 + 1) "_law_grown" ["_law_row", "_law_cell_here", "_law_speech_here", "_law_most"] (fnM 8 (m_law_grown F_law_purse F_law_take F_law_joined F_law_lone)) :=
  cal_ok F sc_law_grown fun f cdv A outer s H E hr =>
  (sss_cons (ss_setO (i := 4) sc_law_grown.nd rfl (.inl rfl) (eo_callC C_law_purse hr (by decide) (by rfl) (takes_of rfl rfl rfl rfl) (eaa_d (ed_var (pv 1)) eaa_nil) (aD_len aNil_len)))
  (sss_cons (ss_set (i := 5) sc_law_grown.nd rfl (.inl rfl) (ed_callC C_law_take hr (by decide) (by rfl) (takes_of rfl rfl rfl rfl) (eaa_l (pv 4) (eaa_d ed_int eaa_nil)) (aL_len (aD_len aNil_len))))
  (sss_cons (ss_set (i := 6) sc_law_grown.nd rfl (.inl rfl) (ed_ix ix_seq (dop_ix _) (el_of (ed_var (pv 0))) (el_of (ed_neg ed_int)) (fun _ _ => rfl)))
  (sss_cons (ss_if (EW.et (ew_and (et_cmp (op_hEq hr) (dop_hEq _) (el_of (ed_var (pv 5))) (el_of ed_int) rfl) (ew_and1 (et_cmp (op_hLt (hu64 hr)) (dop_hLt _) (el_of (ed_callB (cr_sum rfl) dcl_sum (by rfl) B.n_sum (by decide +kernel) (eal_cons (el_of (ed_fz (eo_lc (own := [("_law_one", 7)]) rfl sc_law_grown.nd (ei_seq (ed_var (pv 0))) (blkOk_by (N := N_law_grown) (sc := defScope s_law_grown) (by decide +kernel)) (fun _ _ _ _ _ => (eg_name (pg_name (i := 7) sc_law_grown.nd rfl (.inl rfl)))) (fun _ _ _ _ _ => eps_nil) (fun _ _ _ _ _ => (ed_ix ix_seq (dop_ix _) (el_of (ed_var (pv 7))) (el_of ed_int) (fun _ _ => rfl))) (by decide)))) eal_nil))) (el_of (ed_var (pv 3))) rfl)))) (sss_one (ss_ret (ed_op opr_add (dop_add _) (el_of (ed_var (pv 0))) (el_of (ed_fz (eo_lst (ea_cons (ed_fz (eo_lst (ea_cons (ed_tup (ea_cons ed_str ea_nil)) (ea_cons ed_bl (ea_cons ed_int (ea_cons ed_int ea_nil)))))) ea_nil))))))) sss_nil)
  (sss_cons (ss_if (EW.et (ew_and (et_cmp (op_hEq hr) (dop_hEq _) (el_of (ed_var (pv 5))) (el_of ed_int) rfl) (ew_and1 (et_val (ed_ix ix_seq (dop_ix _) (el_of (ed_var (pv 6))) (el_of ed_int) (fun _ _ => rfl)))))) (sss_one (ss_ret (ed_op opr_add (dop_add _) (el_of (ed_sl sl_any (dsl_any _) (el_of (ed_var (pv 0))) ep_none (ep_some (ed_neg ed_int)))) (el_of (ed_fz (eo_lst (ea_cons (ed_fz (eo_lst (ea_cons (ed_tup (ea_cons ed_str (ea_cons (ed_ix ix_seq (dop_ix _) (el_of (ed_var (pv 6))) (el_of ed_int) (fun _ _ => rfl)) ea_nil))) (ea_cons ed_bl (ea_cons ed_int (ea_cons ed_int ea_nil)))))) ea_nil))))))) sss_nil)
  (sss_cons (ss_if (EW.et (ew_and (et_cmp (op_hEq hr) (dop_hEq _) (el_of (ed_var (pv 5))) (el_of ed_int) rfl) (ew_and1 (et_cmp (op_hLt (hu64 hr)) (dop_hLt _) (el_of (ed_ix ix_seq (dop_ix _) (el_of (ed_var (pv 6))) (el_of ed_int) (fun _ _ => rfl))) (el_of ed_int) rfl)))) (sss_one (ss_ret (ed_op opr_add (dop_add _) (el_of (ed_sl sl_any (dsl_any _) (el_of (ed_var (pv 0))) ep_none (ep_some (ed_neg ed_int)))) (el_of (ed_fz (eo_lst (ea_cons (ed_fz (eo_lst (ea_cons (ed_tup (ea_cons ed_str (ea_cons (ed_ix ix_seq (dop_ix _) (el_of (ed_var (pv 6))) (el_of ed_int) (fun _ _ => rfl)) ea_nil))) (ea_cons ed_bl (ea_cons (ed_ix ix_seq (dop_ix _) (el_of (ed_var (pv 6))) (el_of ed_int) (fun _ _ => rfl)) (ea_cons (ed_op opr_add (dop_add _) (el_of (ed_ix ix_seq (dop_ix _) (el_of (ed_var (pv 6))) (el_of ed_int) (fun _ _ => rfl))) (el_of ed_int)) ea_nil)))))) ea_nil))))))) sss_nil)
  (sss_cons (ss_if (EW.et (ew_and (et_cmp (op_hGt (hu64 hr)) (dop_hGt _) (el_of (ed_var (pv 5))) (el_of ed_int) rfl) (ew_and (et_cmp (op_hLt (hu64 hr)) (dop_hLt _) (el_of (ed_var (pv 5))) (el_of ed_int) rfl) (ew_and1 (et_cmp (op_hGt (hu64 hr)) (dop_hGt _) (el_of (ed_callB call_len_seq dcl_len (by rfl) B.n_len PySem.boot_len (eal_cons (el_of (ed_var (pv 0))) eal_nil))) (el_of ed_int) rfl))))) (sss_one (ss_ret (ed_callC C_law_joined hr (by decide) (by rfl) (takes_of rfl rfl rfl rfl) (eaa_d (ed_var (pv 0)) (eaa_d (ed_ix ix_seq (dop_ix _) (el_of (ed_fz (eo_lst (ea_cons ed_str (ea_cons ed_str ea_nil))))) (el_of (ed_op op_mod (dop_mod _) (el_of (ed_var (pv 5))) (el_of ed_int))) (fun _ _ => rfl)) eaa_nil)) (aD_len (aD_len aNil_len))))) sss_nil)
  (sss_cons (ss_set (i := 5) sc_law_grown.nd rfl (.inl rfl) (ed_ix ix_seq (dop_ix _) (el_of (ed_fz (eo_lst (ea_cons ed_int (ea_cons ed_int (ea_cons ed_int (ea_cons ed_int (ea_cons ed_int (ea_cons ed_int (ea_cons ed_int (ea_cons ed_int (ea_cons ed_int (ea_cons ed_int (ea_cons ed_int (ea_cons ed_int (ea_cons ed_int (ea_cons ed_int ea_nil))))))))))))))))) (el_of (ed_var (pv 5))) (fun _ _ => rfl)))
  (sss_one (ss_ret (ed_op opr_add (dop_add _) (el_of (ed_var (pv 0))) (el_of (ed_fz (eo_lst (ea_cons (ed_fz (eo_lst (ea_cons (ed_callC C_law_lone hr (by decide) (by rfl) (takes_of rfl rfl rfl rfl) (eaa_d (ed_var (pv 5)) (eaa_l (pv 4) (eaa_d (ed_var (pv 2)) eaa_nil))) (aD_len (aL_len (aD_len aNil_len)))) (ea_cons (ed_cmp (op_hNe hr) (dop_hNe _) (el_of (ed_var (pv 5))) (el_of ed_int) rfl) (ea_cons ed_int (ea_cons ed_int ea_nil)))))) ea_nil)))))))))))))))
abbrev s_law_joined : Stmt := topS 52
abbrev N_law_joined : List Str := ["_law_row", "_law_word", "_law_one", "_law_other", "_law_made"]
theorem sc_law_joined : FnScope N_law_joined ["_law_row", "_law_word"] (defScope s_law_joined) := ⟨rfl, rfl, rfl, by decide +kernel, rfl, by decide +kernel, by decide +kernel⟩
theorem ok_law_joined (B : Bl mg) (F : FunC K mg "_law_joined" s_law_joined ["_law_row", "_law_word"]) : Cal P w K mg base (0 + 1) "_law_joined" ["_law_row", "_law_word"] (fnM 5 (m_law_joined )) :=
  cal_ok F sc_law_joined fun f cdv A outer s H E hr =>
  (sss_cons (ss_asg (ed_sl sl_any (dsl_any _) (el_of (ed_var (pv 0))) (ep_some (ed_neg ed_int)) ep_none) (eg_seq rfl (egs_cons (eg_name (pg_name (i := 2) sc_law_joined.nd rfl (.inl rfl))) (egs_cons (eg_name (pg_name (i := 3) sc_law_joined.nd rfl (.inl rfl))) egs_nil))) (gS_nx (gCons_nx (gCons_nx gNil_nx gN_nx) gN_nx)))
  (sss_cons (ss_set (i := 4) sc_law_joined.nd rfl (.inl rfl) (ed_tup (ea_cons (ed_var (pv 1)) (ea_cons (ed_ix ix_seq (dop_ix _) (el_of (ed_var (pv 2))) (el_of ed_int) (fun _ _ => rfl)) (ea_cons (ed_ix ix_seq (dop_ix _) (el_of (ed_var (pv 3))) (el_of ed_int) (fun _ _ => rfl)) ea_nil)))))
  (sss_one (ss_ret (ed_op opr_add (dop_add _) (el_of (ed_sl sl_any (dsl_any _) (el_of (ed_var (pv 0))) ep_none (ep_some (ed_neg ed_int)))) (el_of (ed_fz (eo_lst (ea_cons (ed_fz (eo_lst (ea_cons (ed_var (pv 4)) (ea_cons (ed_and (ed_ix ix_seq (dop_ix _) (el_of (ed_var (pv 2))) (el_of ed_int) (fun _ _ => rfl)) (ed_one (ed_ix ix_seq (dop_ix _) (el_of (ed_var (pv 3))) (el_of ed_int) (fun _ _ => rfl)))) (ea_cons (ed_op opr_add (dop_add _) (el_of (ed_ix ix_seq (dop_ix _) (el_of (ed_var (pv 2))) (el_of ed_int) (fun _ _ => rfl))) (el_of (ed_ix ix_seq (dop_ix _) (el_of (ed_var (pv 3))) (el_of ed_int) (fun _ _ => rfl)))) (ea_cons (ed_callB (call_max2 rfl) dcl_max (by rfl) B.n_max (by decide +kernel) (eal_cons (el_of (ed_ix ix_seq (dop_ix _) (el_of (ed_var (pv 2))) (el_of ed_int) (fun _ _ => rfl))) (eal_cons (el_of (ed_ix ix_seq (dop_ix _) (el_of (ed_var (pv 3))) (el_of ed_int) (fun _ _ => rfl))) eal_nil))) ea_nil)))))) ea_nil)))))))))
abbrev s_law_saying : Stmt := topS 53
abbrev N_law_saying : List Str := ["_law_cells", "_law_speech_here", "_law_most", "_law_row", "_law_cell_here"]
theorem sc_law_saying : FnScope N_law_saying ["_law_cells", "_law_speech_here", "_law_most"] (defScope s_law_saying) := ⟨rfl, rfl, rfl, by decide +kernel, rfl, by decide +kernel, by decide +kernel⟩
theorem ok_law_saying (B : Bl mg) (F : FunC K mg "_law_saying" s_law_saying ["_law_cells", "_law_speech_here", "_law_most"]) {F_law_grown : Fd} (C_law_grown : Cal P w K mg base 3 "_law_grown" ["_law_row", "_law_cell_here", "_law_speech_here", "_law_most"] F_law_grown) {F_law_joined : Fd} (C_law_joined : Cal P w K mg base 1 "_law_joined" ["_law_row", "_law_word"] F_law_joined) (FUEL : Nat) : Cal P w K mg base (3 + 1) "_law_saying" ["_law_cells", "_law_speech_here", "_law_most"] (fnM 5 (m_law_saying F_law_grown F_law_joined FUEL)) :=
  cal_ok F sc_law_saying fun f cdv A outer s H E hr =>
  (sss_cons (ss_set (i := 3) sc_law_saying.nd rfl (.inl rfl) (ed_fz (eo_lst (ea_cons (ed_fz (eo_lst (ea_cons (ed_tup (ea_cons ed_str ea_nil)) (ea_cons ed_bl (ea_cons ed_int (ea_cons ed_int ea_nil)))))) ea_nil))))
  (sss_cons (ss_for (passes_of rfl) rfl (ei_seq (ed_var (pv 0))) (eg_name (pg_name (i := 4) sc_law_saying.nd rfl (.inl rfl))) (sss_one (ss_set (i := 3) sc_law_saying.nd rfl (.inl rfl) (ed_callC C_law_grown hr (by decide) (by rfl) (takes_of rfl rfl rfl rfl) (eaa_d (ed_var (pv 3)) (eaa_d (ed_var (pv 4)) (eaa_d (ed_var (pv 1)) (eaa_d (ed_var (pv 2)) eaa_nil)))) (aD_len (aD_len (aD_len (aD_len aNil_len))))))))
  (sss_cons (ss_while FUEL (passes_of rfl) (et_cmp (op_hGt (hu64 hr)) (dop_hGt _) (el_of (ed_callB call_len_seq dcl_len (by rfl) B.n_len PySem.boot_len (eal_cons (el_of (ed_var (pv 3))) eal_nil))) (el_of ed_int) rfl) (sss_one (ss_set (i := 3) sc_law_saying.nd rfl (.inl rfl) (ed_callC C_law_joined hr (by decide) (by rfl) (takes_of rfl rfl rfl rfl) (eaa_d (ed_var (pv 3)) (eaa_d (ed_ix ix_seq (dop_ix _) (el_of (ed_fz (eo_lst (ea_cons ed_str (ea_cons ed_str ea_nil))))) (el_of (ed_op op_mod (dop_mod _) (el_of (ed_op op_mod (dop_mod _) (el_of (ed_callB call_len_seq dcl_len (by rfl) B.n_len PySem.boot_len (eal_cons (el_of (ed_var (pv 3))) eal_nil))) (el_of ed_int))) (el_of ed_int))) (fun _ _ => rfl)) eaa_nil)) (aD_len (aD_len aNil_len))))))
  (sss_one (ss_ret (ed_ix ix_seq (dop_ix _) (el_of (ed_ix ix_seq (dop_ix _) (el_of (ed_var (pv 3))) (el_of ed_int) (fun _ _ => rfl))) (el_of ed_int) (fun _ _ => rfl)))))))
abbrev s_law_net : Stmt := topS 54
abbrev N_law_net : List Str := ["_law_script", "_law_at", "_law_speech_here", "_law_many", "_law_rules", "_law_k", "_law_ties", "_law_purse_here", "_law_place"]
theorem sc_law_net : FnScope N_law_net ["_law_script", "_law_at"] (defScope s_law_net) := ⟨rfl, rfl, rfl, by decide +kernel, rfl, by decide +kernel, by decide +kernel⟩
theorem ok_law_net (B : Bl mg) (F : FunC K mg "_law_net" s_law_net ["_law_script", "_law_at"]) {F_law_speech : Fd} (C_law_speech : Cal P w K mg base 2 "_law_speech" ["_law_cell_here", "_law_least"] F_law_speech) {F_law_cell : Fd} (C_law_cell : Cal P w K mg base 1 "_law_cell" ["_law_script", "_law_k"] F_law_cell) {F_law_saying : Fd} (C_law_saying : Cal P w K mg base 4 "_law_saying" ["_law_cells", "_law_speech_here", "_law_most"] F_law_saying) {F_law_purse : Fd} (C_law_purse : Cal P w K mg base 1 "_law_purse" ["_law_cell_here"] F_law_purse) {F_law_take : Fd} (C_law_take : Cal P w K mg base 1 "_law_take" ["_law_purse_here", "_law_many"] F_law_take) : Cal P w K mg base (4 + 1) "_law_net" ["_law_script", "_law_at"] (fnM 9 (m_law_net F_law_speech F_law_cell F_law_saying F_law_purse F_law_take)) :=
  cal_ok F sc_law_net fun f cdv A outer s H E hr =>
  (sss_cons (ss_set (i := 2) sc_law_net.nd rfl (.inr rfl) (ed_callC C_law_speech hr (by decide) (by rfl) (takes_of rfl rfl rfl rfl) (eaa_d (ed_callC C_law_cell hr (by decide) (by rfl) (takes_of rfl rfl rfl rfl) (eaa_d (ed_var (pv 0)) (eaa_d (ed_var (pv 1)) eaa_nil)) (aD_len (aD_len aNil_len))) (eaa_d ed_int eaa_nil)) (aD_len (aD_len aNil_len))))
  (sss_cons (ss_set (i := 3) sc_law_net.nd rfl (.inl rfl) (ed_ix ix_seq (dop_ix _) (el_of (ed_ix ix_seq (dop_ix _) (el_of (ed_var (pv 2))) (el_of ed_int) (fun _ _ => rfl))) (el_of ed_int) (fun _ _ => rfl)))
  (sss_cons (ss_setO (i := 4) sc_law_net.nd rfl (.inl rfl) (eo_lst ea_nil))
  (sss_cons (ss_for (passes_of rfl) rfl (ei_rng1 (by rfl) B.n_range (ea_cons (ed_var (pv 3)) ea_nil)) (eg_name (pg_name (i := 5) sc_law_net.nd rfl (.inl rfl))) (sss_one (ss_expr (ed_app (pv 4) (ed_callC C_law_saying hr (by decide) (by rfl) (takes_of rfl rfl rfl rfl) (eaa_d (ed_sl sl_any (dsl_any _) (el_of (ed_var (pv 0))) (ep_some (ed_op opr_add (dop_add _) (el_of (ed_op opr_add (dop_add _) (el_of (ed_var (pv 1))) (el_of ed_int))) (el_of (ed_op op_mul (dop_mul _) (el_of ed_int) (el_of (ed_var (pv 5))))))) (ep_some (ed_op opr_add (dop_add _) (el_of (ed_op opr_add (dop_add _) (el_of (ed_var (pv 1))) (el_of ed_int))) (el_of (ed_op op_mul (dop_mul _) (el_of ed_int) (el_of (ed_var (pv 5)))))))) (eaa_d (ed_var (pv 2)) (eaa_d ed_int eaa_nil))) (aD_len (aD_len (aD_len aNil_len))))))))
  (sss_cons (ss_setO (i := 6) sc_law_net.nd rfl (.inl rfl) (eo_lst ea_nil))
  (sss_cons (ss_for (passes_of rfl) rfl (ei_rng1 (by rfl) B.n_range (ea_cons (ed_op op_mod (dop_mod _) (el_of (ed_callC C_law_cell hr (by decide) (by rfl) (takes_of rfl rfl rfl rfl) (eaa_d (ed_var (pv 0)) (eaa_d (ed_op opr_add (dop_add _) (el_of (ed_var (pv 1))) (el_of ed_int)) eaa_nil)) (aD_len (aD_len aNil_len)))) (el_of ed_int)) ea_nil)) (eg_name (pg_name (i := 5) sc_law_net.nd rfl (.inl rfl))) (sss_cons (ss_setO (i := 7) sc_law_net.nd rfl (.inr rfl) (eo_callC C_law_purse hr (by decide) (by rfl) (takes_of rfl rfl rfl rfl) (eaa_d (ed_callC C_law_cell hr (by decide) (by rfl) (takes_of rfl rfl rfl rfl) (eaa_d (ed_var (pv 0)) (eaa_d (ed_op opr_add (dop_add _) (el_of (ed_op opr_add (dop_add _) (el_of (ed_var (pv 1))) (el_of ed_int))) (el_of (ed_var (pv 5)))) eaa_nil)) (aD_len (aD_len aNil_len))) eaa_nil) (aD_len aNil_len)))
  (sss_one (ss_expr (ed_app (pv 6) (ed_callTy call_tuple_of dcl_tuple (by rfl) B.n_tuple (by decide +kernel) (eal_cons (el_of (ed_fz (eo_lc (own := [("_law_place", 8)]) rfl sc_law_net.nd (ei_rng1 (by rfl) B.n_range (ea_cons ed_int ea_nil)) (blkOk_by (N := N_law_net) (sc := defScope s_law_net) (by decide +kernel)) (fun _ _ _ _ _ => (eg_name (pg_name (i := 8) sc_law_net.nd rfl (.inl rfl)))) (fun _ _ _ _ _ => eps_nil) (fun _ _ _ _ _ => (ed_callC C_law_take hr (by decide) (by rfl) takes0 (eaa_l (pv 7) (eaa_d (ed_ix ix_seq (dop_ix _) (el_of (ed_ix ix_seq (dop_ix _) (el_of (ed_var (pv 2))) (el_of (ed_op op_mod (dop_mod _) (el_of (ed_var (pv 8))) (el_of ed_int))) (fun _ _ => rfl))) (el_of ed_int) (fun _ _ => rfl)) eaa_nil)) (aL_len (aD_len aNil_len)))) (by decide)))) eal_nil)))))))
  (sss_one (ss_ret (ed_tup (ea_cons (ed_var (pv 2)) (ea_cons (ed_callTy call_tuple_of dcl_tuple (by rfl) B.n_tuple (by decide +kernel) (eal_cons (el_name (pv 4)) eal_nil)) (ea_cons (ed_callTy call_tuple_of dcl_tuple (by rfl) B.n_tuple (by decide +kernel) (eal_cons (el_name (pv 6)) eal_nil)) ea_nil))))))))))))
abbrev s_law_is_test : Stmt := topS 55
abbrev N_law_is_test : List Str := ["_law_saying_here", "_law_one"]
theorem sc_law_is_test : FnScope N_law_is_test ["_law_saying_here"] (defScope s_law_is_test) := ⟨rfl, rfl, rfl, by decide +kernel, rfl, by decide +kernel, by decide +kernel⟩
theorem ok_law_is_test {k : Nat} (B : Bl mg) (F : FunC K mg "_law_is_test" s_law_is_test ["_law_saying_here"]) {F_law_is_test : Fd} (C_law_is_test : Cal P w K mg base (1 + k) "_law_is_test" ["_law_saying_here"] F_law_is_test) : Cal P w K mg base (1 + k + 1) "_law_is_test" ["_law_saying_here"] (fnM 2 (m_law_is_test F_law_is_test)) :=
  cal_ok F sc_law_is_test fun f cdv A outer s H E hr =>
  (sss_cons (ss_if (et_cmp (op_hIn hr) (dop_hIn _) (el_of (ed_ix ix_seq (dop_ix _) (el_of (ed_var (pv 0))) (el_of ed_int) (fun _ _ => rfl))) (el_of (ed_fz (eo_lst (ea_cons ed_str (ea_cons ed_str (ea_cons ed_str ea_nil)))))) rfl) (sss_one (ss_ret ed_bl)) sss_nil)
  (sss_cons (ss_if (et_cmp (op_hIn hr) (dop_hIn _) (el_of (ed_ix ix_seq (dop_ix _) (el_of (ed_var (pv 0))) (el_of ed_int) (fun _ _ => rfl))) (el_of (ed_fz (eo_lst (ea_cons ed_str (ea_cons ed_str (ea_cons ed_str ea_nil)))))) rfl) (sss_one (ss_ret ed_bl)) sss_nil)
  (sss_one (ss_ret (ed_cmp (op_hEq hr) (dop_hEq _) (el_of (ed_callB call_len_seq dcl_len (by rfl) B.n_len PySem.boot_len (eal_cons (el_of (ed_fz (eo_lc (own := [("_law_one", 1)]) rfl sc_law_is_test.nd (ei_seq (ed_sl sl_any (dsl_any _) (el_of (ed_var (pv 0))) (ep_some ed_int) ep_none)) (blkOk_by (N := N_law_is_test) (sc := defScope s_law_is_test) (by decide +kernel)) (fun _ _ _ _ _ => (eg_name (pg_name (i := 1) sc_law_is_test.nd rfl (.inl rfl)))) (fun _ _ _ _ _ => (eps_one (et_not (et_val (ed_callC C_law_is_test hr (by omega) (by rfl) takes0 (eaa_d (ed_var (pv 1)) eaa_nil) (aD_len aNil_len)))))) (fun _ _ _ _ _ => (ed_var (pv 1))) (by decide)))) eal_nil))) (el_of ed_int) rfl)))))
abbrev s_law_has_note : Stmt := topS 56
abbrev N_law_has_note : List Str := ["_law_saying_here", "_law_one"]
theorem sc_law_has_note : FnScope N_law_has_note ["_law_saying_here"] (defScope s_law_has_note) := ⟨rfl, rfl, rfl, by decide +kernel, rfl, by decide +kernel, by decide +kernel⟩
theorem ok_law_has_note {k : Nat} (B : Bl mg) (F : FunC K mg "_law_has_note" s_law_has_note ["_law_saying_here"]) {F_law_has_note : Fd} (C_law_has_note : Cal P w K mg base (1 + k) "_law_has_note" ["_law_saying_here"] F_law_has_note) : Cal P w K mg base (1 + k + 1) "_law_has_note" ["_law_saying_here"] (fnM 2 (m_law_has_note F_law_has_note)) :=
  cal_ok F sc_law_has_note fun f cdv A outer s H E hr =>
  (sss_cons (ss_if (et_cmp (op_hIn hr) (dop_hIn _) (el_of (ed_ix ix_seq (dop_ix _) (el_of (ed_var (pv 0))) (el_of ed_int) (fun _ _ => rfl))) (el_of (ed_fz (eo_lst (ea_cons ed_str (ea_cons ed_str (ea_cons ed_str (ea_cons ed_str (ea_cons ed_str ea_nil)))))))) rfl) (sss_one (ss_ret (ed_cmp (op_hEq hr) (dop_hEq _) (el_of (ed_ix ix_seq (dop_ix _) (el_of (ed_var (pv 0))) (el_of ed_int) (fun _ _ => rfl))) (el_of ed_str) rfl))) sss_nil)
  (sss_one (ss_ret (ed_cmp (op_hGt (hu64 hr)) (dop_hGt _) (el_of (ed_callB call_len_seq dcl_len (by rfl) B.n_len PySem.boot_len (eal_cons (el_of (ed_fz (eo_lc (own := [("_law_one", 1)]) rfl sc_law_has_note.nd (ei_seq (ed_sl sl_any (dsl_any _) (el_of (ed_var (pv 0))) (ep_some ed_int) ep_none)) (blkOk_by (N := N_law_has_note) (sc := defScope s_law_has_note) (by decide +kernel)) (fun _ _ _ _ _ => (eg_name (pg_name (i := 1) sc_law_has_note.nd rfl (.inl rfl)))) (fun _ _ _ _ _ => (eps_one (et_val (ed_callC C_law_has_note hr (by omega) (by rfl) takes0 (eaa_d (ed_var (pv 1)) eaa_nil) (aD_len aNil_len))))) (fun _ _ _ _ _ => (ed_var (pv 1))) (by decide)))) eal_nil))) (el_of ed_int) rfl))))
abbrev s_law_bad : Stmt := topS 57
abbrev N_law_bad : List Str := ["_law_speech_here", "_law_saying_here", "_law_sort", "_law_counts", "_law_one", "_law_found", "_law_field", "_law_count"]
theorem sc_law_bad : FnScope N_law_bad ["_law_speech_here", "_law_saying_here"] (defScope s_law_bad) := ⟨rfl, rfl, rfl, by decide +kernel, rfl, by decide +kernel, by decide +kernel⟩
theorem ok_law_bad {k : Nat} (B : Bl mg) (F : FunC K mg "_law_bad" s_law_bad ["_law_speech_here", "_law_saying_here"]) {F_law_is_test : Fd} (C_law_is_test : Cal P w K mg base 71 "_law_is_test" ["_law_saying_here"] F_law_is_test) {F_law_bad : Fd} (C_law_bad : Cal P w K mg base (71 + k) "_law_bad" ["_law_speech_here", "_law_saying_here"] F_law_bad) : Cal P w K mg base (71 + k + 1) "_law_bad" ["_law_speech_here", "_law_saying_here"] (fnM 8 (m_law_bad F_law_is_test F_law_bad)) :=
  cal_ok F sc_law_bad fun f cdv A outer s H E hr =>
  (sss_cons (ss_set (i := 2) sc_law_bad.nd rfl (.inl rfl) (ed_ix ix_seq (dop_ix _) (el_of (ed_var (pv 1))) (el_of ed_int) (fun _ _ => rfl)))
  (sss_cons (ss_if (EW.et (ew_or (et_cmp (op_hEq hr) (dop_hEq _) (el_of (ed_var (pv 2))) (el_of ed_str) rfl) (ew_or1 (et_cmp (op_hEq hr) (dop_hEq _) (el_of (ed_var (pv 2))) (el_of ed_str) rfl)))) (sss_cons (ss_setLcD (i := 3) (own := [("_law_field", 6), ("_law_count", 7)]) rfl sc_law_bad.nd rfl rfl (sw_true rfl rfl rfl (by decide +kernel)) (ei_seq (ed_var (pv 0))) (blkOk_by (N := N_law_bad) (sc := defScope s_law_bad) (by decide +kernel)) (fun _ _ _ _ _ => (eg_seq rfl (egs_cons (eg_name (pg_name (i := 6) sc_law_bad.nd rfl (.inl rfl))) (egs_cons (eg_name (pg_name (i := 7) sc_law_bad.nd rfl (.inl rfl))) egs_nil)))) (fun _ _ _ _ _ => (eps_one (et_cmp (op_hEq hr) (dop_hEq _) (el_of (ed_var (pv 6))) (el_of (ed_ix ix_seq (dop_ix _) (el_of (ed_var (pv 1))) (el_of ed_int) (fun _ _ => rfl))) rfl))) (fun _ _ _ _ _ => (ed_var (pv 7))) (by decide))
  (sss_cons (ss_if (et_cmp (op_hEq hr) (dop_hEq _) (el_of (ed_var (pv 3))) (el_of (ed_fz (eo_lst ea_nil))) rfl) (sss_one (ss_ret (ed_fz (eo_lst (ea_cons ed_str (ea_cons (ed_ix ix_seq (dop_ix _) (el_of (ed_var (pv 1))) (el_of ed_int) (fun _ _ => rfl)) ea_nil)))))) sss_nil)
  (sss_one (ss_ret (ed_ix ix_seq (dop_ix _) (el_of (ed_fz (eo_lst (ea_cons (ed_fz (eo_lst (ea_cons ed_str (ea_cons (ed_ix ix_seq (dop_ix _) (el_of (ed_var (pv 1))) (el_of ed_int) (fun _ _ => rfl)) ea_nil)))) (ea_cons (ed_fz (eo_lst ea_nil)) ea_nil))))) (el_of (ed_callTy call_int1 dcl_int (by rfl) B.n_int (by decide +kernel) (eal_cons (el_of (ed_and (ed_cmp (op_hLe (hu64 hr)) (dop_hLe _) (el_of ed_int) (el_of (ed_ix ix_seq (dop_ix _) (el_of (ed_var (pv 1))) (el_of ed_int) (fun _ _ => rfl))) rfl) (ed_one (ed_cmp (op_hLt (hu64 hr)) (dop_hLt _) (el_of (ed_ix ix_seq (dop_ix _) (el_of (ed_var (pv 1))) (el_of ed_int) (fun _ _ => rfl))) (el_of (ed_ix ix_seq (dop_ix _) (el_of (ed_var (pv 3))) (el_of ed_int) (fun _ _ => rfl))) rfl)))) eal_nil))) (fun _ _ => rfl)))))) sss_nil)
  (sss_cons (ss_if (EW.et (ew_and (et_cmp (op_hEq hr) (dop_hEq _) (el_of (ed_var (pv 2))) (el_of ed_str) rfl) (ew_and1 (et_not (et_val (ed_callC C_law_is_test hr (by omega) (by rfl) (takes_of rfl rfl rfl rfl) (eaa_d (ed_ix ix_seq (dop_ix _) (el_of (ed_var (pv 1))) (el_of ed_int) (fun _ _ => rfl)) eaa_nil) (aD_len aNil_len))))))) (sss_one (ss_ret (ed_fz (eo_lst (ea_cons ed_str (ea_cons (ed_ix ix_seq (dop_ix _) (el_of (ed_var (pv 1))) (el_of ed_int) (fun _ _ => rfl)) ea_nil)))))) sss_nil)
  (sss_cons (ss_if (et_cmp (op_hIn hr) (dop_hIn _) (el_of (ed_var (pv 2))) (el_of (ed_fz (eo_lst (ea_cons ed_str (ea_cons ed_str (ea_cons ed_str ea_nil)))))) rfl) (sss_one (ss_ret (ed_fz (eo_lst ea_nil)))) sss_nil)
  (sss_cons (ss_for (passes_of rfl) rfl (ei_seq (ed_sl sl_any (dsl_any _) (el_of (ed_var (pv 1))) (ep_some ed_int) ep_none)) (eg_name (pg_name (i := 4) sc_law_bad.nd rfl (.inl rfl))) (sss_cons (ss_set (i := 5) sc_law_bad.nd rfl (.inl rfl) (ed_callC C_law_bad hr (by omega) (by rfl) (takes_of rfl rfl rfl rfl) (eaa_d (ed_var (pv 0)) (eaa_d (ed_var (pv 4)) eaa_nil)) (aD_len (aD_len aNil_len))))
  (sss_one (ss_if (et_cmp (op_hNe hr) (dop_hNe _) (el_of (ed_var (pv 5))) (el_of (ed_fz (eo_lst ea_nil))) rfl) (sss_one (ss_ret (ed_var (pv 5)))) sss_nil))))
  (sss_one (ss_ret (ed_fz (eo_lst ea_nil)))))))))
abbrev s_law_due : Stmt := topS 58
abbrev N_law_due : List Str := ["_law_net_here", "_law_speech_here", "_law_rules", "_law_ties", "_law_rule", "_law_found", "_law_tie", "_law_place"]
theorem sc_law_due : FnScope N_law_due ["_law_net_here"] (defScope s_law_due) := ⟨rfl, rfl, rfl, by decide +kernel, rfl, by decide +kernel, by decide +kernel⟩
theorem ok_law_due (B : Bl mg) (F : FunC K mg "_law_due" s_law_due ["_law_net_here"]) {F_law_bad : Fd} (C_law_bad : Cal P w K mg base 141 "_law_bad" ["_law_speech_here", "_law_saying_here"] F_law_bad) {F_law_has_note : Fd} (C_law_has_note : Cal P w K mg base 71 "_law_has_note" ["_law_saying_here"] F_law_has_note) : Cal P w K mg base (141 + 1) "_law_due" ["_law_net_here"] (fnM 8 (m_law_due F_law_bad F_law_has_note)) :=
  cal_ok F sc_law_due fun f cdv A outer s H E hr =>
  (sss_cons (ss_asg (ed_var (pv 0)) (eg_seq rfl (egs_cons (eg_name (pg_name (i := 1) sc_law_due.nd rfl (.inl rfl))) (egs_cons (eg_name (pg_name (i := 2) sc_law_due.nd rfl (.inl rfl))) (egs_cons (eg_name (pg_name (i := 3) sc_law_due.nd rfl (.inl rfl))) egs_nil)))) (gS_nx (gCons_nx (gCons_nx (gCons_nx gNil_nx gN_nx) gN_nx) gN_nx)))
  (sss_cons (ss_if (EW.et (ew_or (et_cmp (op_hLt (hu64 hr)) (dop_hLt _) (el_of (ed_callB call_len_seq dcl_len (by rfl) B.n_len PySem.boot_len (eal_cons (el_of (ed_var (pv 1))) eal_nil))) (el_of ed_int) rfl) (ew_or1 (et_cmp (op_hNe hr) (dop_hNe _) (el_of (ed_callB call_len_seq dcl_len (by rfl) B.n_len PySem.boot_len (eal_cons (el_of (ed_var (pv 2))) eal_nil))) (el_of (ed_ix ix_seq (dop_ix _) (el_of (ed_ix ix_seq (dop_ix _) (el_of (ed_var (pv 1))) (el_of ed_int) (fun _ _ => rfl))) (el_of ed_int) (fun _ _ => rfl))) rfl)))) (sss_one (ss_ret (ed_fz (eo_lst (ea_cons ed_str (ea_cons ed_non ea_nil)))))) sss_nil)
  (sss_cons (ss_for (passes_of rfl) rfl (ei_seq (ed_var (pv 2))) (eg_name (pg_name (i := 4) sc_law_due.nd rfl (.inl rfl))) (sss_cons (ss_set (i := 5) sc_law_due.nd rfl (.inl rfl) (ed_callC C_law_bad hr (by decide) (by rfl) (takes_of rfl rfl rfl rfl) (eaa_d (ed_var (pv 1)) (eaa_d (ed_var (pv 4)) eaa_nil)) (aD_len (aD_len aNil_len))))
  (sss_cons (ss_if (et_cmp (op_hNe hr) (dop_hNe _) (el_of (ed_var (pv 5))) (el_of (ed_fz (eo_lst ea_nil))) rfl) (sss_one (ss_ret (ed_var (pv 5)))) sss_nil)
  (sss_one (ss_if (et_val (ed_callC C_law_has_note hr (by decide) (by rfl) (takes_of rfl rfl rfl rfl) (eaa_d (ed_var (pv 4)) eaa_nil) (aD_len aNil_len))) (sss_one (ss_ret (ed_fz (eo_lst (ea_cons ed_str (ea_cons (ed_var (pv 4)) ea_nil)))))) sss_nil)))))
  (sss_cons (ss_for (passes_of rfl) rfl (ei_seq (ed_var (pv 3))) (eg_name (pg_name (i := 6) sc_law_due.nd rfl (.inl rfl))) (sss_one (ss_for (passes_of rfl) rfl (ei_rng1 (by rfl) B.n_range (ea_cons ed_int ea_nil)) (eg_name (pg_name (i := 7) sc_law_due.nd rfl (.inl rfl))) (sss_one (ss_if (EW.et (ew_or (et_cmp (op_hLt (hu64 hr)) (dop_hLt _) (el_of (ed_ix ix_seq (dop_ix _) (el_of (ed_var (pv 6))) (el_of (ed_var (pv 7))) (fun _ _ => rfl))) (el_of ed_int) rfl) (ew_or1 (et_cmp (op_hGe (hu64 hr)) (dop_hGe _) (el_of (ed_ix ix_seq (dop_ix _) (el_of (ed_var (pv 6))) (el_of (ed_var (pv 7))) (fun _ _ => rfl))) (el_of (ed_ix ix_seq (dop_ix _) (el_of (ed_ix ix_seq (dop_ix _) (el_of (ed_var (pv 1))) (el_of (ed_op op_mod (dop_mod _) (el_of (ed_var (pv 7))) (el_of ed_int))) (fun _ _ => rfl))) (el_of ed_int) (fun _ _ => rfl))) rfl)))) (sss_one (ss_ret (ed_fz (eo_lst (ea_cons ed_str (ea_cons (ed_ix ix_seq (dop_ix _) (el_of (ed_var (pv 6))) (el_of (ed_var (pv 7))) (fun _ _ => rfl)) ea_nil)))))) sss_nil)))))
  (sss_one (ss_ret (ed_fz (eo_lst ea_nil))))))))
abbrev s_law_strange : Stmt := topS 59
abbrev N_law_strange : List Str := ["_law_purse_here", "_law_speech_here", "_law_rule", "_law_field", "_law_count", "_law_far", "_law_sort"]
theorem sc_law_strange : FnScope N_law_strange ["_law_purse_here", "_law_speech_here", "_law_rule"] (defScope s_law_strange) := ⟨rfl, rfl, rfl, by decide +kernel, rfl, by decide +kernel, by decide +kernel⟩
theorem ok_law_strange (B : Bl mg) (F : FunC K mg "_law_strange" s_law_strange ["_law_purse_here", "_law_speech_here", "_law_rule"]) {F_law_take : Fd} (C_law_take : Cal P w K mg base 1 "_law_take" ["_law_purse_here", "_law_many"] F_law_take) : Cal P w K mg base (1 + 1) "_law_strange" ["_law_purse_here", "_law_speech_here", "_law_rule"] (fnM 7 (m_law_strange F_law_take)) :=
  cal_ok F sc_law_strange fun f cdv A outer s H E hr =>
  (sss_cons (ss_asg (ed_ix ix_seq (dop_ix _) (el_of (ed_var (pv 1))) (el_of (ed_callC C_law_take hr (by decide) (by rfl) (takes_of rfl rfl rfl rfl) (eaa_l (pv 0) (eaa_d (ed_callB call_len_seq dcl_len (by rfl) B.n_len PySem.boot_len (eal_cons (el_of (ed_var (pv 1))) eal_nil)) eaa_nil)) (aL_len (aD_len aNil_len)))) (fun _ _ => rfl)) (eg_seq rfl (egs_cons (eg_name (pg_name (i := 3) sc_law_strange.nd rfl (.inl rfl))) (egs_cons (eg_name (pg_name (i := 4) sc_law_strange.nd rfl (.inl rfl))) egs_nil))) (gS_nx (gCons_nx (gCons_nx gNil_nx gN_nx) gN_nx)))
  (sss_cons (ss_set (i := 5) sc_law_strange.nd rfl (.inl rfl) (ed_ix ix_seq (dop_ix _) (el_of (ed_fz (eo_lst (ea_cons (ed_neg ed_int) (ea_cons (ed_var (pv 4)) (ea_cons (ed_op opr_add (dop_add _) (el_of (ed_op op_pow (dop_pow _) (el_of ed_int) (el_of ed_int))) (el_of (ed_var (pv 4)))) ea_nil)))))) (el_of (ed_callC C_law_take hr (by decide) (by rfl) (takes_of rfl rfl rfl rfl) (eaa_l (pv 0) (eaa_d ed_int eaa_nil)) (aL_len (aD_len aNil_len)))) (fun _ _ => rfl)))
  (sss_cons (ss_set (i := 6) sc_law_strange.nd rfl (.inl rfl) (ed_callC C_law_take hr (by decide) (by rfl) (takes_of rfl rfl rfl rfl) (eaa_l (pv 0) (eaa_d ed_int eaa_nil)) (aL_len (aD_len aNil_len))))
  (sss_cons (ss_if (et_cmp (op_hEq hr) (dop_hEq _) (el_of (ed_var (pv 6))) (el_of ed_int) rfl) (sss_one (ss_ret (ed_tup (ea_cons ed_str (ea_cons (ed_var (pv 2)) (ea_cons (ed_tup (ea_cons ed_str (ea_cons (ed_op opr_add (dop_add _) (el_of (ed_var (pv 3))) (el_of ed_str)) (ea_cons (ed_var (pv 5)) ea_nil)))) ea_nil)))))) sss_nil)
  (sss_cons (ss_if (et_cmp (op_hEq hr) (dop_hEq _) (el_of (ed_var (pv 6))) (el_of ed_int) rfl) (sss_one (ss_ret (ed_tup (ea_cons ed_str (ea_cons (ed_tup (ea_cons ed_str (ea_cons (ed_var (pv 3)) (ea_cons (ed_var (pv 5)) ea_nil)))) (ea_cons (ed_var (pv 2)) ea_nil)))))) sss_nil)
  (sss_cons (ss_if (et_cmp (op_hEq hr) (dop_hEq _) (el_of (ed_var (pv 6))) (el_of ed_int) rfl) (sss_one (ss_ret (ed_tup (ea_cons ed_str (ea_cons (ed_tup (ea_cons ed_str (ea_cons (ed_tup (ea_cons ed_str (ea_cons (ed_var (pv 3)) (ea_cons ed_int ea_nil)))) ea_nil))) (ea_cons (ed_var (pv 2)) ea_nil)))))) sss_nil)
  (sss_cons (ss_if (et_cmp (op_hEq hr) (dop_hEq _) (el_of (ed_var (pv 6))) (el_of ed_int) rfl) (sss_one (ss_ret (ed_tup (ea_cons ed_str (ea_cons (ed_var (pv 2)) (ea_cons (ed_tup (ea_cons ed_str (ea_cons (ed_tup (ea_cons ed_str ea_nil)) ea_nil))) ea_nil)))))) sss_nil)
  (sss_one (ss_ret (ed_tup (ea_cons ed_str (ea_cons (ed_tup (ea_cons ed_str ea_nil)) (ea_cons (ed_tup (ea_cons ed_str (ea_cons (ed_var (pv 3)) (ea_cons (ed_var (pv 5)) ea_nil)))) ea_nil)))))))))))))
abbrev s_law_spoiled : Stmt := topS 60
abbrev N_law_spoiled : List Str := ["_law_net_here", "_law_purse_here", "_law_speech_here", "_law_rules", "_law_ties", "_law_sort", "_law_at", "_law_place", "_law_count", "_law_far", "_law_tie"]
theorem sc_law_spoiled : FnScope N_law_spoiled ["_law_net_here", "_law_purse_here"] (defScope s_law_spoiled) := ⟨rfl, rfl, rfl, by decide +kernel, rfl, by decide +kernel, by decide +kernel⟩
theorem ok_law_spoiled (B : Bl mg) (F : FunC K mg "_law_spoiled" s_law_spoiled ["_law_net_here", "_law_purse_here"]) {F_law_take : Fd} (C_law_take : Cal P w K mg base 1 "_law_take" ["_law_purse_here", "_law_many"] F_law_take) {F_law_strange : Fd} (C_law_strange : Cal P w K mg base 2 "_law_strange" ["_law_purse_here", "_law_speech_here", "_law_rule"] F_law_strange) : Cal P w K mg base (2 + 1) "_law_spoiled" ["_law_net_here", "_law_purse_here"] (fnM 11 (m_law_spoiled F_law_take F_law_strange)) :=
  cal_ok F sc_law_spoiled fun f cdv A outer s H E hr =>
  (sss_cons (ss_asg (ed_var (pv 0)) (eg_seq rfl (egs_cons (eg_name (pg_name (i := 2) sc_law_spoiled.nd rfl (.inl rfl))) (egs_cons (eg_name (pg_name (i := 3) sc_law_spoiled.nd rfl (.inl rfl))) (egs_cons (eg_name (pg_name (i := 4) sc_law_spoiled.nd rfl (.inl rfl))) egs_nil)))) (gS_nx (gCons_nx (gCons_nx (gCons_nx gNil_nx gN_nx) gN_nx) gN_nx)))
  (sss_cons (ss_set (i := 5) sc_law_spoiled.nd rfl (.inl rfl) (ed_callC C_law_take hr (by decide) (by rfl) (takes_of rfl rfl rfl rfl) (eaa_l (pv 1) (eaa_d ed_int eaa_nil)) (aL_len (aD_len aNil_len))))
  (sss_cons (ss_if (et_cmp (op_hEq hr) (dop_hEq _) (el_of (ed_var (pv 5))) (el_of ed_int) rfl) (sss_one (ss_ret (ed_tup (ea_cons (ed_sl sl_any (dsl_any _) (el_of (ed_var (pv 2))) ep_none (ep_some ed_int)) (ea_cons (ed_var (pv 3)) (ea_cons (ed_var (pv 4)) ea_nil)))))) sss_nil)
  (sss_cons (ss_if (et_cmp (op_hEq hr) (dop_hEq _) (el_of (ed_var (pv 5))) (el_of ed_int) rfl) (sss_one (ss_ret (ed_tup (ea_cons (ed_var (pv 2)) (ea_cons (ed_ix ix_seq (dop_ix _) (el_of (ed_fz (eo_lst (ea_cons (ed_sl sl_any (dsl_any _) (el_of (ed_var (pv 3))) ep_none (ep_some (ed_neg ed_int))) (ea_cons (ed_op opr_add (dop_add _) (el_of (ed_var (pv 3))) (el_of (ed_sl sl_any (dsl_any _) (el_of (ed_var (pv 3))) ep_none (ep_some ed_int)))) ea_nil))))) (el_of (ed_callC C_law_take hr (by decide) (by rfl) (takes_of rfl rfl rfl rfl) (eaa_l (pv 1) (eaa_d ed_int eaa_nil)) (aL_len (aD_len aNil_len)))) (fun _ _ => rfl)) (ea_cons (ed_var (pv 4)) ea_nil)))))) sss_nil)
  (sss_cons (ss_if (EW.et (ew_and (et_cmp (op_hLt (hu64 hr)) (dop_hLt _) (el_of (ed_var (pv 5))) (el_of ed_int) rfl) (ew_and1 (et_cmp (op_hNe hr) (dop_hNe _) (el_of (ed_var (pv 3))) (el_of (ed_tup ea_nil)) rfl)))) (sss_cons (ss_set (i := 6) sc_law_spoiled.nd rfl (.inl rfl) (ed_callC C_law_take hr (by decide) (by rfl) (takes_of rfl rfl rfl rfl) (eaa_l (pv 1) (eaa_d (ed_callB call_len_seq dcl_len (by rfl) B.n_len PySem.boot_len (eal_cons (el_of (ed_var (pv 3))) eal_nil)) eaa_nil)) (aL_len (aD_len aNil_len))))
  (sss_one (ss_ret (ed_tup (ea_cons (ed_var (pv 2)) (ea_cons (ed_op opr_add (dop_add _) (el_of (ed_op opr_add (dop_add _) (el_of (ed_sl sl_any (dsl_any _) (el_of (ed_var (pv 3))) ep_none (ep_some (ed_var (pv 6))))) (el_of (ed_tup (ea_cons (ed_callC C_law_strange hr (by decide) (by rfl) (takes_of rfl rfl rfl rfl) (eaa_l (pv 1) (eaa_d (ed_var (pv 2)) (eaa_d (ed_ix ix_seq (dop_ix _) (el_of (ed_var (pv 3))) (el_of (ed_var (pv 6))) (fun _ _ => rfl)) eaa_nil))) (aL_len (aD_len (aD_len aNil_len)))) ea_nil))))) (el_of (ed_sl sl_any (dsl_any _) (el_of (ed_var (pv 3))) (ep_some (ed_op opr_add (dop_add _) (el_of (ed_var (pv 6))) (el_of ed_int))) ep_none))) (ea_cons (ed_var (pv 4)) ea_nil))))))) sss_nil)
  (sss_cons (ss_set (i := 7) sc_law_spoiled.nd rfl (.inl rfl) (ed_callC C_law_take hr (by decide) (by rfl) (takes_of rfl rfl rfl rfl) (eaa_l (pv 1) (eaa_d ed_int eaa_nil)) (aL_len (aD_len aNil_len))))
  (sss_cons (ss_set (i := 8) sc_law_spoiled.nd rfl (.inl rfl) (ed_ix ix_seq (dop_ix _) (el_of (ed_ix ix_seq (dop_ix _) (el_of (ed_var (pv 2))) (el_of (ed_callB (call_min2 rfl) dcl_min (by rfl) B.n_min (by decide +kernel) (eal_cons (el_of (ed_op op_mod (dop_mod _) (el_of (ed_var (pv 7))) (el_of ed_int))) (eal_cons (el_of (ed_op op_sub (dop_sub _) (el_of (ed_callB call_len_seq dcl_len (by rfl) B.n_len PySem.boot_len (eal_cons (el_of (ed_var (pv 2))) eal_nil))) (el_of ed_int))) eal_nil)))) (fun _ _ => rfl))) (el_of ed_int) (fun _ _ => rfl)))
  (sss_cons (ss_set (i := 9) sc_law_spoiled.nd rfl (.inl rfl) (ed_ix ix_seq (dop_ix _) (el_of (ed_fz (eo_lst (ea_cons (ed_neg ed_int) (ea_cons (ed_var (pv 8)) (ea_cons (ed_op opr_add (dop_add _) (el_of (ed_var (pv 8))) (el_of ed_int)) (ea_cons (ed_op opr_add (dop_add _) (el_of (ed_op op_pow (dop_pow _) (el_of ed_int) (el_of ed_int))) (el_of (ed_var (pv 8)))) (ea_cons (ed_op op_sub (dop_sub _) (el_of (ed_neg ed_int)) (el_of (ed_op op_pow (dop_pow _) (el_of ed_int) (el_of ed_int)))) ea_nil)))))))) (el_of (ed_callC C_law_take hr (by decide) (by rfl) (takes_of rfl rfl rfl rfl) (eaa_l (pv 1) (eaa_d ed_int eaa_nil)) (aL_len (aD_len aNil_len)))) (fun _ _ => rfl)))
  (sss_cons (ss_setO (i := 10) sc_law_spoiled.nd rfl (.inl rfl) (eo_lst (ea_cons ed_int (ea_cons ed_int (ea_cons ed_int (ea_cons ed_int ea_nil))))))
  (sss_cons (ss_put (pv 10) (ed_var (pv 9)) (ed_var (pv 7)))
  (sss_cons (ss_if (et_cmp (op_hEq hr) (dop_hEq _) (el_of (ed_callC C_law_take hr (by decide) (by rfl) (takes_of rfl rfl rfl rfl) (eaa_l (pv 1) (eaa_d ed_int eaa_nil)) (aL_len (aD_len aNil_len)))) (el_of ed_int) rfl) (sss_one (ss_put (pv 10) (ed_op op_pow (dop_pow _) (el_of ed_int) (el_of ed_int)) ed_int)) sss_nil)
  (sss_cons (ss_set (i := 6) sc_law_spoiled.nd rfl (.inl rfl) (ed_callC C_law_take hr (by decide) (by rfl) (takes_of rfl rfl rfl rfl) (eaa_l (pv 1) (eaa_d ed_int eaa_nil)) (aL_len (aD_len aNil_len))))
  (sss_cons (ss_set (i := 4) sc_law_spoiled.nd rfl (.inl rfl) (ed_sl sl_any (dsl_any _) (el_of (ed_var (pv 4))) ep_none (ep_some ed_int)))
  (sss_one (ss_ret (ed_tup (ea_cons (ed_var (pv 2)) (ea_cons (ed_var (pv 3)) (ea_cons (ed_op opr_add (dop_add _) (el_of (ed_op opr_add (dop_add _) (el_of (ed_sl sl_any (dsl_any _) (el_of (ed_var (pv 4))) ep_none (ep_some (ed_var (pv 6))))) (el_of (ed_tup (ea_cons (ed_callTy call_tuple_of dcl_tuple (by rfl) B.n_tuple (by decide +kernel) (eal_cons (el_name (pv 10)) eal_nil)) ea_nil))))) (el_of (ed_sl sl_any (dsl_any _) (el_of (ed_var (pv 4))) (ep_some (ed_var (pv 6))) ep_none))) ea_nil)))))))))))))))))))
abbrev s_law_caught : Stmt := topS 61
abbrev N_law_caught : List Str := ["_law_way", "_law_net_here", "_law_caught_here", "_law_e"]
theorem sc_law_caught : FnScope N_law_caught ["_law_way", "_law_net_here"] (defScope s_law_caught) := ⟨rfl, rfl, rfl, by decide +kernel, rfl, by decide +kernel, by decide +kernel⟩
theorem ok_law_caught (B : Bl mg) {A : Str → Addr} (Xa : XAll P w K mg A) (F : FunC K mg "_law_caught" s_law_caught ["_law_way", "_law_net_here"]) {F_must_net : Fd} (C_must_net : Cal P w K mg base 142 "must_net" ["net"] F_must_net) {F_hops : Fd} (C_hops : Cal P w K mg base 143 "hops" ["net", "letter", "count"] F_hops) {F_saying_of : Fd} (C_saying_of : Cal P w K mg base 143 "saying_of" ["net"] F_saying_of) {F_tables_of : Fd} (C_tables_of : Cal P w K mg base 143 "tables_of" ["net"] F_tables_of) : Cal P w K mg base (143 + 1) "_law_caught" ["_law_way", "_law_net_here"] (fnM 4 (m_law_caught A F_must_net F_hops F_saying_of F_tables_of)) :=
  cal_ok F sc_law_caught fun f cdv A outer s H E hr =>
  (sss_cons (ss_set (i := 2) sc_law_caught.nd rfl (.inl rfl) ed_non)
  (sss_cons (ss_try (i := 3) rfl rfl sc_law_caught.nd rfl rfl (namesC (Xa.cl "SwitchError" (by decide)) (by rfl)) Xa.exm (fun W pn xe tk ps => (sss_cons (ss_if (et_cmp (op_hEq hr) (dop_hEq _) (el_of (ed_var (pv 0))) (el_of ed_int) rfl) (sss_one (ss_expr (ed_callC C_must_net hr (by decide) (by rfl) tk (eaa_d (ed_var (pv 1)) eaa_nil) (aD_len aNil_len)))) sss_nil)
  (sss_cons (ss_if (et_cmp (op_hEq hr) (dop_hEq _) (el_of (ed_var (pv 0))) (el_of ed_int) rfl) (sss_one (ss_expr (ed_callC C_hops hr (by decide) (by rfl) tk (eaa_d (ed_var (pv 1)) (eaa_d (ed_op op_tmul (dop_tmul _) (el_of (ed_tup (ea_cons ed_int ea_nil))) (el_of (ed_callB call_len_seq dcl_len (by rfl) B.n_len PySem.boot_len (eal_cons (el_of (ed_ix ix_seq (dop_ix _) (el_of (ed_var (pv 1))) (el_of ed_int) (fun _ _ => rfl))) eal_nil)))) (eaa_d ed_int eaa_nil))) (aD_len (aD_len (aD_len aNil_len)))))) sss_nil)
  (sss_cons (ss_if (et_cmp (op_hEq hr) (dop_hEq _) (el_of (ed_var (pv 0))) (el_of ed_int) rfl) (sss_one (ss_expr (ed_callC C_saying_of hr (by decide) (by rfl) tk (eaa_d (ed_var (pv 1)) eaa_nil) (aD_len aNil_len)))) sss_nil)
  (sss_one (ss_if (et_cmp (op_hEq hr) (dop_hEq _) (el_of (ed_var (pv 0))) (el_of ed_int) rfl) (sss_one (ss_expr (ed_callC C_tables_of hr (by decide) (by rfl) tk (eaa_d (ed_var (pv 1)) eaa_nil) (aD_len aNil_len)))) sss_nil)))))) (fun a pn => (sss_one (ss_set (i := 2) sc_law_caught.nd rfl (.inl rfl) (ed_var (pv 3))))))
  (sss_one (ss_ret (ed_var (pv 2))))))
abbrev s_law_refused : Stmt := topS 62
abbrev N_law_refused : List Str := ["_law_e", "_law_due_here", "_law_found", "_law_word"]
theorem sc_law_refused : FnScope N_law_refused ["_law_e", "_law_due_here"] (defScope s_law_refused) := ⟨rfl, rfl, rfl, by decide +kernel, rfl, by decide +kernel, by decide +kernel⟩
theorem ok_law_refused (B : Bl mg) {A : Str → Addr} (Xa : XAll P w K mg A) (F : FunC K mg "_law_refused" s_law_refused ["_law_e", "_law_due_here"]) : Cal P w K mg base (0 + 1) "_law_refused" ["_law_e", "_law_due_here"] (fnM 4 (m_law_refused A )) :=
  cal_ok F sc_law_refused fun f cdv A outer s H E hr =>
  (sss_cons (ss_if (EW.et (ew_or (et_not (et_val (ed_isXV Xa (by rfl) B.n_isinstance (pe_bltn (by rfl) B.n_ValueError (by decide +kernel) rfl) (ed_var (pv 0))))) (ew_or1 (et_val (ed_isXC Xa (by decide) (by rfl) B.n_isinstance (by rfl) (ed_var (pv 0))))))) (sss_one (ss_ret ed_bl)) sss_nil)
  (sss_cons (ss_set (i := 2) sc_law_refused.nd rfl (.inl rfl) (ed_fz (eo_lst (ea_cons (ed_isXC Xa (by decide) (by rfl) B.n_isinstance (by rfl) (ed_var (pv 0))) (ea_cons (ed_isXC Xa (by decide) (by rfl) B.n_isinstance (by rfl) (ed_var (pv 0))) (ea_cons (ed_isXC Xa (by decide) (by rfl) B.n_isinstance (by rfl) (ed_var (pv 0))) (ea_cons (ed_isXC Xa (by decide) (by rfl) B.n_isinstance (by rfl) (ed_var (pv 0))) ea_nil)))))))
  (sss_cons (ss_if (et_cmp (op_hNe hr) (dop_hNe _) (el_of (ed_op opr_add (dop_add _) (el_of (ed_var (pv 2))) (el_of (ed_fz (eo_lst (ea_cons (ed_isXC Xa (by decide) (by rfl) B.n_isinstance (by rfl) (ed_var (pv 0))) ea_nil)))))) (el_of (ed_fz (eo_lc (own := [("_law_word", 3)]) rfl sc_law_refused.nd (ei_seq (ed_fz (eo_lst (ea_cons ed_str (ea_cons ed_str (ea_cons ed_str (ea_cons ed_str (ea_cons ed_str ea_nil)))))))) (blkOk_by (N := N_law_refused) (sc := defScope s_law_refused) (by decide +kernel)) (fun _ _ _ _ _ => (eg_name (pg_name (i := 3) sc_law_refused.nd rfl (.inl rfl)))) (fun _ _ _ _ _ => eps_nil) (fun _ _ _ _ _ => (ed_cmp (op_hEq hr) (dop_hEq _) (el_of (ed_ix ix_seq (dop_ix _) (el_of (ed_var (pv 1))) (el_of ed_int) (fun _ _ => rfl))) (el_of (ed_var (pv 3))) rfl)) (by decide)))) rfl) (sss_one (ss_ret ed_bl)) sss_nil)
  (sss_cons (ss_if (et_cmp (op_hEq hr) (dop_hEq _) (el_of (ed_ix ix_seq (dop_ix _) (el_of (ed_var (pv 1))) (el_of ed_int) (fun _ _ => rfl))) (el_of ed_str) rfl) (sss_one (ss_ret (ed_cmp (op_hEq hr) (dop_hEq _) (el_of (ed_xfC Xa (ed_var (pv 0)))) (el_of (ed_ix ix_seq (dop_ix _) (el_of (ed_var (pv 1))) (el_of ed_int) (fun _ _ => rfl))) rfl))) sss_nil)
  (sss_cons (ss_if (et_cmp (op_hEq hr) (dop_hEq _) (el_of (ed_ix ix_seq (dop_ix _) (el_of (ed_var (pv 1))) (el_of ed_int) (fun _ _ => rfl))) (el_of ed_str) rfl) (sss_one (ss_ret (ed_cmp (op_hEq hr) (dop_hEq _) (el_of (ed_xfC Xa (ed_var (pv 0)))) (el_of (ed_ix ix_seq (dop_ix _) (el_of (ed_var (pv 1))) (el_of ed_int) (fun _ _ => rfl))) rfl))) sss_nil)
  (sss_one (ss_ret (ed_or (ed_cmp (op_hEq hr) (dop_hEq _) (el_of (ed_ix ix_seq (dop_ix _) (el_of (ed_var (pv 1))) (el_of ed_int) (fun _ _ => rfl))) (el_of ed_str) rfl) (ed_one (ed_cmp (op_hEq hr) (dop_hEq _) (el_of (ed_xfC Xa (ed_var (pv 0)))) (el_of (ed_ix ix_seq (dop_ix _) (el_of (ed_var (pv 1))) (el_of ed_int) (fun _ _ => rfl))) rfl))))))))))
abbrev s_law_good : Stmt := topS 63
abbrev N_law_good : List Str := ["_law_net_here", "_law_cell_here", "_law_due_here", "_law_k"]
theorem sc_law_good : FnScope N_law_good ["_law_net_here", "_law_cell_here"] (defScope s_law_good) := ⟨rfl, rfl, rfl, by decide +kernel, rfl, by decide +kernel, by decide +kernel⟩
theorem ok_law_good (B : Bl mg) (F : FunC K mg "_law_good" s_law_good ["_law_net_here", "_law_cell_here"]) {F_law_due : Fd} (C_law_due : Cal P w K mg base 142 "_law_due" ["_law_net_here"] F_law_due) {F_must_net : Fd} (C_must_net : Cal P w K mg base 142 "must_net" ["net"] F_must_net) {F_law_refused : Fd} (C_law_refused : Cal P w K mg base 1 "_law_refused" ["_law_e", "_law_due_here"] F_law_refused) {F_law_caught : Fd} (C_law_caught : Cal P w K mg base 144 "_law_caught" ["_law_way", "_law_net_here"] F_law_caught) : Cal P w K mg base (144 + 1) "_law_good" ["_law_net_here", "_law_cell_here"] (fnM 4 (m_law_good F_law_due F_must_net F_law_refused F_law_caught)) :=
  cal_ok F sc_law_good fun f cdv A outer s H E hr =>
  (sss_cons (ss_set (i := 2) sc_law_good.nd rfl (.inl rfl) (ed_callC C_law_due hr (by decide) (by rfl) (takes_of rfl rfl rfl rfl) (eaa_d (ed_var (pv 0)) eaa_nil) (aD_len aNil_len)))
  (sss_cons (ss_if (et_cmp (op_hEq hr) (dop_hEq _) (el_of (ed_var (pv 2))) (el_of (ed_fz (eo_lst ea_nil))) rfl) (sss_one (ss_ret (ed_cmp op_isN (dop_isN _) (el_of (ed_callC C_must_net hr (by decide) (by rfl) (takes_of rfl rfl rfl rfl) (eaa_d (ed_var (pv 0)) eaa_nil) (aD_len aNil_len))) (el_of ed_non) rfl))) sss_nil)
  (sss_cons (ss_for (passes_of rfl) rfl (ei_rng1 (by rfl) B.n_range (ea_cons ed_int ea_nil)) (eg_name (pg_name (i := 3) sc_law_good.nd rfl (.inl rfl))) (sss_one (ss_if (et_not (et_val (ed_callC C_law_refused hr (by decide) (by rfl) (takes_of rfl rfl rfl rfl) (eaa_d (ed_callC C_law_caught hr (by decide) (by rfl) (takes_of rfl rfl rfl rfl) (eaa_d (ed_op op_mod (dop_mod _) (el_of (ed_op opr_add (dop_add _) (el_of (ed_var (pv 1))) (el_of (ed_var (pv 3))))) (el_of ed_int)) (eaa_d (ed_var (pv 0)) eaa_nil)) (aD_len (aD_len aNil_len))) (eaa_d (ed_var (pv 2)) eaa_nil)) (aD_len (aD_len aNil_len))))) (sss_one (ss_ret ed_bl)) sss_nil)))
  (sss_one (ss_ret ed_bl)))))
abbrev s_law : Stmt := topS 64
abbrev N_law : List Str := ["_law_script", "_law_net_here", "_law_cell_here", "_law_purse_here", "_law_other"]
theorem sc_law : FnScope N_law ["_law_script"] (defScope s_law) := ⟨rfl, rfl, rfl, by decide +kernel, rfl, by decide +kernel, by decide +kernel⟩
theorem ok_law (B : Bl mg) (F : FunC K mg "law" s_law ["_law_script"]) {F_law_net : Fd} (C_law_net : Cal P w K mg base 5 "_law_net" ["_law_script", "_law_at"] F_law_net) {F_law_good : Fd} (C_law_good : Cal P w K mg base 145 "_law_good" ["_law_net_here", "_law_cell_here"] F_law_good) {F_law_purse : Fd} (C_law_purse : Cal P w K mg base 1 "_law_purse" ["_law_cell_here"] F_law_purse) {F_law_spoiled : Fd} (C_law_spoiled : Cal P w K mg base 3 "_law_spoiled" ["_law_net_here", "_law_purse_here"] F_law_spoiled) : Cal P w K mg base (145 + 1) "law" ["_law_script"] (fnM 5 (m_law F_law_net F_law_good F_law_purse F_law_spoiled)) :=
  cal_ok F sc_law fun f cdv A outer s H E hr =>
  (sss_cons (ss_set (i := 1) sc_law.nd rfl (.inl rfl) (ed_callC C_law_net hr (by decide) (by rfl) (takes_of rfl rfl rfl rfl) (eaa_d (ed_var (pv 0)) (eaa_d ed_int eaa_nil)) (aD_len (aD_len aNil_len))))
  (sss_cons (ss_if (et_not (et_val (ed_callC C_law_good hr (by decide) (by rfl) (takes_of rfl rfl rfl rfl) (eaa_d (ed_var (pv 1)) (eaa_d ed_int eaa_nil)) (aD_len (aD_len aNil_len))))) (sss_one (ss_ret ed_bl)) sss_nil)
  (sss_cons (ss_for (passes_of rfl) rfl (ei_seq (ed_op opr_add (dop_add _) (el_of (ed_fz (eo_lst (ea_cons ed_int (ea_cons ed_int (ea_cons ed_int (ea_cons ed_int (ea_cons ed_int ea_nil)))))))) (el_of (ed_sl sl_any (dsl_any _) (el_of (ed_var (pv 0))) ep_none (ep_some ed_int))))) (eg_name (pg_name (i := 2) sc_law.nd rfl (.inl rfl))) (sss_cons (ss_setO (i := 3) sc_law.nd rfl (.inl rfl) (eo_callC C_law_purse hr (by decide) (by rfl) (takes_of rfl rfl rfl rfl) (eaa_d (ed_var (pv 2)) eaa_nil) (aD_len aNil_len)))
  (sss_cons (ss_set (i := 4) sc_law.nd rfl (.inl rfl) (ed_callC C_law_spoiled hr (by decide) (by rfl) (takes_of rfl rfl rfl rfl) (eaa_d (ed_var (pv 1)) (eaa_l (pv 3) eaa_nil)) (aD_len (aL_len aNil_len))))
  (sss_one (ss_if (EW.et (ew_or (et_not (et_val (ed_callC C_law_good hr (by decide) (by rfl) (takes_of rfl rfl rfl rfl) (eaa_d (ed_var (pv 4)) (eaa_d (ed_var (pv 2)) eaa_nil)) (aD_len (aD_len aNil_len))))) (ew_or1 (et_not (et_val (ed_callC C_law_good hr (by decide) (by rfl) (takes_of rfl rfl rfl rfl) (eaa_d (ed_callC C_law_spoiled hr (by decide) (by rfl) (takes_of rfl rfl rfl rfl) (eaa_d (ed_var (pv 4)) (eaa_l (pv 3) eaa_nil)) (aD_len (aL_len aNil_len))) (eaa_d (ed_var (pv 2)) eaa_nil)) (aD_len (aD_len aNil_len)))))))) (sss_one (ss_ret ed_bl)) sss_nil)))))
  (sss_one (ss_ret ed_bl)))))
end
end K72
set_option maxRecDepth 100000
set_option maxHeartbeats 8000000
namespace K72
open PySem PySem.Spec L2 Sw
structure Tops (P : Program) (w : World) (K : PySem.W.Frag) (mg : Str → Option Value) (A : Str → Addr) : Prop where
  B : Bl mg
  Xa : XAll P w K mg A
  F_place_of : FunC K mg "place_of" s_place_of ["speech", "field"]
  F_must_value : FunC K mg "must_value" s_must_value ["speech", "field", "value"]
  F_inside : FunC K mg "inside" s_inside ["saying"]
  F_is_test : FunC K mg "is_test" s_is_test ["saying"]
  F_notes_in : FunC K mg "notes_in" s_notes_in ["saying"]
  F_must_saying : FunC K mg "must_saying" s_must_saying ["speech", "saying"]
  F_must_plain : FunC K mg "must_plain" s_must_plain ["saying"]
  F_must_tie : FunC K mg "must_tie" s_must_tie ["speech", "tie"]
  F_must_net : FunC K mg "must_net" s_must_net ["net"]
  F_saying_of : FunC K mg "saying_of" s_saying_of ["net"]
  F_hops : FunC K mg "hops" s_hops ["net", "letter", "count"]
  F_tables_of : FunC K mg "tables_of" s_tables_of ["net"]
  F_law_cell : FunC K mg "_law_cell" s_law_cell ["_law_script", "_law_k"]
  F_law_purse : FunC K mg "_law_purse" s_law_purse ["_law_cell_here"]
  F_law_take : FunC K mg "_law_take" s_law_take ["_law_purse_here", "_law_many"]
  F_law_speech : FunC K mg "_law_speech" s_law_speech ["_law_cell_here", "_law_least"]
  F_law_lone : FunC K mg "_law_lone" s_law_lone ["_law_sort", "_law_purse_here", "_law_speech_here"]
  F_law_grown : FunC K mg "_law_grown" s_law_grown ["_law_row", "_law_cell_here", "_law_speech_here", "_law_most"]
  F_law_joined : FunC K mg "_law_joined" s_law_joined ["_law_row", "_law_word"]
  F_law_saying : FunC K mg "_law_saying" s_law_saying ["_law_cells", "_law_speech_here", "_law_most"]
  F_law_net : FunC K mg "_law_net" s_law_net ["_law_script", "_law_at"]
  F_law_is_test : FunC K mg "_law_is_test" s_law_is_test ["_law_saying_here"]
  F_law_has_note : FunC K mg "_law_has_note" s_law_has_note ["_law_saying_here"]
  F_law_bad : FunC K mg "_law_bad" s_law_bad ["_law_speech_here", "_law_saying_here"]
  F_law_due : FunC K mg "_law_due" s_law_due ["_law_net_here"]
  F_law_strange : FunC K mg "_law_strange" s_law_strange ["_law_purse_here", "_law_speech_here", "_law_rule"]
  F_law_spoiled : FunC K mg "_law_spoiled" s_law_spoiled ["_law_net_here", "_law_purse_here"]
  F_law_caught : FunC K mg "_law_caught" s_law_caught ["_law_way", "_law_net_here"]
  F_law_refused : FunC K mg "_law_refused" s_law_refused ["_law_e", "_law_due_here"]
  F_law_good : FunC K mg "_law_good" s_law_good ["_law_net_here", "_law_cell_here"]
  F_law : FunC K mg "law" s_law ["_law_script"]
theorem xall_of {P : Program} {w : World} {K : PySem.W.Frag} {h : Heap} {mg : Str → Option Value} (X : K.In h) (G : h.Ns mainGlobals mg)
    {y0 Nx0 : Addr} {nm0 qx0 : Str} {bs0 bm0 su0 : List Value} {sn0 : List Str} {ab0 : Bool} {co0 : Option Bool} {dd0 : Option Addr} {x00 x10 x20 x30 x50 : Option Value}
    {y1 Nx1 : Addr} {nm1 qx1 : Str} {bs1 bm1 su1 : List Value} {sn1 : List Str} {ab1 : Bool} {co1 : Option Bool} {dd1 : Option Addr} {x01 x11 x21 x31 x51 : Option Value}
    {gi1 : Addr} {odi1 ani1 : Option Addr} {sli1 : Array (Option Value)} {oci1 kVi1 dci1 pmi1 cdi1 cti1 : Value}
    {y2 Nx2 : Addr} {nm2 qx2 : Str} {bs2 bm2 su2 : List Value} {sn2 : List Str} {ab2 : Bool} {co2 : Option Bool} {dd2 : Option Addr} {x02 x12 x22 x32 x52 : Option Value}
    {gi2 : Addr} {odi2 ani2 : Option Addr} {sli2 : Array (Option Value)} {oci2 kVi2 dci2 pmi2 cdi2 cti2 : Value}
    {y3 Nx3 : Addr} {nm3 qx3 : Str} {bs3 bm3 su3 : List Value} {sn3 : List Str} {ab3 : Bool} {co3 : Option Bool} {dd3 : Option Addr} {x03 x13 x23 x33 x53 : Option Value}
    {gi3 : Addr} {odi3 ani3 : Option Addr} {sli3 : Array (Option Value)} {oci3 kVi3 dci3 pmi3 cdi3 cti3 : Value}
    {y4 Nx4 : Addr} {nm4 qx4 : Str} {bs4 bm4 su4 : List Value} {sn4 : List Str} {ab4 : Bool} {co4 : Option Bool} {dd4 : Option Addr} {x04 x14 x24 x34 x54 : Option Value}
    {gi4 : Addr} {odi4 ani4 : Option Addr} {sli4 : Array (Option Value)} {oci4 kVi4 dci4 pmi4 cdi4 cti4 : Value}
    {y5 Nx5 : Addr} {nm5 qx5 : Str} {bs5 bm5 su5 : List Value} {sn5 : List Str} {ab5 : Bool} {co5 : Option Bool} {dd5 : Option Addr} {x05 x15 x25 x35 x55 : Option Value}
    {gi5 : Addr} {odi5 ani5 : Option Addr} {sli5 : Array (Option Value)} {oci5 kVi5 dci5 pmi5 cdi5 cti5 : Value}
    {y6 Nx6 : Addr} {nm6 qx6 : Str} {bs6 bm6 su6 : List Value} {sn6 : List Str} {ab6 : Bool} {co6 : Option Bool} {dd6 : Option Addr} {x06 x16 x26 x36 x56 : Option Value}
    (ya0 : PySem.W.nsIn K mainGlobals "SwitchError" = some (some (.ref y0))) (yl0 : K.lookup y0 = some (excClassObj nm0 qx0 y0 Nx0 bs0 bm0 true sn0 su0 ab0 co0 dd0 x00 x10 x20 x30 x50 "ValueError.__new__")) (yr0 : PySem.HandSPX.refsVE bm0 = true) (yb0 : xclB K y0 [] = true)
    (yo0 : PySem.W.excIn K y0 veBm "ValueError.__new__" = true)
    (ya1 : PySem.W.nsIn K mainGlobals "NoField" = some (some (.ref y1))) (yl1 : K.lookup y1 = some (excClassObj nm1 qx1 y1 Nx1 bs1 bm1 true sn1 su1 ab1 co1 dd1 x01 x11 x21 x31 x51 "ValueError.__new__")) (yr1 : PySem.HandSPX.refsVE bm1 = true) (yb1 : xclB K y1 ["field"] = true)
    (yi1 : PySem.W.findIn K (.ref y1) "__init__" = some (some (.ref gi1))) (yt1 : PySem.W.typeIn K (.ref gi1) = some (.type "function")) (yf1 : K.lookup gi1 = some ⟨oci1, odi1, .func (PySem.W.fnOf "__init__" "NoField.__init__" (defArgs si_NoField) (defBody si_NoField) (defScope si_NoField) .none kVi1 dci1 pmi1 ani1 cdi1 cti1), sli1⟩) (yc1 : PySem.W.codeIn K cdi1 "NoField.__init__" = true) (yk1 : PySem.W.keepIn K (.ref gi1) = true)
    (ya2 : PySem.W.nsIn K mainGlobals "NoValue" = some (some (.ref y2))) (yl2 : K.lookup y2 = some (excClassObj nm2 qx2 y2 Nx2 bs2 bm2 true sn2 su2 ab2 co2 dd2 x02 x12 x22 x32 x52 "ValueError.__new__")) (yr2 : PySem.HandSPX.refsVE bm2 = true) (yb2 : xclB K y2 ["value"] = true)
    (yi2 : PySem.W.findIn K (.ref y2) "__init__" = some (some (.ref gi2))) (yt2 : PySem.W.typeIn K (.ref gi2) = some (.type "function")) (yf2 : K.lookup gi2 = some ⟨oci2, odi2, .func (PySem.W.fnOf "__init__" "NoValue.__init__" (defArgs si_NoValue) (defBody si_NoValue) (defScope si_NoValue) .none kVi2 dci2 pmi2 ani2 cdi2 cti2), sli2⟩) (yc2 : PySem.W.codeIn K cdi2 "NoValue.__init__" = true) (yk2 : PySem.W.keepIn K (.ref gi2) = true)
    (ya3 : PySem.W.nsIn K mainGlobals "NoTest" = some (some (.ref y3))) (yl3 : K.lookup y3 = some (excClassObj nm3 qx3 y3 Nx3 bs3 bm3 true sn3 su3 ab3 co3 dd3 x03 x13 x23 x33 x53 "ValueError.__new__")) (yr3 : PySem.HandSPX.refsVE bm3 = true) (yb3 : xclB K y3 ["saying"] = true)
    (yi3 : PySem.W.findIn K (.ref y3) "__init__" = some (some (.ref gi3))) (yt3 : PySem.W.typeIn K (.ref gi3) = some (.type "function")) (yf3 : K.lookup gi3 = some ⟨oci3, odi3, .func (PySem.W.fnOf "__init__" "NoTest.__init__" (defArgs si_NoTest) (defBody si_NoTest) (defScope si_NoTest) .none kVi3 dci3 pmi3 ani3 cdi3 cti3), sli3⟩) (yc3 : PySem.W.codeIn K cdi3 "NoTest.__init__" = true) (yk3 : PySem.W.keepIn K (.ref gi3) = true)
    (ya4 : PySem.W.nsIn K mainGlobals "NoPlain" = some (some (.ref y4))) (yl4 : K.lookup y4 = some (excClassObj nm4 qx4 y4 Nx4 bs4 bm4 true sn4 su4 ab4 co4 dd4 x04 x14 x24 x34 x54 "ValueError.__new__")) (yr4 : PySem.HandSPX.refsVE bm4 = true) (yb4 : xclB K y4 ["saying"] = true)
    (yi4 : PySem.W.findIn K (.ref y4) "__init__" = some (some (.ref gi4))) (yt4 : PySem.W.typeIn K (.ref gi4) = some (.type "function")) (yf4 : K.lookup gi4 = some ⟨oci4, odi4, .func (PySem.W.fnOf "__init__" "NoPlain.__init__" (defArgs si_NoPlain) (defBody si_NoPlain) (defScope si_NoPlain) .none kVi4 dci4 pmi4 ani4 cdi4 cti4), sli4⟩) (yc4 : PySem.W.codeIn K cdi4 "NoPlain.__init__" = true) (yk4 : PySem.W.keepIn K (.ref gi4) = true)
    (ya5 : PySem.W.nsIn K mainGlobals "TooGreat" = some (some (.ref y5))) (yl5 : K.lookup y5 = some (excClassObj nm5 qx5 y5 Nx5 bs5 bm5 true sn5 su5 ab5 co5 dd5 x05 x15 x25 x35 x55 "ValueError.__new__")) (yr5 : PySem.HandSPX.refsVE bm5 = true) (yb5 : xclB K y5 ["number", "most"] = true)
    (yi5 : PySem.W.findIn K (.ref y5) "__init__" = some (some (.ref gi5))) (yt5 : PySem.W.typeIn K (.ref gi5) = some (.type "function")) (yf5 : K.lookup gi5 = some ⟨oci5, odi5, .func (PySem.W.fnOf "__init__" "TooGreat.__init__" (defArgs si_TooGreat) (defBody si_TooGreat) (defScope si_TooGreat) .none kVi5 dci5 pmi5 ani5 cdi5 cti5), sli5⟩) (yc5 : PySem.W.codeIn K cdi5 "TooGreat.__init__" = true) (yk5 : PySem.W.keepIn K (.ref gi5) = true)
    (ya6 : PySem.W.nsIn K mainGlobals "NoNet" = some (some (.ref y6))) (yl6 : K.lookup y6 = some (excClassObj nm6 qx6 y6 Nx6 bs6 bm6 true sn6 su6 ab6 co6 dd6 x06 x16 x26 x36 x56 "ValueError.__new__")) (yr6 : PySem.HandSPX.refsVE bm6 = true) (yb6 : xclB K y6 [] = true)
    (yo6 : PySem.W.excIn K y6 veBm "ValueError.__new__" = true)
    (ycom : xcomB K = true) (ymat : xmatB K y0 [("SwitchError", y0), ("NoField", y1), ("NoValue", y2), ("NoTest", y3), ("NoPlain", y4), ("TooGreat", y5), ("NoNet", y6)] = true) : XAll P w K mg (xA y0 y1 y2 y3 y4 y5 y6) := by
  have T0 := xtxt_mk (c := "SwitchError") X G ya0 yl0 yr0 yb0 ycom
  have T1 := xtxt_mk (c := "NoField") X G ya1 yl1 yr1 yb1 ycom
  have T2 := xtxt_mk (c := "NoValue") X G ya2 yl2 yr2 yb2 ycom
  have T3 := xtxt_mk (c := "NoTest") X G ya3 yl3 yr3 yb3 ycom
  have T4 := xtxt_mk (c := "NoPlain") X G ya4 yl4 yr4 yb4 ycom
  have T5 := xtxt_mk (c := "TooGreat") X G ya5 yl5 yr5 yb5 ycom
  have T6 := xtxt_mk (c := "NoNet") X G ya6 yl6 yr6 yb6 ycom
  refine xall_mk ?c0 ?c1 ?c2 ?c3 ?c4 ?c5 ?c6 ymat
  · exact xcl_own xA_0 T0 yo0
  · exact xcl_ini xA_1 T1 (by simp) yi1 yt1 (fun us hl => match us, hl with | [_, _], _ => rfl) fun base => oki_NoField (fun_mk yf1 yc1 yk1) T1.T (T1.no "field" (by simp))
  · exact xcl_ini xA_2 T2 (by simp) yi2 yt2 (fun us hl => match us, hl with | [_, _], _ => rfl) fun base => oki_NoValue (fun_mk yf2 yc2 yk2) T2.T (T2.no "value" (by simp))
  · exact xcl_ini xA_3 T3 (by simp) yi3 yt3 (fun us hl => match us, hl with | [_, _], _ => rfl) fun base => oki_NoTest (fun_mk yf3 yc3 yk3) T3.T (T3.no "saying" (by simp))
  · exact xcl_ini xA_4 T4 (by simp) yi4 yt4 (fun us hl => match us, hl with | [_, _], _ => rfl) fun base => oki_NoPlain (fun_mk yf4 yc4 yk4) T4.T (T4.no "saying" (by simp))
  · exact xcl_ini xA_5 T5 (by simp) yi5 yt5 (fun us hl => match us, hl with | [_, _, _], _ => rfl) fun base => oki_TooGreat (fun_mk yf5 yc5 yk5) T5.T (T5.no "number" (by simp)) (T5.no "most" (by simp))
  · exact xcl_own xA_6 T6 yo6
theorem all_mk {P : Program} {w : World} {A : Str → Addr} {K : PySem.W.Frag} {h : Heap} {mg : Str → Option Value} (X : K.In h) (G : h.Ns mainGlobals mg) (Xa : XAll P w K mg A) {f0 f1 f2 f3 f4 f5 f6 f7 f8 f9 f10 f11 f12 f13 f14 f15 f16 f17 f18 f19 f20 f21 f22 f23 f24 f25 f26 f27 f28 f29 f30 : Addr}
    {od0 an0 od1 an1 od2 an2 od3 an3 od4 an4 od5 an5 od6 an6 od7 an7 od8 an8 od9 an9 od10 an10 od11 an11 od12 an12 od13 an13 od14 an14 od15 an15 od16 an16 od17 an17 od18 an18 od19 an19 od20 an20 od21 an21 od22 an22 od23 an23 od24 an24 od25 an25 od26 an26 od27 an27 od28 an28 od29 an29 od30 an30 : Option Addr} {sl0 sl1 sl2 sl3 sl4 sl5 sl6 sl7 sl8 sl9 sl10 sl11 sl12 sl13 sl14 sl15 sl16 sl17 sl18 sl19 sl20 sl21 sl22 sl23 sl24 sl25 sl26 sl27 sl28 sl29 sl30 : Array (Option Value)} {oc0 kV0 dc0 pm0 cd0 ct0 oc1 kV1 dc1 pm1 cd1 ct1 oc2 kV2 dc2 pm2 cd2 ct2 oc3 kV3 dc3 pm3 cd3 ct3 oc4 kV4 dc4 pm4 cd4 ct4 oc5 kV5 dc5 pm5 cd5 ct5 oc6 kV6 dc6 pm6 cd6 ct6 oc7 kV7 dc7 pm7 cd7 ct7 oc8 kV8 dc8 pm8 cd8 ct8 oc9 kV9 dc9 pm9 cd9 ct9 oc10 kV10 dc10 pm10 cd10 ct10 oc11 kV11 dc11 pm11 cd11 ct11 oc12 kV12 dc12 pm12 cd12 ct12 oc13 kV13 dc13 pm13 cd13 ct13 oc14 kV14 dc14 pm14 cd14 ct14 oc15 kV15 dc15 pm15 cd15 ct15 oc16 kV16 dc16 pm16 cd16 ct16 oc17 kV17 dc17 pm17 cd17 ct17 oc18 kV18 dc18 pm18 cd18 ct18 oc19 kV19 dc19 pm19 cd19 ct19 oc20 kV20 dc20 pm20 cd20 ct20 oc21 kV21 dc21 pm21 cd21 ct21 oc22 kV22 dc22 pm22 cd22 ct22 oc23 kV23 dc23 pm23 cd23 ct23 oc24 kV24 dc24 pm24 cd24 ct24 oc25 kV25 dc25 pm25 cd25 ct25 oc26 kV26 dc26 pm26 cd26 ct26 oc27 kV27 dc27 pm27 cd27 ct27 oc28 kV28 dc28 pm28 cd28 ct28 oc29 kV29 dc29 pm29 cd29 ct29 oc30 kV30 dc30 pm30 cd30 ct30 : Value}
    (a0 : PySem.W.nsIn K mainGlobals "place_of" = some (some (.ref f0))) (l0 : K.lookup f0 = some ⟨oc0, od0, .func (PySem.W.fnOf "place_of" "place_of" (defArgs s_place_of) (defBody s_place_of) (defScope s_place_of) .none kV0 dc0 pm0 an0 cd0 ct0), sl0⟩) (c0 : PySem.W.codeIn K cd0 "place_of" = true) (k0 : PySem.W.keepIn K (.ref f0) = true)
    (a1 : PySem.W.nsIn K mainGlobals "must_value" = some (some (.ref f1))) (l1 : K.lookup f1 = some ⟨oc1, od1, .func (PySem.W.fnOf "must_value" "must_value" (defArgs s_must_value) (defBody s_must_value) (defScope s_must_value) .none kV1 dc1 pm1 an1 cd1 ct1), sl1⟩) (c1 : PySem.W.codeIn K cd1 "must_value" = true) (k1 : PySem.W.keepIn K (.ref f1) = true)
    (a2 : PySem.W.nsIn K mainGlobals "inside" = some (some (.ref f2))) (l2 : K.lookup f2 = some ⟨oc2, od2, .func (PySem.W.fnOf "inside" "inside" (defArgs s_inside) (defBody s_inside) (defScope s_inside) .none kV2 dc2 pm2 an2 cd2 ct2), sl2⟩) (c2 : PySem.W.codeIn K cd2 "inside" = true) (k2 : PySem.W.keepIn K (.ref f2) = true)
    (a3 : PySem.W.nsIn K mainGlobals "is_test" = some (some (.ref f3))) (l3 : K.lookup f3 = some ⟨oc3, od3, .func (PySem.W.fnOf "is_test" "is_test" (defArgs s_is_test) (defBody s_is_test) (defScope s_is_test) .none kV3 dc3 pm3 an3 cd3 ct3), sl3⟩) (c3 : PySem.W.codeIn K cd3 "is_test" = true) (k3 : PySem.W.keepIn K (.ref f3) = true)
    (a4 : PySem.W.nsIn K mainGlobals "notes_in" = some (some (.ref f4))) (l4 : K.lookup f4 = some ⟨oc4, od4, .func (PySem.W.fnOf "notes_in" "notes_in" (defArgs s_notes_in) (defBody s_notes_in) (defScope s_notes_in) .none kV4 dc4 pm4 an4 cd4 ct4), sl4⟩) (c4 : PySem.W.codeIn K cd4 "notes_in" = true) (k4 : PySem.W.keepIn K (.ref f4) = true)
    (a5 : PySem.W.nsIn K mainGlobals "must_saying" = some (some (.ref f5))) (l5 : K.lookup f5 = some ⟨oc5, od5, .func (PySem.W.fnOf "must_saying" "must_saying" (defArgs s_must_saying) (defBody s_must_saying) (defScope s_must_saying) .none kV5 dc5 pm5 an5 cd5 ct5), sl5⟩) (c5 : PySem.W.codeIn K cd5 "must_saying" = true) (k5 : PySem.W.keepIn K (.ref f5) = true)
    (a6 : PySem.W.nsIn K mainGlobals "must_plain" = some (some (.ref f6))) (l6 : K.lookup f6 = some ⟨oc6, od6, .func (PySem.W.fnOf "must_plain" "must_plain" (defArgs s_must_plain) (defBody s_must_plain) (defScope s_must_plain) .none kV6 dc6 pm6 an6 cd6 ct6), sl6⟩) (c6 : PySem.W.codeIn K cd6 "must_plain" = true) (k6 : PySem.W.keepIn K (.ref f6) = true)
    (a7 : PySem.W.nsIn K mainGlobals "must_tie" = some (some (.ref f7))) (l7 : K.lookup f7 = some ⟨oc7, od7, .func (PySem.W.fnOf "must_tie" "must_tie" (defArgs s_must_tie) (defBody s_must_tie) (defScope s_must_tie) .none kV7 dc7 pm7 an7 cd7 ct7), sl7⟩) (c7 : PySem.W.codeIn K cd7 "must_tie" = true) (k7 : PySem.W.keepIn K (.ref f7) = true)
    (a8 : PySem.W.nsIn K mainGlobals "must_net" = some (some (.ref f8))) (l8 : K.lookup f8 = some ⟨oc8, od8, .func (PySem.W.fnOf "must_net" "must_net" (defArgs s_must_net) (defBody s_must_net) (defScope s_must_net) .none kV8 dc8 pm8 an8 cd8 ct8), sl8⟩) (c8 : PySem.W.codeIn K cd8 "must_net" = true) (k8 : PySem.W.keepIn K (.ref f8) = true)
    (a9 : PySem.W.nsIn K mainGlobals "saying_of" = some (some (.ref f9))) (l9 : K.lookup f9 = some ⟨oc9, od9, .func (PySem.W.fnOf "saying_of" "saying_of" (defArgs s_saying_of) (defBody s_saying_of) (defScope s_saying_of) .none kV9 dc9 pm9 an9 cd9 ct9), sl9⟩) (c9 : PySem.W.codeIn K cd9 "saying_of" = true) (k9 : PySem.W.keepIn K (.ref f9) = true)
    (a10 : PySem.W.nsIn K mainGlobals "hops" = some (some (.ref f10))) (l10 : K.lookup f10 = some ⟨oc10, od10, .func (PySem.W.fnOf "hops" "hops" (defArgs s_hops) (defBody s_hops) (defScope s_hops) .none kV10 dc10 pm10 an10 cd10 ct10), sl10⟩) (c10 : PySem.W.codeIn K cd10 "hops" = true) (k10 : PySem.W.keepIn K (.ref f10) = true)
    (a11 : PySem.W.nsIn K mainGlobals "tables_of" = some (some (.ref f11))) (l11 : K.lookup f11 = some ⟨oc11, od11, .func (PySem.W.fnOf "tables_of" "tables_of" (defArgs s_tables_of) (defBody s_tables_of) (defScope s_tables_of) .none kV11 dc11 pm11 an11 cd11 ct11), sl11⟩) (c11 : PySem.W.codeIn K cd11 "tables_of" = true) (k11 : PySem.W.keepIn K (.ref f11) = true)
    (a12 : PySem.W.nsIn K mainGlobals "_law_cell" = some (some (.ref f12))) (l12 : K.lookup f12 = some ⟨oc12, od12, .func (PySem.W.fnOf "_law_cell" "_law_cell" (defArgs s_law_cell) (defBody s_law_cell) (defScope s_law_cell) .none kV12 dc12 pm12 an12 cd12 ct12), sl12⟩) (c12 : PySem.W.codeIn K cd12 "_law_cell" = true) (k12 : PySem.W.keepIn K (.ref f12) = true)
    (a13 : PySem.W.nsIn K mainGlobals "_law_purse" = some (some (.ref f13))) (l13 : K.lookup f13 = some ⟨oc13, od13, .func (PySem.W.fnOf "_law_purse" "_law_purse" (defArgs s_law_purse) (defBody s_law_purse) (defScope s_law_purse) .none kV13 dc13 pm13 an13 cd13 ct13), sl13⟩) (c13 : PySem.W.codeIn K cd13 "_law_purse" = true) (k13 : PySem.W.keepIn K (.ref f13) = true)
    (a14 : PySem.W.nsIn K mainGlobals "_law_take" = some (some (.ref f14))) (l14 : K.lookup f14 = some ⟨oc14, od14, .func (PySem.W.fnOf "_law_take" "_law_take" (defArgs s_law_take) (defBody s_law_take) (defScope s_law_take) .none kV14 dc14 pm14 an14 cd14 ct14), sl14⟩) (c14 : PySem.W.codeIn K cd14 "_law_take" = true) (k14 : PySem.W.keepIn K (.ref f14) = true)
    (a15 : PySem.W.nsIn K mainGlobals "_law_speech" = some (some (.ref f15))) (l15 : K.lookup f15 = some ⟨oc15, od15, .func (PySem.W.fnOf "_law_speech" "_law_speech" (defArgs s_law_speech) (defBody s_law_speech) (defScope s_law_speech) .none kV15 dc15 pm15 an15 cd15 ct15), sl15⟩) (c15 : PySem.W.codeIn K cd15 "_law_speech" = true) (k15 : PySem.W.keepIn K (.ref f15) = true)
    (a16 : PySem.W.nsIn K mainGlobals "_law_lone" = some (some (.ref f16))) (l16 : K.lookup f16 = some ⟨oc16, od16, .func (PySem.W.fnOf "_law_lone" "_law_lone" (defArgs s_law_lone) (defBody s_law_lone) (defScope s_law_lone) .none kV16 dc16 pm16 an16 cd16 ct16), sl16⟩) (c16 : PySem.W.codeIn K cd16 "_law_lone" = true) (k16 : PySem.W.keepIn K (.ref f16) = true)
    (a17 : PySem.W.nsIn K mainGlobals "_law_grown" = some (some (.ref f17))) (l17 : K.lookup f17 = some ⟨oc17, od17, .func (PySem.W.fnOf "_law_grown" "_law_grown" (defArgs s_law_grown) (defBody s_law_grown) (defScope s_law_grown) .none kV17 dc17 pm17 an17 cd17 ct17), sl17⟩) (c17 : PySem.W.codeIn K cd17 "_law_grown" = true) (k17 : PySem.W.keepIn K (.ref f17) = true)
    (a18 : PySem.W.nsIn K mainGlobals "_law_joined" = some (some (.ref f18))) (l18 : K.lookup f18 = some ⟨oc18, od18, .func (PySem.W.fnOf "_law_joined" "_law_joined" (defArgs s_law_joined) (defBody s_law_joined) (defScope s_law_joined) .none kV18 dc18 pm18 an18 cd18 ct18), sl18⟩) (c18 : PySem.W.codeIn K cd18 "_law_joined" = true) (k18 : PySem.W.keepIn K (.ref f18) = true)
    (a19 : PySem.W.nsIn K mainGlobals "_law_saying" = some (some (.ref f19))) (l19 : K.lookup f19 = some ⟨oc19, od19, .func (PySem.W.fnOf "_law_saying" "_law_saying" (defArgs s_law_saying) (defBody s_law_saying) (defScope s_law_saying) .none kV19 dc19 pm19 an19 cd19 ct19), sl19⟩) (c19 : PySem.W.codeIn K cd19 "_law_saying" = true) (k19 : PySem.W.keepIn K (.ref f19) = true)
    (a20 : PySem.W.nsIn K mainGlobals "_law_net" = some (some (.ref f20))) (l20 : K.lookup f20 = some ⟨oc20, od20, .func (PySem.W.fnOf "_law_net" "_law_net" (defArgs s_law_net) (defBody s_law_net) (defScope s_law_net) .none kV20 dc20 pm20 an20 cd20 ct20), sl20⟩) (c20 : PySem.W.codeIn K cd20 "_law_net" = true) (k20 : PySem.W.keepIn K (.ref f20) = true)
    (a21 : PySem.W.nsIn K mainGlobals "_law_is_test" = some (some (.ref f21))) (l21 : K.lookup f21 = some ⟨oc21, od21, .func (PySem.W.fnOf "_law_is_test" "_law_is_test" (defArgs s_law_is_test) (defBody s_law_is_test) (defScope s_law_is_test) .none kV21 dc21 pm21 an21 cd21 ct21), sl21⟩) (c21 : PySem.W.codeIn K cd21 "_law_is_test" = true) (k21 : PySem.W.keepIn K (.ref f21) = true)
    (a22 : PySem.W.nsIn K mainGlobals "_law_has_note" = some (some (.ref f22))) (l22 : K.lookup f22 = some ⟨oc22, od22, .func (PySem.W.fnOf "_law_has_note" "_law_has_note" (defArgs s_law_has_note) (defBody s_law_has_note) (defScope s_law_has_note) .none kV22 dc22 pm22 an22 cd22 ct22), sl22⟩) (c22 : PySem.W.codeIn K cd22 "_law_has_note" = true) (k22 : PySem.W.keepIn K (.ref f22) = true)
    (a23 : PySem.W.nsIn K mainGlobals "_law_bad" = some (some (.ref f23))) (l23 : K.lookup f23 = some ⟨oc23, od23, .func (PySem.W.fnOf "_law_bad" "_law_bad" (defArgs s_law_bad) (defBody s_law_bad) (defScope s_law_bad) .none kV23 dc23 pm23 an23 cd23 ct23), sl23⟩) (c23 : PySem.W.codeIn K cd23 "_law_bad" = true) (k23 : PySem.W.keepIn K (.ref f23) = true)
    (a24 : PySem.W.nsIn K mainGlobals "_law_due" = some (some (.ref f24))) (l24 : K.lookup f24 = some ⟨oc24, od24, .func (PySem.W.fnOf "_law_due" "_law_due" (defArgs s_law_due) (defBody s_law_due) (defScope s_law_due) .none kV24 dc24 pm24 an24 cd24 ct24), sl24⟩) (c24 : PySem.W.codeIn K cd24 "_law_due" = true) (k24 : PySem.W.keepIn K (.ref f24) = true)
    (a25 : PySem.W.nsIn K mainGlobals "_law_strange" = some (some (.ref f25))) (l25 : K.lookup f25 = some ⟨oc25, od25, .func (PySem.W.fnOf "_law_strange" "_law_strange" (defArgs s_law_strange) (defBody s_law_strange) (defScope s_law_strange) .none kV25 dc25 pm25 an25 cd25 ct25), sl25⟩) (c25 : PySem.W.codeIn K cd25 "_law_strange" = true) (k25 : PySem.W.keepIn K (.ref f25) = true)
    (a26 : PySem.W.nsIn K mainGlobals "_law_spoiled" = some (some (.ref f26))) (l26 : K.lookup f26 = some ⟨oc26, od26, .func (PySem.W.fnOf "_law_spoiled" "_law_spoiled" (defArgs s_law_spoiled) (defBody s_law_spoiled) (defScope s_law_spoiled) .none kV26 dc26 pm26 an26 cd26 ct26), sl26⟩) (c26 : PySem.W.codeIn K cd26 "_law_spoiled" = true) (k26 : PySem.W.keepIn K (.ref f26) = true)
    (a27 : PySem.W.nsIn K mainGlobals "_law_caught" = some (some (.ref f27))) (l27 : K.lookup f27 = some ⟨oc27, od27, .func (PySem.W.fnOf "_law_caught" "_law_caught" (defArgs s_law_caught) (defBody s_law_caught) (defScope s_law_caught) .none kV27 dc27 pm27 an27 cd27 ct27), sl27⟩) (c27 : PySem.W.codeIn K cd27 "_law_caught" = true) (k27 : PySem.W.keepIn K (.ref f27) = true)
    (a28 : PySem.W.nsIn K mainGlobals "_law_refused" = some (some (.ref f28))) (l28 : K.lookup f28 = some ⟨oc28, od28, .func (PySem.W.fnOf "_law_refused" "_law_refused" (defArgs s_law_refused) (defBody s_law_refused) (defScope s_law_refused) .none kV28 dc28 pm28 an28 cd28 ct28), sl28⟩) (c28 : PySem.W.codeIn K cd28 "_law_refused" = true) (k28 : PySem.W.keepIn K (.ref f28) = true)
    (a29 : PySem.W.nsIn K mainGlobals "_law_good" = some (some (.ref f29))) (l29 : K.lookup f29 = some ⟨oc29, od29, .func (PySem.W.fnOf "_law_good" "_law_good" (defArgs s_law_good) (defBody s_law_good) (defScope s_law_good) .none kV29 dc29 pm29 an29 cd29 ct29), sl29⟩) (c29 : PySem.W.codeIn K cd29 "_law_good" = true) (k29 : PySem.W.keepIn K (.ref f29) = true)
    (a30 : PySem.W.nsIn K mainGlobals "law" = some (some (.ref f30))) (l30 : K.lookup f30 = some ⟨oc30, od30, .func (PySem.W.fnOf "law" "law" (defArgs s_law) (defBody s_law) (defScope s_law) .none kV30 dc30 pm30 an30 cd30 ct30), sl30⟩) (c30 : PySem.W.codeIn K cd30 "law" = true) (k30 : PySem.W.keepIn K (.ref f30) = true)
    (z0 : PySem.W.nsIn K mainGlobals "enumerate" = some none) (z1 : PySem.W.nsIn K mainGlobals "all" = some none) (z2 : PySem.W.nsIn K mainGlobals "int" = some none) (z3 : PySem.W.nsIn K mainGlobals "sum" = some none) (z4 : PySem.W.nsIn K mainGlobals "range" = some none) (z5 : PySem.W.nsIn K mainGlobals "len" = some none) (z6 : PySem.W.nsIn K mainGlobals "abs" = some none) (z7 : PySem.W.nsIn K mainGlobals "max" = some none) (z8 : PySem.W.nsIn K mainGlobals "min" = some none) (z9 : PySem.W.nsIn K mainGlobals "tuple" = some none) (z10 : PySem.W.nsIn K mainGlobals "isinstance" = some none) (z11 : PySem.W.nsIn K mainGlobals "ValueError" = some none) : Tops P w K mg A where
  B := ⟨PySem.W.mg_none_of X G z0, PySem.W.mg_none_of X G z1, PySem.W.mg_none_of X G z2, PySem.W.mg_none_of X G z3, PySem.W.mg_none_of X G z4, PySem.W.mg_none_of X G z5, PySem.W.mg_none_of X G z6, PySem.W.mg_none_of X G z7, PySem.W.mg_none_of X G z8, PySem.W.mg_none_of X G z9, PySem.W.mg_none_of X G z10, PySem.W.mg_none_of X G z11⟩
  Xa := Xa
  F_place_of := func_mk X G a0 l0 c0 k0 fun _ _ _ _ _ _ us hl => match us, hl with | [_, _], _ => rfl
  F_must_value := func_mk X G a1 l1 c1 k1 fun _ _ _ _ _ _ us hl => match us, hl with | [_, _, _], _ => rfl
  F_inside := func_mk X G a2 l2 c2 k2 fun _ _ _ _ _ _ us hl => match us, hl with | [_], _ => rfl
  F_is_test := func_mk X G a3 l3 c3 k3 fun _ _ _ _ _ _ us hl => match us, hl with | [_], _ => rfl
  F_notes_in := func_mk X G a4 l4 c4 k4 fun _ _ _ _ _ _ us hl => match us, hl with | [_], _ => rfl
  F_must_saying := func_mk X G a5 l5 c5 k5 fun _ _ _ _ _ _ us hl => match us, hl with | [_, _], _ => rfl
  F_must_plain := func_mk X G a6 l6 c6 k6 fun _ _ _ _ _ _ us hl => match us, hl with | [_], _ => rfl
  F_must_tie := func_mk X G a7 l7 c7 k7 fun _ _ _ _ _ _ us hl => match us, hl with | [_, _], _ => rfl
  F_must_net := func_mk X G a8 l8 c8 k8 fun _ _ _ _ _ _ us hl => match us, hl with | [_], _ => rfl
  F_saying_of := func_mk X G a9 l9 c9 k9 fun _ _ _ _ _ _ us hl => match us, hl with | [_], _ => rfl
  F_hops := func_mk X G a10 l10 c10 k10 fun _ _ _ _ _ _ us hl => match us, hl with | [_, _, _], _ => rfl
  F_tables_of := func_mk X G a11 l11 c11 k11 fun _ _ _ _ _ _ us hl => match us, hl with | [_], _ => rfl
  F_law_cell := func_mk X G a12 l12 c12 k12 fun _ _ _ _ _ _ us hl => match us, hl with | [_, _], _ => rfl
  F_law_purse := func_mk X G a13 l13 c13 k13 fun _ _ _ _ _ _ us hl => match us, hl with | [_], _ => rfl
  F_law_take := func_mk X G a14 l14 c14 k14 fun _ _ _ _ _ _ us hl => match us, hl with | [_, _], _ => rfl
  F_law_speech := func_mk X G a15 l15 c15 k15 fun _ _ _ _ _ _ us hl => match us, hl with | [_, _], _ => rfl
  F_law_lone := func_mk X G a16 l16 c16 k16 fun _ _ _ _ _ _ us hl => match us, hl with | [_, _, _], _ => rfl
  F_law_grown := func_mk X G a17 l17 c17 k17 fun _ _ _ _ _ _ us hl => match us, hl with | [_, _, _, _], _ => rfl
  F_law_joined := func_mk X G a18 l18 c18 k18 fun _ _ _ _ _ _ us hl => match us, hl with | [_, _], _ => rfl
  F_law_saying := func_mk X G a19 l19 c19 k19 fun _ _ _ _ _ _ us hl => match us, hl with | [_, _, _], _ => rfl
  F_law_net := func_mk X G a20 l20 c20 k20 fun _ _ _ _ _ _ us hl => match us, hl with | [_, _], _ => rfl
  F_law_is_test := func_mk X G a21 l21 c21 k21 fun _ _ _ _ _ _ us hl => match us, hl with | [_], _ => rfl
  F_law_has_note := func_mk X G a22 l22 c22 k22 fun _ _ _ _ _ _ us hl => match us, hl with | [_], _ => rfl
  F_law_bad := func_mk X G a23 l23 c23 k23 fun _ _ _ _ _ _ us hl => match us, hl with | [_, _], _ => rfl
  F_law_due := func_mk X G a24 l24 c24 k24 fun _ _ _ _ _ _ us hl => match us, hl with | [_], _ => rfl
  F_law_strange := func_mk X G a25 l25 c25 k25 fun _ _ _ _ _ _ us hl => match us, hl with | [_, _, _], _ => rfl
  F_law_spoiled := func_mk X G a26 l26 c26 k26 fun _ _ _ _ _ _ us hl => match us, hl with | [_, _], _ => rfl
  F_law_caught := func_mk X G a27 l27 c27 k27 fun _ _ _ _ _ _ us hl => match us, hl with | [_, _], _ => rfl
  F_law_refused := func_mk X G a28 l28 c28 k28 fun _ _ _ _ _ _ us hl => match us, hl with | [_, _], _ => rfl
  F_law_good := func_mk X G a29 l29 c29 k29 fun _ _ _ _ _ _ us hl => match us, hl with | [_, _], _ => rfl
  F_law := func_mk X G a30 l30 c30 k30 fun _ _ _ _ _ _ us hl => match us, hl with | [_], _ => rfl
section
variable {P : Program} {w : World} {K : PySem.W.Frag} {mg : Str → Option Value} {base : Heap} {A : Str → Addr}
abbrev F_place_of (A : Str → Addr) : Fd := fnM 4 (m_place_of A )
theorem C_place_of (T : Tops P w K mg A) : Cal P w K mg base 3 "place_of" ["speech", "field"] (F_place_of A) := ok_place_of T.B T.Xa T.F_place_of 
abbrev F_must_value (A : Str → Addr) : Fd := fnM 4 (m_must_value A (F_place_of A))
theorem C_must_value (T : Tops P w K mg A) : Cal P w K mg base 4 "must_value" ["speech", "field", "value"] (F_must_value A) := ok_must_value T.B T.Xa T.F_must_value (C_place_of T)
abbrev F_inside : Fd := fnM 1 (m_inside )
theorem C_inside (T : Tops P w K mg A) : Cal P w K mg base 1 "inside" ["saying"] F_inside := ok_inside T.B T.F_inside 
def F_is_test : Nat → Fd
  | 0 => fun _ => .stk
  | k + 1 => fnM 2 (m_is_test F_inside (F_is_test k))
theorem CG_is_test (T : Tops P w K mg A) (k : Nat) : Cal P w K mg base (1 + k) "is_test" ["saying"] (F_is_test k) := by
  induction k with
  | zero => exact cal_stk T.F_is_test sc_is_test
  | succ k ih => exact ok_is_test T.B T.F_is_test (C_inside T) ih
theorem C_is_test (T : Tops P w K mg A) (k : Nat) : Cal P w K mg base (1 + k) "is_test" ["saying"] (F_is_test k) := (CG_is_test T k)
def F_notes_in : Nat → Fd
  | 0 => fun _ => .stk
  | k + 1 => fnM 2 (m_notes_in F_inside (F_notes_in k))
theorem CG_notes_in (T : Tops P w K mg A) (k : Nat) : Cal P w K mg base (1 + k) "notes_in" ["saying"] (F_notes_in k) := by
  induction k with
  | zero => exact cal_stk T.F_notes_in sc_notes_in
  | succ k ih => exact ok_notes_in T.B T.F_notes_in (C_inside T) ih
theorem C_notes_in (T : Tops P w K mg A) (k : Nat) : Cal P w K mg base (1 + k) "notes_in" ["saying"] (F_notes_in k) := (CG_notes_in T k)
def F_must_saying (A : Str → Addr) : Nat → Fd
  | 0 => fun _ => .stk
  | k + 1 => fnM 3 (m_must_saying A (F_must_value A) (F_is_test 70) (F_must_saying A k) F_inside)
theorem CG_must_saying (T : Tops P w K mg A) (k : Nat) : Cal P w K mg base (71 + k) "must_saying" ["speech", "saying"] (F_must_saying A k) := by
  induction k with
  | zero => exact cal_stk T.F_must_saying sc_must_saying
  | succ k ih => exact ok_must_saying T.B T.Xa T.F_must_saying (C_must_value T) (C_is_test T 70) ih (C_inside T)
theorem C_must_saying (T : Tops P w K mg A) (k : Nat) : Cal P w K mg base (71 + k) "must_saying" ["speech", "saying"] (F_must_saying A k) := (CG_must_saying T k)
abbrev F_must_plain (A : Str → Addr) : Fd := fnM 1 (m_must_plain A (F_notes_in 70))
theorem C_must_plain (T : Tops P w K mg A) : Cal P w K mg base 72 "must_plain" ["saying"] (F_must_plain A) := ok_must_plain T.B T.Xa T.F_must_plain (C_notes_in T 70)
abbrev F_must_tie (A : Str → Addr) : Fd := fnM 3 (m_must_tie (F_must_value A))
theorem C_must_tie (T : Tops P w K mg A) : Cal P w K mg base 5 "must_tie" ["speech", "tie"] (F_must_tie A) := ok_must_tie T.B T.F_must_tie (C_must_value T)
abbrev F_must_net (A : Str → Addr) : Fd := fnM 6 (m_must_net A (F_must_saying A 70) (F_must_plain A) (F_must_tie A))
theorem C_must_net (T : Tops P w K mg A) : Cal P w K mg base 142 "must_net" ["net"] (F_must_net A) := ok_must_net T.B T.Xa T.F_must_net (C_must_saying T 70) (C_must_plain T) (C_must_tie T)
abbrev F_saying_of (A : Str → Addr) : Fd := fnM 1 (m_saying_of (F_must_net A))
theorem C_saying_of (T : Tops P w K mg A) : Cal P w K mg base 143 "saying_of" ["net"] (F_saying_of A) := ok_saying_of T.B T.F_saying_of (C_must_net T)
abbrev F_hops (A : Str → Addr) : Fd := fnM 3 (m_hops (F_must_net A))
theorem C_hops (T : Tops P w K mg A) : Cal P w K mg base 143 "hops" ["net", "letter", "count"] (F_hops A) := ok_hops T.B T.F_hops (C_must_net T)
abbrev F_tables_of (A : Str → Addr) : Fd := fnM 2 (m_tables_of (F_must_net A))
theorem C_tables_of (T : Tops P w K mg A) : Cal P w K mg base 143 "tables_of" ["net"] (F_tables_of A) := ok_tables_of T.B T.F_tables_of (C_must_net T)
abbrev F_law_cell : Fd := fnM 2 (m_law_cell )
theorem C_law_cell (T : Tops P w K mg A) : Cal P w K mg base 1 "_law_cell" ["_law_script", "_law_k"] F_law_cell := ok_law_cell T.B T.F_law_cell 
abbrev F_law_purse : Fd := fnM 4 (m_law_purse )
theorem C_law_purse (T : Tops P w K mg A) : Cal P w K mg base 1 "_law_purse" ["_law_cell_here"] F_law_purse := ok_law_purse T.B T.F_law_purse 
abbrev F_law_take : Fd := fnM 4 (m_law_take )
theorem C_law_take (T : Tops P w K mg A) : Cal P w K mg base 1 "_law_take" ["_law_purse_here", "_law_many"] F_law_take := ok_law_take T.B T.F_law_take 
abbrev F_law_speech : Fd := fnM 11 (m_law_speech F_law_purse F_law_take)
theorem C_law_speech (T : Tops P w K mg A) : Cal P w K mg base 2 "_law_speech" ["_law_cell_here", "_law_least"] F_law_speech := ok_law_speech T.B T.F_law_speech (C_law_purse T) (C_law_take T)
abbrev F_law_lone : Fd := fnM 5 (m_law_lone F_law_take)
theorem C_law_lone (T : Tops P w K mg A) : Cal P w K mg base 2 "_law_lone" ["_law_sort", "_law_purse_here", "_law_speech_here"] F_law_lone := ok_law_lone T.B T.F_law_lone (C_law_take T)
abbrev F_law_joined : Fd := fnM 5 (m_law_joined )
theorem C_law_joined (T : Tops P w K mg A) : Cal P w K mg base 1 "_law_joined" ["_law_row", "_law_word"] F_law_joined := ok_law_joined T.B T.F_law_joined 
abbrev F_law_grown : Fd := fnM 8 (m_law_grown F_law_purse F_law_take F_law_joined F_law_lone)
theorem C_law_grown (T : Tops P w K mg A) : Cal P w K mg base 3 "_law_grown" ["_law_row", "_law_cell_here", "_law_speech_here", "_law_most"] F_law_grown := ok_law_grown T.B T.F_law_grown (C_law_purse T) (C_law_take T) (C_law_joined T) (C_law_lone T)
abbrev F_law_saying : Fd := fnM 5 (m_law_saying F_law_grown F_law_joined 64)
theorem C_law_saying (T : Tops P w K mg A) : Cal P w K mg base 4 "_law_saying" ["_law_cells", "_law_speech_here", "_law_most"] F_law_saying := ok_law_saying T.B T.F_law_saying (C_law_grown T) (C_law_joined T) 64
abbrev F_law_net : Fd := fnM 9 (m_law_net F_law_speech F_law_cell F_law_saying F_law_purse F_law_take)
theorem C_law_net (T : Tops P w K mg A) : Cal P w K mg base 5 "_law_net" ["_law_script", "_law_at"] F_law_net := ok_law_net T.B T.F_law_net (C_law_speech T) (C_law_cell T) (C_law_saying T) (C_law_purse T) (C_law_take T)
def F_law_is_test : Nat → Fd
  | 0 => fun _ => .stk
  | k + 1 => fnM 2 (m_law_is_test (F_law_is_test k))
theorem CG_law_is_test (T : Tops P w K mg A) (k : Nat) : Cal P w K mg base (1 + k) "_law_is_test" ["_law_saying_here"] (F_law_is_test k) := by
  induction k with
  | zero => exact cal_stk T.F_law_is_test sc_law_is_test
  | succ k ih => exact ok_law_is_test T.B T.F_law_is_test ih
theorem C_law_is_test (T : Tops P w K mg A) (k : Nat) : Cal P w K mg base (1 + k) "_law_is_test" ["_law_saying_here"] (F_law_is_test k) := (CG_law_is_test T k)
def F_law_has_note : Nat → Fd
  | 0 => fun _ => .stk
  | k + 1 => fnM 2 (m_law_has_note (F_law_has_note k))
theorem CG_law_has_note (T : Tops P w K mg A) (k : Nat) : Cal P w K mg base (1 + k) "_law_has_note" ["_law_saying_here"] (F_law_has_note k) := by
  induction k with
  | zero => exact cal_stk T.F_law_has_note sc_law_has_note
  | succ k ih => exact ok_law_has_note T.B T.F_law_has_note ih
theorem C_law_has_note (T : Tops P w K mg A) (k : Nat) : Cal P w K mg base (1 + k) "_law_has_note" ["_law_saying_here"] (F_law_has_note k) := (CG_law_has_note T k)
def F_law_bad : Nat → Fd
  | 0 => fun _ => .stk
  | k + 1 => fnM 8 (m_law_bad (F_law_is_test 70) (F_law_bad k))
theorem CG_law_bad (T : Tops P w K mg A) (k : Nat) : Cal P w K mg base (71 + k) "_law_bad" ["_law_speech_here", "_law_saying_here"] (F_law_bad k) := by
  induction k with
  | zero => exact cal_stk T.F_law_bad sc_law_bad
  | succ k ih => exact ok_law_bad T.B T.F_law_bad (C_law_is_test T 70) ih
theorem C_law_bad (T : Tops P w K mg A) (k : Nat) : Cal P w K mg base (71 + k) "_law_bad" ["_law_speech_here", "_law_saying_here"] (F_law_bad k) := (CG_law_bad T k)
abbrev F_law_due : Fd := fnM 8 (m_law_due (F_law_bad 70) (F_law_has_note 70))
theorem C_law_due (T : Tops P w K mg A) : Cal P w K mg base 142 "_law_due" ["_law_net_here"] F_law_due := ok_law_due T.B T.F_law_due (C_law_bad T 70) (C_law_has_note T 70)
abbrev F_law_strange : Fd := fnM 7 (m_law_strange F_law_take)
theorem C_law_strange (T : Tops P w K mg A) : Cal P w K mg base 2 "_law_strange" ["_law_purse_here", "_law_speech_here", "_law_rule"] F_law_strange := ok_law_strange T.B T.F_law_strange (C_law_take T)
abbrev F_law_spoiled : Fd := fnM 11 (m_law_spoiled F_law_take F_law_strange)
theorem C_law_spoiled (T : Tops P w K mg A) : Cal P w K mg base 3 "_law_spoiled" ["_law_net_here", "_law_purse_here"] F_law_spoiled := ok_law_spoiled T.B T.F_law_spoiled (C_law_take T) (C_law_strange T)
abbrev F_law_caught (A : Str → Addr) : Fd := fnM 4 (m_law_caught A (F_must_net A) (F_hops A) (F_saying_of A) (F_tables_of A))
theorem C_law_caught (T : Tops P w K mg A) : Cal P w K mg base 144 "_law_caught" ["_law_way", "_law_net_here"] (F_law_caught A) := ok_law_caught T.B T.Xa T.F_law_caught (C_must_net T) (C_hops T) (C_saying_of T) (C_tables_of T)
abbrev F_law_refused (A : Str → Addr) : Fd := fnM 4 (m_law_refused A )
theorem C_law_refused (T : Tops P w K mg A) : Cal P w K mg base 1 "_law_refused" ["_law_e", "_law_due_here"] (F_law_refused A) := ok_law_refused T.B T.Xa T.F_law_refused 
abbrev F_law_good (A : Str → Addr) : Fd := fnM 4 (m_law_good F_law_due (F_must_net A) (F_law_refused A) (F_law_caught A))
theorem C_law_good (T : Tops P w K mg A) : Cal P w K mg base 145 "_law_good" ["_law_net_here", "_law_cell_here"] (F_law_good A) := ok_law_good T.B T.F_law_good (C_law_due T) (C_must_net T) (C_law_refused T) (C_law_caught T)
abbrev F_law (A : Str → Addr) : Fd := fnM 5 (m_law F_law_net (F_law_good A) F_law_purse F_law_spoiled)
theorem C_law (T : Tops P w K mg A) : Cal P w K mg base 146 "law" ["_law_script"] (F_law A) := ok_law T.B T.F_law (C_law_net T) (C_law_good T) (C_law_purse T) (C_law_spoiled T)
abbrev lawF (A : Str → Addr) : Fd := (F_law A)
theorem lawC (T : Tops P w K mg A) : Cal P w K mg base 146 "law" ["_law_script"] (lawF A) := C_law T
end
theorem lawRun (A : Str → Addr) (ns : List Int) (hl : ns.length ≤ 63) : ∃ c, lawF A [.d (.nd .scr (ns.map .int))] = .ok (.d (.bl true)) c := law72_run A ns hl
theorem end_mk {P : Program} {w : World} {K : PySem.W.Frag} {mg : Str → Option Value} {A : Str → Addr} {fa : Addr} (T : Tops P w K mg A) (h0 : Heap) (hfa : mg "law" = some (.ref fa)) : ∃ fd : FuncData, (∀ (s : Shared) (u : Value), BindsTo s fd ⟨[u], []⟩ [("_law_script", u)]) ∧
    ∀ base : Heap, K.In base → base.Ns mainGlobals mg → FnOk P w K mg base (L2.CX P w) 146 fa fd ["_law_script"] (spLaw K) := by
  obtain ⟨fd, b, Gd⟩ := Sw.cal_end (fun base => lawC (P := P) (w := w) (base := base) T) h0 hfa
  exact ⟨fd, fun s v => .of_eq (b [v] rfl), fun base _ _ => (Gd base).imp (law_sp (lawRun A))⟩
end K72
open PySem PySem.W PyProof.Rows
set_option maxRecDepth 100000 in
set_option maxHeartbeats 0 in
theorem PySem.Challenge.cw_switchsay_k72_no_net_holds : PySem.Challenge.rw_switchsay_k72_no_net.Holds := by
  w_on; o_law; k_head; (case hw => w_witness2)
  k_fill
  refine L2.walk_of (l := PySem.Challenge.rw_switchsay_k72_no_net) (n := 63) (k := 146) (x := "_law_script") (CX := fun w => L2.CX PySem.Challenge.pw_switchsay_k72_no_net w) (sp := fun w => Sw.spLaw _) rfl (by decide) rfl ⟨rfl, by decide, by decide⟩ (fun w h Y => PySem.W.kIn_of Y) ?F (fun w H a ns hl ho hs => ⟨a, ns, rfl, hl, ho, hs, fun _ => rfl⟩) (fun _ _ _ _ _ h => Sw.law_cx h)
  case F =>
    intro w mg fa h KX G hmg
    refine' K72.end_mk (K72.all_mk KX G (K72.xall_of KX G ?ya0 ?yl0 ?yr0 ?yb0 ?yo0 ?ya1 ?yl1 ?yr1 ?yb1 ?yi1 ?yt1 ?yf1 ?yc1 ?yk1 ?ya2 ?yl2 ?yr2 ?yb2 ?yi2 ?yt2 ?yf2 ?yc2 ?yk2 ?ya3 ?yl3 ?yr3 ?yb3 ?yi3 ?yt3 ?yf3 ?yc3 ?yk3 ?ya4 ?yl4 ?yr4 ?yb4 ?yi4 ?yt4 ?yf4 ?yc4 ?yk4 ?ya5 ?yl5 ?yr5 ?yb5 ?yi5 ?yt5 ?yf5 ?yc5 ?yk5 ?ya6 ?yl6 ?yr6 ?yb6 ?yo6 ?ycom ?ymat) ?a0 ?l0 ?c0 ?k0 ?a1 ?l1 ?c1 ?k1 ?a2 ?l2 ?c2 ?k2 ?a3 ?l3 ?c3 ?k3 ?a4 ?l4 ?c4 ?k4 ?a5 ?l5 ?c5 ?k5 ?a6 ?l6 ?c6 ?k6 ?a7 ?l7 ?c7 ?k7 ?a8 ?l8 ?c8 ?k8 ?a9 ?l9 ?c9 ?k9 ?a10 ?l10 ?c10 ?k10 ?a11 ?l11 ?c11 ?k11 ?a12 ?l12 ?c12 ?k12 ?a13 ?l13 ?c13 ?k13 ?a14 ?l14 ?c14 ?k14 ?a15 ?l15 ?c15 ?k15 ?a16 ?l16 ?c16 ?k16 ?a17 ?l17 ?c17 ?k17 ?a18 ?l18 ?c18 ?k18 ?a19 ?l19 ?c19 ?k19 ?a20 ?l20 ?c20 ?k20 ?a21 ?l21 ?c21 ?k21 ?a22 ?l22 ?c22 ?k22 ?a23 ?l23 ?c23 ?k23 ?a24 ?l24 ?c24 ?k24 ?a25 ?l25 ?c25 ?k25 ?a26 ?l26 ?c26 ?k26 ?a27 ?l27 ?c27 ?k27 ?a28 ?l28 ?c28 ?k28 ?a29 ?l29 ?c29 ?k29 ?a30 ?l30 ?c30 ?k30 ?z0 ?z1 ?z2 ?z3 ?z4 ?z5 ?z6 ?z7 ?z8 ?z9 ?z10 ?z11) h hmg
    (case ya0 => k_is)
    (case yl0 => k_is)
    (case yr0 => kernel_rfl)
    (case yb0 => kernel_rfl)
    (case yo0 => kernel_rfl)
    (case ya1 => k_is)
    (case yl1 => k_is)
    (case yr1 => kernel_rfl)
    (case yb1 => kernel_rfl)
    (case yi1 => k_is)
    (case yt1 => k_is)
    (case yf1 => k_is)
    (case yc1 => k_is)
    (case yk1 => k_is)
    (case ya2 => k_is)
    (case yl2 => k_is)
    (case yr2 => kernel_rfl)
    (case yb2 => kernel_rfl)
    (case yi2 => k_is)
    (case yt2 => k_is)
    (case yf2 => k_is)
    (case yc2 => k_is)
    (case yk2 => k_is)
    (case ya3 => k_is)
    (case yl3 => k_is)
    (case yr3 => kernel_rfl)
    (case yb3 => kernel_rfl)
    (case yi3 => k_is)
    (case yt3 => k_is)
    (case yf3 => k_is)
    (case yc3 => k_is)
    (case yk3 => k_is)
    (case ya4 => k_is)
    (case yl4 => k_is)
    (case yr4 => kernel_rfl)
    (case yb4 => kernel_rfl)
    (case yi4 => k_is)
    (case yt4 => k_is)
    (case yf4 => k_is)
    (case yc4 => k_is)
    (case yk4 => k_is)
    (case ya5 => k_is)
    (case yl5 => k_is)
    (case yr5 => kernel_rfl)
    (case yb5 => kernel_rfl)
    (case yi5 => k_is)
    (case yt5 => k_is)
    (case yf5 => k_is)
    (case yc5 => k_is)
    (case yk5 => k_is)
    (case ya6 => k_is)
    (case yl6 => k_is)
    (case yr6 => kernel_rfl)
    (case yb6 => kernel_rfl)
    (case yo6 => kernel_rfl)
    (case ycom => kernel_rfl)
    (case ymat => kernel_rfl)
    (case a0 => k_is)
    (case l0 => k_is)
    (case c0 => k_is)
    (case k0 => k_is)
    (case a1 => k_is)
    (case l1 => k_is)
    (case c1 => k_is)
    (case k1 => k_is)
    (case a2 => k_is)
    (case l2 => k_is)
    (case c2 => k_is)
    (case k2 => k_is)
    (case a3 => k_is)
    (case l3 => k_is)
    (case c3 => k_is)
    (case k3 => k_is)
    (case a4 => k_is)
    (case l4 => k_is)
    (case c4 => k_is)
    (case k4 => k_is)
    (case a5 => k_is)
    (case l5 => k_is)
    (case c5 => k_is)
    (case k5 => k_is)
    (case a6 => k_is)
    (case l6 => k_is)
    (case c6 => k_is)
    (case k6 => k_is)
    (case a7 => k_is)
    (case l7 => k_is)
    (case c7 => k_is)
    (case k7 => k_is)
    (case a8 => k_is)
    (case l8 => k_is)
    (case c8 => k_is)
    (case k8 => k_is)
    (case a9 => k_is)
    (case l9 => k_is)
    (case c9 => k_is)
    (case k9 => k_is)
    (case a10 => k_is)
    (case l10 => k_is)
    (case c10 => k_is)
    (case k10 => k_is)
    (case a11 => k_is)
    (case l11 => k_is)
    (case c11 => k_is)
    (case k11 => k_is)
    (case a12 => k_is)
    (case l12 => k_is)
    (case c12 => k_is)
    (case k12 => k_is)
    (case a13 => k_is)
    (case l13 => k_is)
    (case c13 => k_is)
    (case k13 => k_is)
    (case a14 => k_is)
    (case l14 => k_is)
    (case c14 => k_is)
    (case k14 => k_is)
    (case a15 => k_is)
    (case l15 => k_is)
    (case c15 => k_is)
    (case k15 => k_is)
    (case a16 => k_is)
    (case l16 => k_is)
    (case c16 => k_is)
    (case k16 => k_is)
    (case a17 => k_is)
    (case l17 => k_is)
    (case c17 => k_is)
    (case k17 => k_is)
    (case a18 => k_is)
    (case l18 => k_is)
    (case c18 => k_is)
    (case k18 => k_is)
    (case a19 => k_is)
    (case l19 => k_is)
    (case c19 => k_is)
    (case k19 => k_is)
    (case a20 => k_is)
    (case l20 => k_is)
    (case c20 => k_is)
    (case k20 => k_is)
    (case a21 => k_is)
    (case l21 => k_is)
    (case c21 => k_is)
    (case k21 => k_is)
    (case a22 => k_is)
    (case l22 => k_is)
    (case c22 => k_is)
    (case k22 => k_is)
    (case a23 => k_is)
    (case l23 => k_is)
    (case c23 => k_is)
    (case k23 => k_is)
    (case a24 => k_is)
    (case l24 => k_is)
    (case c24 => k_is)
    (case k24 => k_is)
    (case a25 => k_is)
    (case l25 => k_is)
    (case c25 => k_is)
    (case k25 => k_is)
    (case a26 => k_is)
    (case l26 => k_is)
    (case c26 => k_is)
    (case k26 => k_is)
    (case a27 => k_is)
    (case l27 => k_is)
    (case c27 => k_is)
    (case k27 => k_is)
    (case a28 => k_is)
    (case l28 => k_is)
    (case c28 => k_is)
    (case k28 => k_is)
    (case a29 => k_is)
    (case l29 => k_is)
    (case c29 => k_is)
    (case k29 => k_is)
    (case a30 => k_is)
    (case l30 => k_is)
    (case c30 => k_is)
    (case k30 => k_is)
    (case z0 => k_is)
    (case z1 => k_is)
    (case z2 => k_is)
    (case z3 => k_is)
    (case z4 => k_is)
    (case z5 => k_is)
    (case z6 => k_is)
    (case z7 => k_is)
    (case z8 => k_is)
    (case z9 => k_is)
    (case z10 => k_is)
    (case z11 => k_is)
