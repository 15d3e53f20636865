import PyProof.Rows.All
import Wide.All
import OpenK.AllK
import Wide.FinOn
import HandS.ForMost
import HandS.Wide
import HandS.Conv
import HandS.IsInst
import HandS.Style
import HandS.Zip
import HandS.Text
import HandS.StrMore
import HandS.Codes
import KE.KxIndex
import HandS.More
import HandS.DictComp
import HandS.SortInts
import HandS.Defaults
import PyProof.InstNe
import HandS.Property
import HandS.FStr
import KE.KOpsOwn
import HandS.Star
import HandS.TryOnly
import PyProof.Rows.RuleN_abs
import KE.KExcSuper
import HandS.ExcInit
import HandS.WordsExc
import HandS.ExcIs
import HandS.ExcField
import HandS.Replace
import KE.KExcIs
import KE.RegKIsAll
import PySem.Challenge.RW_tugtext_k12_wrong_tokens_anywhere
set_option Elab.async false
set_option linter.all false
set_option maxRecDepth 100000
set_option maxHeartbeats 4000000
/-! # TL: a layer of data over the readings: what a reading does to an environment of plain Lean data. -/
namespace TL
open PySem L2
open PySem.W (Frag)

/-! ### heaps that grow -/
def Ex (B H : Hp) : Prop := ∀ a o, B a = some o → H a = some o
theorem Ex.refl (H : Hp) : Ex H H := fun _ _ h => h
theorem Ex.trans {A B C : Hp} (x : Ex A B) (y : Ex B C) : Ex A C := fun a o h => y a o (x a o h)
theorem Ex.new {H : Hp} {p : Addr} {o : HO} (h : H p = none) : Ex H (upd H p o) := fun a u e => by
  rw [upd_ne (ne_of_none e h)]; exact e
theorem Ex.over {B H : Hp} {p : Addr} {o : HO} (e : Ex B H) (h : B p = none) : Ex B (upd H p o) := fun a u q => by
  rw [upd_ne (ne_of_none q h)]; exact e a u q
theorem Ex.both {B H : Hp} {p : Addr} {o : HO} (e : Ex B H) : Ex (upd B p o) (upd H p o) := fun a u q => by
  by_cases c : a = p
  · subst c; rw [upd_same] at q ⊢; exact q
  · rw [upd_ne c] at q ⊢; exact e a u q
theorem Ex.put {B H : Hp} {p : Addr} {o : HO} (e : Ex B H) (h : H p = some o) : Ex (upd B p o) H := fun a u q => by
  by_cases c : a = p
  · subst c; rw [upd_same] at q; rw [← q]; exact h
  · rw [upd_ne c] at q; exact e a u q
theorem Ex.none {B H : Hp} {p : Addr} (e : Ex B H) (h : H p = Option.none) : B p = Option.none := by
  cases q : B p with
  | none => rfl
  | some o => rw [e p o q] at h; cases h
theorem Ex.rd {B H : Hp} {a : Addr} {u : HO} (e : Ex B H) (h : Rd B a u) : Rd H a u := by
  rcases h with h | ⟨o, h⟩
  · exact .inl (e a _ h)
  · exact .inr ⟨o, e a _ h⟩
theorem Ex.l {K : Frag} {B H : Hp} {a : Addr} {xs : List V} (e : Ex B H) (h : SqL K B a xs) : SqL K H a xs := by
  rcases h with h | h
  · exact .inl (e.rd h)
  · exact .inr h
theorem Ex.t {K : Frag} {B H : Hp} {a : Addr} {xs : List V} (e : Ex B H) (h : SqT K B a xs) : SqT K H a xs := by
  rcases h with h | h
  · exact .inl (e.rd h)
  · exact .inr h

/-! ### pairings -/
section
variable {α β : Type} {F G : α → β → Prop}
theorem pw_mono (h : ∀ a b, F a b → G a b) : ∀ {l : List α} {m : List β}, Paired F l m → Paired G l m
  | _, _, .nil => .nil
  | _, _, .cons x r => .cons (h _ _ x) (pw_mono h r)
theorem pw_len : ∀ {l : List α} {m : List β}, Paired F l m → l.length = m.length
  | _, _, .nil => rfl
  | _, _, .cons _ r => by simp [pw_len r]
theorem pw_getR : ∀ {l : List α} {m : List β} {i : Nat} {b : β}, Paired F l m → m[i]? = some b → ∃ a, l[i]? = some a ∧ F a b
  | _, _, i, b, .nil, h => by simp at h
  | _, _, 0, b, .cons x r, h => by simp at h; subst h; exact ⟨_, by simp, x⟩
  | _, _, i + 1, b, .cons x r, h => by
    obtain ⟨a, h1, h2⟩ := pw_getR (i := i) r (by simpa using h)
    exact ⟨a, by simpa using h1, h2⟩
theorem pw_getL : ∀ {l : List α} {m : List β} {i : Nat} {a : α}, Paired F l m → l[i]? = some a → ∃ b, m[i]? = some b ∧ F a b
  | _, _, i, b, .nil, h => by simp at h
  | _, _, 0, b, .cons x r, h => by simp at h; subst h; exact ⟨_, by simp, x⟩
  | _, _, i + 1, b, .cons x r, h => by
    obtain ⟨a, h1, h2⟩ := pw_getL (i := i) r (by simpa using h)
    exact ⟨a, by simpa using h1, h2⟩
theorem pw_app : ∀ {l l' : List α} {m m' : List β}, Paired F l m → Paired F l' m' → Paired F (l ++ l') (m ++ m')
  | _, _, _, _, .nil, s => s
  | _, _, _, _, .cons x r, s => .cons x (pw_app r s)
theorem pw_take : ∀ {l : List α} {m : List β} (n : Nat), Paired F l m → Paired F (l.take n) (m.take n)
  | _, _, 0, _ => by simp; exact .nil
  | _, _, _ + 1, .nil => .nil
  | _, _, n + 1, .cons x r => .cons x (pw_take n r)
theorem pw_drop : ∀ {l : List α} {m : List β} (n : Nat), Paired F l m → Paired F (l.drop n) (m.drop n)
  | _, _, 0, r => r
  | _, _, _ + 1, .nil => .nil
  | _, _, n + 1, .cons _ r => pw_drop n r
theorem pw_set {a : α} {b : β} (x : F a b) : ∀ {l : List α} {m : List β} (i : Nat), Paired F l m → Paired F (l.set i a) (m.set i b)
  | _, _, _, .nil => .nil
  | _, _, 0, .cons _ r => .cons x r
  | _, _, i + 1, .cons y r => .cons y (pw_set x i r)
theorem pw_dropLast : ∀ {l : List α} {m : List β}, Paired F l m → Paired F l.dropLast m.dropLast := fun {l m} p => by
  rw [List.dropLast_eq_take, List.dropLast_eq_take, pw_len p]; exact pw_take _ p
theorem pw_eraseIdx : ∀ {l : List α} {m : List β} (i : Nat), Paired F l m → Paired F (l.eraseIdx i) (m.eraseIdx i)
  | _, _, _, .nil => .nil
  | _, _, 0, .cons _ r => r
  | _, _, i + 1, .cons y r => .cons y (pw_eraseIdx i r)
theorem pw_snoc {l : List α} {m : List β} {a : α} {b : β} (p : Paired F l m) (x : F a b) : Paired F (l ++ [a]) (m ++ [b]) := pw_app p (.cons x .nil)
theorem pw_rev : ∀ {l : List α} {m : List β}, Paired F l m → Paired F l.reverse m.reverse
  | _, _, .nil => .nil
  | _, _, .cons x r => by rw [List.reverse_cons, List.reverse_cons]; exact pw_snoc (pw_rev r) x
theorem pw_rep {a : α} {b : β} (x : F a b) : ∀ n, Paired F (List.replicate n a) (List.replicate n b)
  | 0 => .nil
  | n + 1 => .cons x (pw_rep x n)
theorem pw_mapI {l : List Int} : Paired (fun (v : V) (x : Int) => v = V.int x) (l.map V.int) l := by
  induction l with
  | nil => exact .nil
  | cons a r ih => exact .cons rfl ih
theorem pw_intEq : ∀ {vs : List V} {l : List Int}, Paired (fun (v : V) (x : Int) => v = V.int x) vs l → vs = l.map V.int
  | _, _, .nil => rfl
  | _, _, .cons x r => by rw [List.map_cons, ← pw_intEq r, x]
end

/-! ### kinds of data: how a value stands for a Lean datum -/
structure Ty (α : Type) where
  rep : Hp → V → α → Prop
  mono : ∀ {B B' : Hp} {v : V} {x : α}, Ex B B' → rep B v x → rep B' v x

section
variable {α β γ δ : Type}
def tI : Ty Int := ⟨fun _ v x => v = .int x, fun _ h => h⟩
def tBo : Ty Bool := ⟨fun _ v x => v = .bl x, fun _ h => h⟩
def tS : Ty Str := ⟨fun _ v x => v = .str x, fun _ h => h⟩
def tN : Ty Unit := ⟨fun _ v _ => v = .non, fun _ h => h⟩
/-- a list of data that nobody changes any more -/
def tL (t : Ty α) : Ty (List α) := ⟨fun B v xs => ∃ a vs, v = .ref a ∧ B a = some (.lst vs) ∧ Paired (t.rep B) vs xs,
  fun e ⟨a, vs, h, s, p⟩ => ⟨a, vs, h, e _ _ s, pw_mono (fun _ _ => t.mono e) p⟩⟩
/-- a tuple of data of one kind -/
def tU (t : Ty α) : Ty (List α) := ⟨fun B v xs => ∃ a vs, v = .ref a ∧ B a = some (.tup vs) ∧ Paired (t.rep B) vs xs,
  fun e ⟨a, vs, h, s, p⟩ => ⟨a, vs, h, e _ _ s, pw_mono (fun _ _ => t.mono e) p⟩⟩
/-- a list that is read alone: a locked one, one of the module's -/
def tLs (K : Frag) (t : Ty α) : Ty (List α) := ⟨fun B v xs => ∃ a vs, v = .ref a ∧ SqL K B a vs ∧ Paired (t.rep B) vs xs,
  fun e ⟨a, vs, h, s, p⟩ => ⟨a, vs, h, e.l s, pw_mono (fun _ _ => t.mono e) p⟩⟩
def tP (t : Ty α) (u : Ty β) : Ty (α × β) := ⟨fun B v x => ∃ a p q, v = .ref a ∧ B a = some (.tup [p, q]) ∧ t.rep B p x.1 ∧ u.rep B q x.2,
  fun e ⟨a, p, q, h, s, h1, h2⟩ => ⟨a, p, q, h, e _ _ s, t.mono e h1, u.mono e h2⟩⟩
def tP3 (t : Ty α) (u : Ty β) (r : Ty γ) : Ty (α × β × γ) := ⟨fun B v x => ∃ a p q z, v = .ref a ∧ B a = some (.tup [p, q, z]) ∧ t.rep B p x.1 ∧ u.rep B q x.2.1 ∧ r.rep B z x.2.2,
  fun e ⟨a, p, q, z, h, s, h1, h2, h3⟩ => ⟨a, p, q, z, h, e _ _ s, t.mono e h1, u.mono e h2, r.mono e h3⟩⟩
def tP4 (t : Ty α) (u : Ty β) (r : Ty γ) (s : Ty δ) : Ty (α × β × γ × δ) := ⟨fun B v x => ∃ a p q z y, v = .ref a ∧ B a = some (.tup [p, q, z, y]) ∧ t.rep B p x.1 ∧ u.rep B q x.2.1 ∧ r.rep B z x.2.2.1 ∧ s.rep B y x.2.2.2,
  fun e ⟨a, p, q, z, y, h, ss, h1, h2, h3, h4⟩ => ⟨a, p, q, z, y, h, e _ _ ss, t.mono e h1, u.mono e h2, r.mono e h3, s.mono e h4⟩⟩
/-- None, or a datum -/
def tO (t : Ty α) : Ty (Option α) := ⟨fun B v x => match x with
  | none => v = .non
  | some y => t.rep B v y, fun {B B' v x} e h => by
    cases x with
    | none => exact h
    | some y => exact t.mono e h⟩
end

/-! ### the environment -/
/-- what an object of one's own is -/
structure Rs where
  R : Addr → Hp → HO → Prop
  mono : ∀ {l : Addr} {B B' : Hp} {o : HO}, Ex B B' → R l B o → R l B' o
inductive Ent : Type 1 where
  | no
  | im {α : Type} (t : Ty α) (x : α)
  | mu (r : Rs)
  | pen
  /-- a name for what another name owns -/
  | al (a : Addr)
  /-- a list of one's own lists, which lie at as -/
  | mm {α : Type} (t : Ty α) (as : List Addr) (xss : List (List α))
abbrev Env := List Ent
/-- a list that one may still change -/
def rL {α : Type} (t : Ty α) (xs : List α) : Rs := ⟨fun _ B o => ∃ vs, o = .lst vs ∧ Paired (t.rep B) vs xs, fun e ⟨vs, h, p⟩ => ⟨vs, h, pw_mono (fun _ _ => t.mono e) p⟩⟩
abbrev Ent.ml {α : Type} (t : Ty α) (xs : List α) : Ent := .mu (rL t xs)
/-- a dict with whole-number keys that one may still change -/
def rD {α : Type} (t : Ty α) (xs : List (Int × α)) : Rs := ⟨fun _ B o => ∃ kvs : List (Key × V), o = .dK kvs ∧ Paired (fun (p : Key × V) (q : Int × α) => p.1 = .inl q.1 ∧ t.rep B p.2 q.2) kvs xs,
  fun e ⟨vs, h, p⟩ => ⟨vs, h, pw_mono (fun _ _ ⟨h1, h2⟩ => ⟨h1, t.mono e h2⟩) p⟩⟩
abbrev Ent.md {α : Type} (t : Ty α) (xs : List (Int × α)) : Ent := .mu (rD t xs)

/-- d: where the pen lies; B0, H0: what stood at the def's entry -/
structure Wd where
  d : Addr
  ca : Addr
  cs : List Int
  B0 : Hp
  H0 : Hp

def penKV (c : Addr) (a l : Int) : List (Key × V) := [(.inr "cells", .ref c), (.inr "at", .int a), (.inr "left", .int l)]
/-- the source of draws, n draws at most are done -/
structure PenAt (B H : Hp) (w : Wd) (n : Nat) : Prop where
  fr : B w.d = none
  st : ∃ (a l : Int), H w.d = some (.dK (penKV w.ca a l)) ∧ B w.ca = some (.lst (w.cs.map V.int)) ∧ w.cs.length ≤ 63 ∧ 0 ≤ a ∧ a ≤ n ∧ 0 ≤ l

/-- one of the lists within a list of one's own -/
def Kid {α : Type} (w : Wd) (B H : Hp) (t : Ty α) (a : Addr) (xs : List α) : Prop := ∃ vs, H a = some (.lst vs) ∧ Paired (t.rep B) vs xs ∧ B a = none ∧ w.H0 a = none
def SlotOk (w : Wd) (B H : Hp) : Ent → Option (Option V) → Prop
  | .no, _ => True
  | .im t x, s => ∃ v, s = some (some v) ∧ t.rep B v x
  | .mu r, s => ∃ l o, s = some (some (.ref l)) ∧ H l = some o ∧ B l = none ∧ w.H0 l = none ∧ r.R l B o
  | .pen, s => s = some (some (.ref w.d))
  | .al a, s => s = some (some (.ref a))
  | .mm t as xss, s => ∃ l, s = some (some (.ref l)) ∧ H l = some (.lst (as.map V.ref)) ∧ B l = none ∧ w.H0 l = none ∧ (l :: as).Nodup ∧ Paired (Kid w B H t) as xss
/-- what a name owns -/
def Ent.owns : Ent → Option (Option V) → Addr → Prop
  | .mu _, s, a => s = some (some (.ref a))
  | .mm _ as _, s, a => s = some (some (.ref a)) ∨ a ∈ as
  | _, _, _ => False

structure Ok (K : Frag) (w : Wd) (n : Option Nat) (Γ : Env) (σ : L2.St) (B H : Hp) : Prop where
  ex : Ex B H
  ex0 : Ex w.B0 B
  nw : ∀ a o, B a = some o → w.B0 a = some o ∨ w.H0 a = none
  kp : ∀ a o, w.H0 a = some o → a ≠ w.d → H a = some o
  hd : (w.H0 w.d).isSome = true
  hh : (H w.d).isSome = true
  pn : ∀ k, n = some k → PenAt B H w k
  ln : Γ.length = σ.length
  sl : ∀ (i : Nat) e, Γ[i]? = some e → SlotOk w B H e σ[i]?
  ds : ∀ (i j : Nat) e e' a, i ≠ j → Γ[i]? = some e → Γ[j]? = some e' → e.owns σ[i]? a → ¬ e'.owns σ[j]? a

section
variable {K : Frag} {w w' : Wd} {n : Option Nat} {Γ : Env} {σ : L2.St} {B H B' H' : Hp} {α : Type} {t : Ty α} {x : α} {v : V}
theorem pw_kid {as : List Addr} {xss : List (List α)} (p : Paired (Kid w B H t) as xss) : ∀ a ∈ as, ∃ vs, H a = some (.lst vs) ∧ B a = none ∧ w.H0 a = none := by
  induction p with
  | nil => intro a h; cases h
  | cons h r ih =>
    intro a ha
    rcases List.mem_cons.mp ha with rfl | ha
    · obtain ⟨vs, h1, _, h3, h4⟩ := h; exact ⟨vs, h1, h3, h4⟩
    · exact ih a ha
theorem pw_kids {as : List Addr} {xss : List (List α)} (p : Paired (Kid w B H t) as xss) (eb : Ex B B') (h : ∀ a ∈ as, H' a = H a ∧ B' a = none ∧ w'.H0 a = none) : Paired (Kid w' B' H' t) as xss := by
  induction p with
  | nil => exact .nil
  | cons k r ih =>
    obtain ⟨vs, h1, h2, _⟩ := k
    obtain ⟨g1, g2, g3⟩ := h _ List.mem_cons_self
    exact .cons ⟨vs, by rw [g1]; exact h1, pw_mono (fun _ _ => t.mono eb) h2, g2, g3⟩ (ih fun a ha => h a (List.mem_cons_of_mem _ ha))
/-- what is owned stands in the heap, new and open -/
theorem SlotOk.owned {e : Ent} {s : Option (Option V)} {a : Addr} (h : SlotOk w B H e s) (ho : e.owns s a) : ∃ o, H a = some o ∧ B a = none ∧ w.H0 a = none := by
  cases e with
  | mu r =>
    obtain ⟨l, o, h1, h2, h3, h4, _⟩ := h
    have : some (some (V.ref l)) = some (some (V.ref a)) := h1.symm.trans ho
    cases this
    exact ⟨o, h2, h3, h4⟩
  | mm t as xss =>
    obtain ⟨l, h1, h2, h3, h4, _, p⟩ := h
    rcases ho with ho | ho
    · have : some (some (V.ref l)) = some (some (V.ref a)) := h1.symm.trans ho
      cases this
      exact ⟨_, h2, h3, h4⟩
    · obtain ⟨vs, q1, q2, q3⟩ := pw_kid p a ho
      exact ⟨_, q1, q2, q3⟩
  | no => exact ho.elim
  | im t x => exact ho.elim
  | pen => exact ho.elim
  | al a => exact ho.elim
/-- what is owned stays as it is: so does the name -/
theorem SlotOk.keep {e : Ent} {s : Option (Option V)} (h : SlotOk w B H e s) (eb : Ex B B') (hd : w'.d = w.d) (k : ∀ a, e.owns s a → H' a = H a ∧ B' a = none ∧ w'.H0 a = none) : SlotOk w' B' H' e s := by
  cases e with
  | no => trivial
  | im t x => obtain ⟨v, h1, h2⟩ := h; exact ⟨v, h1, t.mono eb h2⟩
  | pen =>
    show s = _
    rw [hd]; exact h
  | al a => exact h
  | mu r =>
    obtain ⟨l, o, h1, h2, h3, h4, h5⟩ := h
    obtain ⟨g1, g2, g3⟩ := k l h1
    exact ⟨l, o, h1, by rw [g1]; exact h2, g2, g3, r.mono eb h5⟩
  | mm t as xss =>
    obtain ⟨l, h1, h2, h3, h4, h5, p⟩ := h
    obtain ⟨g1, g2, g3⟩ := k l (.inl h1)
    exact ⟨l, h1, by rw [g1]; exact h2, g2, g3, h5, pw_kids p eb fun a ha => k a (.inr ha)⟩
/-- the heap grows -/
structure Grow (B H B' H' : Hp) : Prop where
  ex : Ex B' H'
  b : Ex B B'
  h : Ex H H'
  nw : ∀ a o, B' a = some o → B a = some o ∨ H a = none
theorem Grow.refl (e : Ex B H) : Grow B H B H := ⟨e, Ex.refl _, Ex.refl _, fun _ _ h => .inl h⟩
theorem Grow.trans {B2 H2 : Hp} (a : Grow B H B' H') (b : Grow B' H' B2 H2) : Grow B H B2 H2 := ⟨b.ex, a.b.trans b.b, a.h.trans b.h, fun x o h => by
  rcases b.nw x o h with q | q
  · exact a.nw x o q
  · exact .inr (a.h.none q)⟩
/-- a new thing, at once frozen -/
theorem Grow.new {p : Addr} {o : HO} (e : Ex B H) (h : H p = none) : Grow B H (upd B p o) (upd H p o) := ⟨e.both, Ex.new (e.none h), Ex.new h, fun a u q => by
  by_cases c : a = p
  · subst c; exact .inr h
  · rw [upd_ne c] at q; exact .inl q⟩
/-- a new thing, left open -/
theorem Grow.open {p : Addr} {o : HO} (e : Ex B H) (h : H p = none) : Grow B H B (upd H p o) := ⟨e.over (e.none h), Ex.refl _, Ex.new h, fun a u q => .inl q⟩
theorem Grow.none {a : Addr} {o : HO} (g : Grow B H B' H') (h1 : B a = Option.none) (h2 : H a = some o) : B' a = Option.none := by
  cases q : B' a with
  | none => rfl
  | some u =>
    rcases g.nw a u q with z | z
    · rw [h1] at z; cases z
    · rw [h2] at z; cases z
theorem SlotOk.grow {e : Ent} {s : Option (Option V)} (g : Grow B H B' H') (h : SlotOk w B H e s) : SlotOk w B' H' e s := h.keep g.b rfl fun a ha => by
  obtain ⟨o, h1, h2, h3⟩ := h.owned ha
  exact ⟨by rw [h1, g.h _ _ h1], g.none h2 h1, h3⟩
theorem PenAt.grow {k : Nat} (g : Grow B H B' H') (h : PenAt B H w k) : PenAt B' H' w k := by
  obtain ⟨fr, a, l, h1, h2, h3⟩ := h
  refine ⟨?_, a, l, g.h _ _ h1, g.b _ _ h2, h3⟩
  cases q : B' w.d with
  | none => rfl
  | some u =>
    rcases g.nw w.d u q with z | z
    · rw [fr] at z; cases z
    · rw [h1] at z; cases z
theorem PenAt.le {k k' : Nat} (h : PenAt B H w k) (e : k ≤ k') : PenAt B H w k' := by
  obtain ⟨fr, a, l, h1, h2, h3, h4, h5, h6⟩ := h
  exact ⟨fr, a, l, h1, h2, h3, h4, by omega, h6⟩
theorem PenAt.cast {w' : Wd} {k : Nat} (h : PenAt B H w k) (e1 : w'.d = w.d) (e2 : w'.ca = w.ca) (e3 : w'.cs = w.cs) : PenAt B H w' k := by
  obtain ⟨fr, a, l, h1, h2, h3⟩ := h
  exact ⟨by rw [e1]; exact fr, a, l, by rw [e1, e2]; exact h1, by rw [e2, e3]; exact h2, by rw [e3]; exact h3⟩
theorem isS {α : Type} {x : Option α} {a : α} (h : x = some a) : x.isSome = true := by rw [h]; rfl
theorem noS {α : Type} {x : Option α} (h : x = none) (h' : x.isSome = true) : False := by rw [h] at h'; cases h'
theorem Ok.grow (h : Ok K w n Γ σ B H) (g : Grow B H B' H') : Ok K w n Γ σ B' H' where
  ex := g.ex
  ex0 := h.ex0.trans g.b
  nw := fun a o q => by
    rcases g.nw a o q with z | z
    · exact h.nw a o z
    · have c : a ≠ w.d := fun c => noS z (c ▸ h.hh)
      right
      cases e : w.H0 a with
      | none => rfl
      | some u => rw [h.kp a u e c] at z; cases z
  kp := fun a o q c => g.h a o (h.kp a o q c)
  hd := h.hd
  hh := by
    obtain ⟨o, q⟩ := Option.isSome_iff_exists.mp h.hh
    exact isS (g.h _ _ q)
  pn := fun k e => (h.pn k e).grow g
  ln := h.ln
  sl := fun i e q => (h.sl i e q).grow g
  ds := h.ds
/-- an address of one's own -/
structure Own (w : Wd) (Γ : Env) (σ : L2.St) (B H : Hp) (r : Rs) (l : Addr) : Prop where
  ob : ∃ o, H l = some o ∧ r.R l B o
  b : B l = none
  h0 : w.H0 l = none
  df : ∀ (i : Nat) e, Γ[i]? = some e → ¬ e.owns σ[i]? l
theorem Own.ned (h : Own w Γ σ B H r l) (k : Ok K w n Γ σ B H) : l ≠ w.d := fun c => noS h.h0 (c ▸ k.hd)
theorem Own.grow {r : Rs} {l : Addr} (g : Grow B H B' H') (h : Own w Γ σ B H r l) : Own w Γ σ B' H' r l := by
  obtain ⟨⟨o, h1, h2⟩, hb, h0, df⟩ := h
  exact ⟨⟨o, g.h _ _ h1, r.mono g.b h2⟩, g.none hb h1, h0, df⟩
theorem Own.new {r : Rs} {l : Addr} {o : HO} (k : Ok K w n Γ σ B H) (h : H l = none) (hr : r.R l B o) : Own w Γ σ B (upd H l o) r l := by
  have c : l ≠ w.d := fun c => noS h (c ▸ k.hh)
  refine ⟨⟨o, upd_same, hr⟩, k.ex.none h, ?_, fun i e he z => ?_⟩
  · cases e : w.H0 l with
    | none => rfl
    | some u => rw [k.kp l u e c] at h; cases h
  · obtain ⟨o', h2, _⟩ := (k.sl i _ he).owned z
    rw [h] at h2; cases h2
/-- names that own no more than before -/
theorem Ok.ds_of {Γ' : Env} {σ' : L2.St} (k : Ok K w n Γ σ B H) (h : ∀ (x : Nat) e, Γ'[x]? = some e → (∀ a, ¬ e.owns σ'[x]? a) ∨ ∃ e0, Γ[x]? = some e0 ∧ ∀ a, e.owns σ'[x]? a → e0.owns σ[x]? a) :
    ∀ (i j : Nat) e e' a, i ≠ j → Γ'[i]? = some e → Γ'[j]? = some e' → e.owns σ'[i]? a → ¬ e'.owns σ'[j]? a := fun i j e e' a ne hi hj oi oj => by
  rcases h i e hi with z | ⟨e0, z1, z2⟩
  · exact z a oi
  rcases h j e' hj with y | ⟨e1, y1, y2⟩
  · exact y a oj
  exact k.ds i j e0 e1 a ne z1 y1 (z2 a oi) (y2 a oj)
/-- one thing of one's own changes -/
theorem Ok.chg {Γ' : Env} {l : Addr} {o : HO} (k : Ok K w n Γ σ B H) (b : B l = none) (h0 : w.H0 l = none) (ln : Γ'.length = Γ.length)
    (hs : ∀ (j : Nat) e, Γ'[j]? = some e → SlotOk w B (upd H l o) e σ[j]? ∨ (Γ[j]? = some e ∧ ¬ e.owns σ[j]? l)) (hds : ∀ (x : Nat) e, Γ'[x]? = some e → (∀ a, ¬ e.owns σ[x]? a) ∨ ∃ e0, Γ[x]? = some e0 ∧ ∀ a, e.owns σ[x]? a → e0.owns σ[x]? a) :
    Ok K w n Γ' σ B (upd H l o) := by
  have c : l ≠ w.d := fun c => noS h0 (c ▸ k.hd)
  refine ⟨k.ex.over b, k.ex0, k.nw, fun a u e ne => ?_, k.hd, ?_, fun m e => ?_, by rw [ln]; exact k.ln, fun j e he => ?_, k.ds_of hds⟩
  · rw [upd_ne (fun z => by rw [z] at e; rw [h0] at e; cases e)]; exact k.kp a u e ne
  · rw [upd_ne (Ne.symm c)]; exact k.hh
  · obtain ⟨fr, a, b, p1, p2⟩ := k.pn m e
    exact ⟨fr, a, b, by rw [upd_ne (Ne.symm c)]; exact p1, p2⟩
  · rcases hs j e he with z | ⟨z1, z2⟩
    · exact z
    · have s := k.sl j e z1
      refine s.keep (Ex.refl _) rfl fun a ha => ?_
      obtain ⟨o', h1, h2, h3⟩ := s.owned ha
      have ne : a ≠ l := fun q => z2 (by rw [← q]; exact ha)
      exact ⟨by rw [upd_ne ne], h2, h3⟩
/-- what is one's own changes -/
theorem Ok.put {r r' : Rs} {l : Addr} {o : HO} {i : Nat} (k : Ok K w n Γ σ B H) (hi : Γ[i]? = some (.mu r)) (hv : σ[i]? = some (some (.ref l))) (hr : r'.R l B o) : Ok K w n (Γ.set i (.mu r')) σ B (upd H l o) := by
  obtain ⟨l', o', h1, h2, h3, h4, h5⟩ := k.sl i _ hi
  rw [hv] at h1; cases h1
  have il : i < Γ.length := (List.getElem?_eq_some_iff.mp hi).1
  refine k.chg h3 h4 (by rw [List.length_set]) (fun j e he => ?_) (fun x e hx => ?_)
  · rw [List.getElem?_set] at he
    by_cases z : i = j
    · subst z
      rw [if_pos rfl, if_pos il] at he
      cases he
      exact .inl ⟨l, o, hv, upd_same, h3, h4, hr⟩
    · rw [if_neg z] at he
      exact .inr ⟨he, k.ds i j _ _ l z hi he hv⟩
  · rw [List.getElem?_set] at hx
    by_cases z : i = x
    · subst z
      rw [if_pos rfl, if_pos il] at hx
      cases hx
      exact .inr ⟨_, hi, fun a ha => ha⟩
    · rw [if_neg z] at hx
      exact .inr ⟨e, hx, fun a ha => ha⟩
/-- a slot is given what owns nothing -/
theorem Ok.setN {i : Nat} {e0 : Ent} (k : Ok K w n Γ σ B H) (no : ∀ s a, ¬ e0.owns s a) (h : SlotOk w B H e0 (some (some v))) : Ok K w n (Γ.set i e0) (σ.set i (some v)) B H := by
  refine ⟨k.ex, k.ex0, k.nw, k.kp, k.hd, k.hh, k.pn, by rw [List.length_set, List.length_set]; exact k.ln, fun j e he => ?_, k.ds_of fun x e hx => ?_⟩
  · rw [List.getElem?_set] at he
    by_cases z : i = j
    · subst z
      rw [if_pos rfl] at he
      split at he
      · rename_i il
        cases he
        rw [List.getElem?_set, if_pos rfl, if_pos (by rw [← k.ln]; exact il)]
        exact h
      · cases he
    · rw [if_neg z] at he
      rw [List.getElem?_set, if_neg z]
      exact k.sl j e he
  · rw [List.getElem?_set] at hx
    by_cases z : i = x
    · subst z
      rw [if_pos rfl] at hx
      split at hx
      · cases hx; exact .inl fun a => no _ a
      · cases hx
    · rw [if_neg z] at hx
      rw [List.getElem?_set, if_neg z]
      exact .inr ⟨e, hx, fun a ha => ha⟩
/-- a slot is given a datum -/
theorem Ok.setIm {i : Nat} (k : Ok K w n Γ σ B H) (h : t.rep B v x) : Ok K w n (Γ.set i (.im t x)) (σ.set i (some v)) B H := k.setN (e0 := .im t x) (fun _ _ z => z) ⟨v, rfl, h⟩
/-- a slot is given another name's thing -/
theorem Ok.setAl {i : Nat} {a : Addr} (k : Ok K w n Γ σ B H) : Ok K w n (Γ.set i (.al a)) (σ.set i (some (.ref a))) B H := k.setN (e0 := .al a) (fun _ _ z => z) rfl
/-- a slot is given what owns new things -/
theorem Ok.setO {i : Nat} {e0 : Ent} (k : Ok K w n Γ σ B H) (h : SlotOk w B H e0 (some (some v))) (df : ∀ a, e0.owns (some (some v)) a → ∀ (i : Nat) e, Γ[i]? = some e → ¬ e.owns σ[i]? a) : Ok K w n (Γ.set i e0) (σ.set i (some v)) B H := by
  refine ⟨k.ex, k.ex0, k.nw, k.kp, k.hd, k.hh, k.pn, by rw [List.length_set, List.length_set]; exact k.ln, fun j e he => ?_, fun p q e e' a ne hp hq op oq => ?_⟩
  · rw [List.getElem?_set] at he
    by_cases z : i = j
    · subst z
      rw [if_pos rfl] at he
      split at he
      · rename_i il
        cases he
        rw [List.getElem?_set, if_pos rfl, if_pos (by rw [← k.ln]; exact il)]
        exact h
      · cases he
    · rw [if_neg z] at he
      rw [List.getElem?_set, if_neg z]
      exact k.sl j e he
  · have old : ∀ (x' : Nat) e, (Γ.set i e0)[x']? = some e → (i = x' ∧ e = e0 ∧ (σ.set i (some v))[x']? = some (some v)) ∨ (Γ[x']? = some e ∧ i ≠ x' ∧ (σ.set i (some v))[x']? = σ[x']?) := fun x' s hx => by
      rw [List.getElem?_set] at hx
      by_cases z : i = x'
      · subst z
        rw [if_pos rfl] at hx
        split at hx
        · rename_i il
          cases hx
          exact .inl ⟨rfl, rfl, by rw [List.getElem?_set, if_pos rfl, if_pos (by rw [← k.ln]; exact il)]⟩
        · cases hx
      · rw [if_neg z] at hx
        exact .inr ⟨hx, z, by rw [List.getElem?_set, if_neg z]⟩
    rcases old p e hp with ⟨i1, rfl, e1⟩ | ⟨e1, n1, f1⟩ <;> rcases old q e' hq with ⟨i2, e2', e2⟩ | ⟨e2, n2, f2⟩
    · exact absurd (i1.symm.trans i2) ne
    · rw [e1] at op; rw [f2] at oq
      exact df a op q e' e2 oq
    · subst e2'
      rw [e2] at oq; rw [f1] at op
      exact df a oq p e e1 op
    · rw [f1] at op; rw [f2] at oq
      exact k.ds p q e e' a ne e1 e2 op oq
/-- a slot is given what is one's own -/
theorem Ok.setMu {i : Nat} {r : Rs} {l : Addr} (k : Ok K w n Γ σ B H) (h : Own w Γ σ B H r l) : Ok K w n (Γ.set i (.mu r)) (σ.set i (some (.ref l))) B H := by
  obtain ⟨⟨o, h1, h2⟩, h3, h4, h5⟩ := h
  exact k.setO (e0 := .mu r) ⟨l, o, rfl, h1, h3, h4, h2⟩ fun a ha j e he z => by
    have : some (some (V.ref l)) = some (some (V.ref a)) := ha
    cases this
    exact h5 j e he z
/-- things of one's own are frozen -/
theorem Ok.frz {Γ' : Env} {B' : Hp} (k : Ok K w n Γ σ B H) (eb : Ex B B') (hB : ∀ a o, B' a = some o → B a = some o ∨ (H a = some o ∧ w.H0 a = none)) (ln : Γ'.length = Γ.length)
    (hs : ∀ (j : Nat) e, Γ'[j]? = some e → e = .no ∨ (Γ[j]? = some e ∧ ∀ a, e.owns σ[j]? a → B' a = none)) : Ok K w n Γ' σ B' H := by
  refine ⟨fun a o q => ?_, k.ex0.trans eb, fun a u e => ?_, k.kp, k.hd, k.hh, fun m e => ?_, by rw [ln]; exact k.ln, fun j e he => ?_, k.ds_of fun x e hx => ?_⟩
  · rcases hB a o q with z | z
    · exact k.ex a o z
    · exact z.1
  · rcases hB a u e with z | z
    · exact k.nw a u z
    · exact .inr z.2
  · obtain ⟨fr, a, b, p1, p2, p3⟩ := k.pn m e
    refine ⟨?_, a, b, p1, eb _ _ p2, p3⟩
    cases q : B' w.d with
    | none => rfl
    | some u =>
      rcases hB w.d u q with z | z
      · rw [fr] at z; cases z
      · exact (noS z.2 k.hd).elim
  · rcases hs j e he with rfl | ⟨z1, z2⟩
    · trivial
    · have s := k.sl j e z1
      refine s.keep eb rfl fun a ha => ?_
      obtain ⟨o, h1, h2, h3⟩ := s.owned ha
      exact ⟨rfl, z2 a ha, h3⟩
  · rcases hs x e hx with rfl | ⟨z1, z2⟩
    · exact .inl fun a z => z
    · exact .inr ⟨e, z1, fun a ha => ha⟩
/-- what is one's own is frozen -/
theorem Ok.freeze {i : Nat} {r : Rs} {l : Addr} (k : Ok K w n Γ σ B H) (hi : Γ[i]? = some (.mu r)) (hv : σ[i]? = some (some (.ref l))) :
    ∃ o, H l = some o ∧ r.R l B o ∧ Ex B (upd B l o) ∧ Ok K w n (Γ.set i .no) σ (upd B l o) H := by
  obtain ⟨l', o, h1, h2, h3, h4, h5⟩ := k.sl i _ hi
  rw [hv] at h1; cases h1
  have eb : Ex B (upd B l o) := Ex.new h3
  refine ⟨o, h2, h5, eb, k.frz eb (fun a u e => ?_) (by rw [List.length_set]) fun j e he => ?_⟩
  · by_cases z : a = l
    · subst z; rw [upd_same] at e; cases e; exact .inr ⟨h2, h4⟩
    · rw [upd_ne z] at e; exact .inl e
  · rw [List.getElem?_set] at he
    by_cases z : i = j
    · subst z
      rw [if_pos rfl] at he
      split at he
      · cases he; exact .inl rfl
      · cases he
    · rw [if_neg z] at he
      refine .inr ⟨he, fun a ha => ?_⟩
      have ne : a ≠ l := fun q => k.ds i j _ _ l z hi he hv (by rw [← q]; exact ha)
      rw [upd_ne ne]
      obtain ⟨_, _, hb, _⟩ := (k.sl j e he).owned ha
      exact hb
theorem Ok.same {Γ' : Env} (k : Ok K w n Γ σ B H) (ln : Γ'.length = Γ.length) (h : ∀ (i : Nat) e, Γ'[i]? = some e → e = .no ∨ Γ[i]? = some e) : Ok K w n Γ' σ B H :=
  k.frz (Ex.refl _) (fun a o q => .inl q) ln fun j e he => by
    rcases h j e he with rfl | z
    · exact .inl rfl
    · exact .inr ⟨z, fun a ha => by obtain ⟨_, _, hb, _⟩ := (k.sl j e z).owned ha; exact hb⟩
/-- less is known of a slot -/
theorem Ok.drop {i : Nat} (k : Ok K w n Γ σ B H) : Ok K w n (Γ.set i .no) σ B H := k.same (by rw [List.length_set]) fun x' s hx => by
  rw [List.getElem?_set] at hx
  by_cases z : i = x'
  · subst z; rw [if_pos rfl] at hx; split at hx
    · cases hx; exact .inl rfl
    · cases hx
  · rw [if_neg z] at hx; exact .inr hx
theorem Ok.le {k k' : Nat} (h : Ok K w (some k) Γ σ B H) (e : k ≤ k') : Ok K w (some k') Γ σ B H :=
  ⟨h.ex, h.ex0, h.nw, h.kp, h.hd, h.hh, fun m q => by cases q; exact (h.pn k rfl).le e, h.ln, h.sl, h.ds⟩
end
end TL

/-! # TL: judgements, and the rules of expressions -/
namespace TL
open PySem L2
open PySem.W (Frag)

/-! ### rules of operators that leave the kinds open -/
section
variable {X : Cx}
theorem opOr {f : Value → Value → Sem Value} {r s : R2} (h1 : OpR X f r) (h2 : OpR X f s) : OpR X f (fun x y H Q => r x y H Q ∨ s x y H Q) := fun pins s σ H x y u v Q I rx ry h => by
  rcases h with h | h
  · exact h1 pins s σ H x y u v Q I rx ry h
  · exact h2 pins s σ H x y u v Q I rx ry h
theorem callOr {f : Value} {r s : List V → Hp → VK → Prop} (h1 : CallR X f r) (h2 : CallR X f s) : CallR X f (fun x H Q => r x H Q ∨ s x H Q) := fun pins s σ H x us Q I rx h => by
  rcases h with h | h
  · exact h1 pins s σ H x us Q I rx h
  · exact h2 pins s σ H x us Q I rx h
theorem piOr {tg e : Expr} {a b : TI} (h1 : PI X tg e a) (h2 : PI X tg e b) : PI X tg e (fun σ H R => a σ H R ∨ b σ H R) := ⟨fun pins s σ H R I h => by
  rcases h with h | h
  · exact h1.run pins s σ H R I h
  · exact h2.run pins s σ H R I h⟩
def rAddS : R2 := fun x y H Q => ∃ i j, x = .str i ∧ y = .str j ∧ i.length + j.length ≤ sizeLine ∧ Q (.str (i ++ j)) H
/-- + of ints, texts, lists -/
def rAddU : R2 := fun x y H Q => rI0 (fun i j => .int (i + j)) x y H Q ∨ (rAddS x y H Q ∨ rCat x y H Q)
theorem op_addU : OpR X (binaryOp .Add) rAddU := opOr op_add (opOr op_add_str op_cat)
def rMulU : R2 := fun x y H Q => rI CMulW (fun i j => .int (i * j)) x y H Q ∨ (rI CMul (fun i j => .int (i * j)) x y H Q ∨ rRep x y H Q)
theorem op_mulU : OpR X (binaryOp .Mult) rMulU := opOr op_mulW (opOr op_mul op_rep)
def rSubI : R2 := rI0 fun i j => .int (i - j)
theorem op_subU : OpR X (binaryOp .Sub) rSubI := op_sub
def rDivU : R2 := fun x y H Q => rI CDivW (fun i j => .int (i / j)) x y H Q ∨ rI CDivN (fun i j => .int (i.fdiv j)) x y H Q
theorem op_divU : OpR X (binaryOp .FloorDiv) rDivU := opOr op_fdivW op_fdivN
def rModU : R2 := rI (fun _ j => j ≠ 0) fun i j => .int (i.fmod j)
theorem op_modU : OpR X (binaryOp .Mod) rModU := op_modN
def rPowU : R2 := rI CPow fun i j => .int (i ^ j.toNat)
theorem op_powU : OpR X (binaryOp .Pow) rPowU := op_pow
def rEqU (K : Frag) : R2 := fun x y H Q => rEq x y H Q ∨ rEqD K x y H Q
theorem op_eqU (hu : X.A.units + 64 < cLine) : OpR X (compareOp .Eq) (rEqU X.K) := opOr op_eq (op_eqD hu)
def rNeU (K : Frag) : R2 := fun x y H Q => rNe x y H Q ∨ rNeD K x y H Q
theorem op_neU (hu : X.A.units + 64 < cLine) : OpR X (compareOp .NotEq) (rNeU X.K) := opOr op_ne (op_neD hu)
def rLtI : R2 := rI0 fun i j => .bl (decide (i < j))
theorem op_ltU : OpR X (compareOp .Lt) rLtI := op_lt
def rLeI : R2 := rI0 fun i j => .bl (decide (i ≤ j))
theorem op_leU : OpR X (compareOp .LtE) rLeI := op_le
def rGtI : R2 := rI0 fun i j => .bl (decide (j < i))
theorem op_gtU : OpR X (compareOp .Gt) rGtI := op_gt
def rGeI : R2 := rI0 fun i j => .bl (decide (j ≤ i))
theorem op_geU : OpR X (compareOp .GtE) rGeI := op_ge
def rIntU : List V → Hp → VK → Prop := fun xs H Q => (∃ i, xs = [.int i] ∧ Q (.int i) H) ∨ ∃ k, xs = [.bl k] ∧ Q (.int (if k then 1 else 0)) H
theorem call_intU : CallR X (.type "int") rIntU := call_int1
def rLenU (K : Frag) : List V → Hp → VK → Prop := fun xs H Q => ∃ x n, xs = [x] ∧ LenV K x H n ∧ Q (.int n) H
theorem call_lenU : CallR X (.builtin "len") (rLenU X.K) := call_len
def rListU (K : Frag) : List V → Hp → VK → Prop := fun xs H Q => ∃ p ys, xs = [.ref p] ∧ (SqL K H p ys ∨ SqT K H p ys) ∧ ∀ l, H l = none → Q (.ref l) (upd H l (.lst ys))
theorem call_listU : CallR X (.type "list") (rListU X.K) := call_list_of
def rTupleU (K : Frag) : List V → Hp → VK → Prop := fun xs H Q => ∃ p ys, xs = [.ref p] ∧ ((SqL K H p ys ∧ ∀ l, H l = none → Q (.ref l) (upd H l (.tup ys))) ∨ (SqT K H p ys ∧ Q (.ref p) H))
theorem call_tupleU : CallR X (.type "tuple") (rTupleU X.K) := call_tuple_of
def rMinU : List V → Hp → VK → Prop := fun xs H Q => ∃ i j, xs = [.int i, .int j] ∧ Q (.int (if j < i then j else i)) H
theorem call_minU (hc : X.calm = true) : CallR X (.builtin "min") rMinU := call_min2 hc
def rMaxU : List V → Hp → VK → Prop := fun xs H Q => ∃ i j, xs = [.int i, .int j] ∧ Q (.int (if j > i then j else i)) H
theorem call_maxU (hc : X.calm = true) : CallR X (.builtin "max") rMaxU := call_max2 hc
def rNegI : V → Hp → VK → Prop := rU fun i => .int (-i)
theorem un_negU : UnR X (unaryOp .USub) rNegI := un_neg
end

/-- an environment yet to be reckoned -/
def SetE (Γ : Env) (k : Env → Prop) : Prop := k Γ
theorem setE_go {Γ Γ' : Env} {k : Env → Prop} (h : Γ = Γ') (q : k Γ') : SetE Γ k := by subst h; exact q

/-! ### judgements -/
section
variable (K : Frag) (w : Wd)
abbrev NK := Option Nat → Env → Prop
/-- te gives a datum of the kind t -/
def WpE {α : Type} (n : Option Nat) (Γ : Env) (te : TE) (t : Ty α) (k : α → NK) : Prop := ∀ σ B H, Ok K w n Γ σ B H → ∀ Q : VK,
  (∀ x v n' Γ' B' H', k x n' Γ' → Ex B B' → Ok K w n' Γ' σ B' H' → t.rep B' v x → Q v H') → te σ H Q
/-- te gives a new thing of one's own -/
def WpM (n : Option Nat) (Γ : Env) (te : TE) (k : Rs → NK) : Prop := ∀ σ B H, Ok K w n Γ σ B H → ∀ Q : VK,
  (∀ r l n' Γ' B' H', k r n' Γ' → Ex B B' → Ok K w n' Γ' σ B' H' → Own w Γ' σ B' H' r l → Q (.ref l) H') → te σ H Q
def WpT (n : Option Nat) (Γ : Env) (tt : TT) (kt kf : NK) : Prop := ∀ σ B H, Ok K w n Γ σ B H → ∀ Q : Bool → Hp → Prop,
  (∀ n' Γ' B' H', kt n' Γ' → Ex B B' → Ok K w n' Γ' σ B' H' → Q true H') → (∀ n' Γ' B' H', kf n' Γ' → Ex B B' → Ok K w n' Γ' σ B' H' → Q false H') → tt σ H Q
/-- arguments -/
structure TyA (A : Type) where
  rep : Addr → Hp → List V → A → Prop
  mono : ∀ {d : Addr} {B B' : Hp} {vs : List V} {a : A}, Ex B B' → rep d B vs a → rep d B' vs a
def aNil : TyA Unit := ⟨fun _ _ vs _ => vs = [], fun _ h => h⟩
def aCons {α A : Type} (t : Ty α) (r : TyA A) : TyA (α × A) := ⟨fun d B vs a => ∃ v us, vs = v :: us ∧ t.rep B v a.1 ∧ r.rep d B us a.2, fun e ⟨v, us, h, h1, h2⟩ => ⟨v, us, h, t.mono e h1, r.mono e h2⟩⟩
def aPen {A : Type} (r : TyA A) : TyA A := ⟨fun d B vs a => ∃ us, vs = .ref d :: us ∧ r.rep d B us a, fun e ⟨us, h, h1⟩ => ⟨us, h, r.mono e h1⟩⟩
def WpA {A : Type} (n : Option Nat) (Γ : Env) (ta : TA) (t : TyA A) (k : A → NK) : Prop := ∀ σ B H, Ok K w n Γ σ B H → ∀ Q : List V → Hp → Prop,
  (∀ a vs n' Γ' B' H', k a n' Γ' → Ex B B' → Ok K w n' Γ' σ B' H' → t.rep w.d B' vs a → Q vs H') → ta σ H Q
end

section
variable {K : Frag} {w : Wd} {n : Option Nat} {Γ : Env} {α β γ : Type} {t : Ty α} {u : Ty β} {k : α → NK} {ta tb te : TE}

/-! ### expressions -/
theorem we_mono {k' : α → NK} (h : WpE K w n Γ te t k) (m : ∀ x n' Γ', k x n' Γ' → k' x n' Γ') : WpE K w n Γ te t k' := fun σ B H ok Q q =>
  h σ B H ok Q fun x v n' Γ' B' H' a => q x v n' Γ' B' H' (m _ _ _ a)
theorem we_var {i : Nat} {x : α} (h : Γ[i]? = some (.im t x)) (q : k x n Γ) : WpE K w n Γ (tVar i) t k := fun σ B H ok Q c => by
  obtain ⟨v, h1, h2⟩ := ok.sl i _ h
  exact ⟨v, h1, c x v n Γ B H q (Ex.refl _) ok h2⟩
/-- an own list is frozen as it is used -/
theorem we_varL {i : Nat} {xs : List α} {k : List α → NK} (h : Γ[i]? = some (.ml t xs)) (q : SetE (Γ.set i (.im (tL t) xs)) (k xs n)) : WpE K w n Γ (tVar i) (tL t) k := fun σ B H ok Q c => by
  obtain ⟨l, o, h1, h2⟩ := ok.sl i _ h
  obtain ⟨o', h3, ⟨vs, rfl, p⟩, e, ok'⟩ := ok.freeze h h1
  have rp : (tL t).rep (upd B l (.lst vs)) (.ref l) xs := ⟨l, vs, rfl, upd_same, pw_mono (fun _ _ => t.mono e) p⟩
  have ok2 := ok'.setIm (i := i) rp
  have e1 : (Γ.set i .no).set i (.im (tL t) xs) = Γ.set i (.im (tL t) xs) := by rw [List.set_set]
  have e2 : σ.set i (some (.ref l)) = σ := by
    apply List.ext_getElem?
    intro j
    rw [List.getElem?_set]
    split
    · rename_i z; subst z
      split
      · exact h1.symm
      · rename_i z; exact absurd (List.getElem?_eq_some_iff.mp h1).1 z
    · rfl
  rw [e1, e2] at ok2
  exact ⟨.ref l, h1, c xs _ n _ _ H q e ok2 rp⟩
theorem we_int {i : Int} {k : Int → NK} (q : k i n Γ) : WpE K w n Γ (tC (.int i)) tI k := fun σ B H ok Q c => c i _ n Γ B H q (Ex.refl _) ok rfl
theorem we_bool {i : Bool} {k : Bool → NK} (q : k i n Γ) : WpE K w n Γ (tC (.bl i)) tBo k := fun σ B H ok Q c => c i _ n Γ B H q (Ex.refl _) ok rfl
theorem we_str {i : Str} {k : Str → NK} (q : k i n Γ) : WpE K w n Γ (tC (.str i)) tS k := fun σ B H ok Q c => c i _ n Γ B H q (Ex.refl _) ok rfl
theorem we_none {k : Unit → NK} (q : k () n Γ) : WpE K w n Γ (tC .non) tN k := fun σ B H ok Q c => c () _ n Γ B H q (Ex.refl _) ok rfl
/-- None as an option -/
theorem we_noneO {k : Option α → NK} (q : k none n Γ) : WpE K w n Γ (tC .non) (tO t) k := fun σ B H ok Q c => c none _ n Γ B H q (Ex.refl _) ok rfl
theorem we_someO {k : Option α → NK} (h : WpE K w n Γ te t (fun x => k (some x))) : WpE K w n Γ te (tO t) k := fun σ B H ok Q c => h σ B H ok Q fun x v n' Γ' B' H' a e o r => c (some x) v n' Γ' B' H' a e o r
/-- two operands, then an operation on ints -/
theorem we_op2 {δ : Type} {s : Ty δ} {r : R2} {k : δ → NK} (f : α → β → δ) (C : α → β → Prop)
    (hr : ∀ B x y a b H Q, t.rep B x a → u.rep B y b → Ex B H → C a b → (∀ v, s.rep B v (f a b) → Q v H) → r x y H Q)
    (h : WpE K w n Γ ta t (fun a n Γ => WpE K w n Γ tb u (fun b n Γ => C a b ∧ k (f a b) n Γ))) : WpE K w n Γ (tOp r ta tb) s k := fun σ B H ok Q c =>
  h σ B H ok _ fun a x n1 Γ1 B1 H1 h1 e1 o1 r1 => h1 σ B1 H1 o1 _ fun b y n2 Γ2 B2 H2 ⟨hc, h2⟩ e2 o2 r2 =>
    hr B2 x y a b H2 Q (t.mono e2 r1) r2 o2.ex hc fun v rv => c _ v n2 Γ2 B2 H2 h2 (e1.trans e2) o2 rv
theorem we_add {k : Int → NK} (h : WpE K w n Γ ta tI (fun a n Γ => WpE K w n Γ tb tI (fun b n Γ => k (a + b) n Γ))) : WpE K w n Γ (tOp rAddU ta tb) tI k :=
  we_op2 (s := tI) (fun a b => a + b) (fun _ _ => True) (fun B x y a b H Q h1 h2 e _ q => .inl ⟨a, b, h1, h2, q _ rfl⟩) (we_mono h fun x _ _ q => we_mono q fun y _ _ z => ⟨trivial, z⟩)
theorem we_sub {k : Int → NK} (h : WpE K w n Γ ta tI (fun a n Γ => WpE K w n Γ tb tI (fun b n Γ => k (a - b) n Γ))) : WpE K w n Γ (tOp rSubI ta tb) tI k :=
  we_op2 (s := tI) (fun a b => a - b) (fun _ _ => True) (fun B x y a b H Q h1 h2 e _ q => ⟨a, b, h1, h2, q _ rfl⟩) (we_mono h fun x _ _ q => we_mono q fun y _ _ z => ⟨trivial, z⟩)
/-- the size of a product: one factor is small, or both are not huge -/
def MulOk (a b : Int) : Prop := CMul a b ∨ CMulW a b
theorem we_mul {k : Int → NK} (h : WpE K w n Γ ta tI (fun a n Γ => WpE K w n Γ tb tI (fun b n Γ => MulOk a b ∧ k (a * b) n Γ))) : WpE K w n Γ (tOp rMulU ta tb) tI k :=
  we_op2 (s := tI) (fun a b => a * b) MulOk (fun B x y a b H Q h1 h2 e hc q => by
    rcases hc with hc | hc
    · exact .inr (.inl ⟨a, b, h1, h2, hc, q _ rfl⟩)
    · exact .inl ⟨a, b, h1, h2, hc, q _ rfl⟩) h
theorem we_mulL {k : Int → NK} (h : WpE K w n Γ ta tI (fun a n Γ => (-(2 ^ 64) < a ∧ a < 2 ^ 64) ∧ WpE K w n Γ tb tI (fun b n Γ => k (a * b) n Γ))) : WpE K w n Γ (tOp rMulU ta tb) tI k :=
  we_mul (we_mono h fun x _ _ ⟨c, q⟩ => we_mono q fun y _ _ z => ⟨.inl (.inl c), z⟩)
/-- a positive divisor below 2 ^ 9000 -/
theorem we_div {k : Int → NK} (h : WpE K w n Γ ta tI (fun a n Γ => WpE K w n Γ tb tI (fun b n Γ => CDivW a b ∧ k (a / b) n Γ))) : WpE K w n Γ (tOp rDivU ta tb) tI k :=
  we_op2 (s := tI) (fun a b => a / b) CDivW (fun B x y a b H Q h1 h2 e hc q => .inl ⟨a, b, h1, h2, hc, q _ rfl⟩) h
theorem we_divN {k : Int → NK} (h : WpE K w n Γ ta tI (fun a n Γ => WpE K w n Γ tb tI (fun b n Γ => CDivN a b ∧ k (a.fdiv b) n Γ))) : WpE K w n Γ (tOp rDivU ta tb) tI k :=
  we_op2 (s := tI) (fun (a b : Int) => a.fdiv b) CDivN (fun B x y a b H Q h1 h2 e hc q => .inr ⟨a, b, h1, h2, hc, q (.int (a.fdiv b)) rfl⟩) h
theorem we_modN {k : Int → NK} (h : WpE K w n Γ ta tI (fun a n Γ => WpE K w n Γ tb tI (fun b n Γ => b ≠ 0 ∧ k (a.fmod b) n Γ))) : WpE K w n Γ (tOp rModU ta tb) tI k :=
  we_op2 (s := tI) (fun (a b : Int) => a.fmod b) (fun _ b => b ≠ 0) (fun B x y a b H Q h1 h2 e hc q => ⟨a, b, h1, h2, hc, q (.int (a.fmod b)) rfl⟩) h
theorem we_mod {k : Int → NK} (h : WpE K w n Γ ta tI (fun a n Γ => WpE K w n Γ tb tI (fun b n Γ => 0 < b ∧ k (a % b) n Γ))) : WpE K w n Γ (tOp rModU ta tb) tI k :=
  we_modN (we_mono h fun x _ _ q => we_mono q fun y _ _ ⟨c, z⟩ => ⟨by omega, by rw [Int.fmod_eq_emod_of_nonneg x (by omega)]; exact z⟩)
theorem we_pow {k : Int → NK} (h : WpE K w n Γ ta tI (fun a n Γ => WpE K w n Γ tb tI (fun b n Γ => CPow a b ∧ k (a ^ b.toNat) n Γ))) : WpE K w n Γ (tOp rPowU ta tb) tI k :=
  we_op2 (s := tI) (fun a b => a ^ b.toNat) CPow (fun B x y a b H Q h1 h2 e hc q => ⟨a, b, h1, h2, hc, q (.int (a ^ b.toNat)) rfl⟩) h
theorem we_neg {k : Int → NK} (h : WpE K w n Γ ta tI (fun a n Γ => k (-a) n Γ)) : WpE K w n Γ (tUn rNegI ta) tI k := fun σ B H ok Q c =>
  h σ B H ok _ fun a x n1 Γ1 B1 H1 h1 e1 o1 r1 => ⟨a, r1, c _ _ n1 Γ1 B1 H1 h1 e1 o1 rfl⟩
theorem we_addS {k : Str → NK} (h : WpE K w n Γ ta tS (fun a n Γ => WpE K w n Γ tb tS (fun b n Γ => a.length + b.length ≤ sizeLine ∧ k (a ++ b) n Γ))) : WpE K w n Γ (tOp rAddU ta tb) tS k :=
  we_op2 (s := tS) (fun a b => a ++ b) (fun a b => a.length + b.length ≤ sizeLine) (fun B x y a b H Q h1 h2 e hc q => .inr (.inl ⟨a, b, h1, h2, hc, q _ rfl⟩)) h
/-! comparisons of ints as values -/
theorem we_lt {k : Bool → NK} (h : WpE K w n Γ ta tI (fun a n Γ => WpE K w n Γ tb tI (fun b n Γ => k (decide (a < b)) n Γ))) : WpE K w n Γ (tOp rLtI ta tb) tBo k :=
  we_op2 (s := tBo) (fun a b => decide (a < b)) (fun _ _ => True) (fun B x y a b H Q h1 h2 e _ q => ⟨a, b, h1, h2, q _ rfl⟩) (we_mono h fun x _ _ q => we_mono q fun y _ _ z => ⟨trivial, z⟩)
theorem we_le {k : Bool → NK} (h : WpE K w n Γ ta tI (fun a n Γ => WpE K w n Γ tb tI (fun b n Γ => k (decide (a ≤ b)) n Γ))) : WpE K w n Γ (tOp rLeI ta tb) tBo k :=
  we_op2 (s := tBo) (fun a b => decide (a ≤ b)) (fun _ _ => True) (fun B x y a b H Q h1 h2 e _ q => ⟨a, b, h1, h2, q _ rfl⟩) (we_mono h fun x _ _ q => we_mono q fun y _ _ z => ⟨trivial, z⟩)
theorem we_gt {k : Bool → NK} (h : WpE K w n Γ ta tI (fun a n Γ => WpE K w n Γ tb tI (fun b n Γ => k (decide (b < a)) n Γ))) : WpE K w n Γ (tOp rGtI ta tb) tBo k :=
  we_op2 (s := tBo) (fun a b => decide (b < a)) (fun _ _ => True) (fun B x y a b H Q h1 h2 e _ q => ⟨a, b, h1, h2, q _ rfl⟩) (we_mono h fun x _ _ q => we_mono q fun y _ _ z => ⟨trivial, z⟩)
theorem we_ge {k : Bool → NK} (h : WpE K w n Γ ta tI (fun a n Γ => WpE K w n Γ tb tI (fun b n Γ => k (decide (b ≤ a)) n Γ))) : WpE K w n Γ (tOp rGeI ta tb) tBo k :=
  we_op2 (s := tBo) (fun a b => decide (b ≤ a)) (fun _ _ => True) (fun B x y a b H Q h1 h2 e _ q => ⟨a, b, h1, h2, q _ rfl⟩) (we_mono h fun x _ _ q => we_mono q fun y _ _ z => ⟨trivial, z⟩)

/-! ### data that == compares -/
/-- what stands for a datum of the kind t is data of the library's == -/
structure IsD (K : Frag) (t : Ty α) where
  enc : α → PyData
  dp : ∀ {B v x}, t.rep B v x → Dp K B v (enc x)
  dep : Nat
  dp_le : ∀ x, (enc x).depth ≤ dep
  inj : ∀ x y, PyData.eqv (enc x) (enc y) = true ↔ x = y
theorem IsD.sh (D : IsD K t) (hd : D.dep ≤ 64) {x : α} (h : (D.enc x).canLay0 = true) : SeqAt.shaped (D.enc x) = true := by
  unfold SeqAt.shaped
  rw [h, Bool.true_and]
  exact decide_eq_true (Nat.le_trans (D.dp_le x) hd)
def iI : IsD K tI := ⟨fun x => .int x, fun h => by cases h; exact .int _, 0, fun x => Nat.le_refl _, fun x y => by show (x == y) = true ↔ _; simp⟩
def iB : IsD K tBo := ⟨fun x => .bool x, fun h => by cases h; exact .bl _, 0, fun x => Nat.le_refl _, fun x y => by show (x == y) = true ↔ _; simp⟩
def iS : IsD K tS := ⟨fun x => .str x, fun h => by cases h; exact .str _, 0, fun x => Nat.le_refl _, fun x y => by show (x == y) = true ↔ _; simp⟩
theorem dpAll {D : IsD K t} {B : Hp} : ∀ {vs : List V} {xs : List α}, Paired (t.rep B) vs xs → DpAll K B vs (xs.map D.enc)
  | _, _, .nil => .nil
  | _, _, .cons h r => .cons (D.dp h) (dpAll r)
theorem depthAll_le {D : IsD K t} : ∀ xs : List α, PyData.depthAll (xs.map D.enc) ≤ D.dep
  | [] => Nat.zero_le _
  | x :: xs => by
    show PyData.depthAll (D.enc x :: xs.map D.enc) ≤ D.dep
    unfold PyData.depthAll
    exact Nat.max_le.mpr ⟨D.dp_le x, depthAll_le xs⟩
theorem eqvAll_inj {D : IsD K t} : ∀ xs ys : List α, PyData.eqvAll (xs.map D.enc) (ys.map D.enc) = true ↔ xs = ys
  | [], [] => by simp [PyData.eqvAll]
  | [], y :: ys => by simp [PyData.eqvAll]
  | x :: xs, [] => by simp [PyData.eqvAll]
  | x :: xs, y :: ys => by
    rw [List.map_cons, List.map_cons, PyData.eqvAll, Bool.and_eq_true, D.inj, eqvAll_inj xs ys, List.cons.injEq]
def iL (D : IsD K t) : IsD K (tL t) := ⟨fun xs => .list (xs.map D.enc), fun ⟨a, vs, h, s, p⟩ => by subst h; exact .lst (SqL.of s) (dpAll p), D.dep + 1,
  fun xs => by unfold PyData.depth; have := depthAll_le (D := D) xs; omega, fun x y => by unfold PyData.eqv; exact eqvAll_inj x y⟩
def iU (D : IsD K t) : IsD K (tU t) := ⟨fun xs => .tuple (xs.map D.enc), fun ⟨a, vs, h, s, p⟩ => by subst h; exact .tup (SqT.of s) (dpAll p), D.dep + 1,
  fun xs => by unfold PyData.depth; have := depthAll_le (D := D) xs; omega, fun x y => by unfold PyData.eqv; exact eqvAll_inj x y⟩
def iP (D : IsD K t) (E : IsD K u) : IsD K (tP t u) := ⟨fun x => .tuple [D.enc x.1, E.enc x.2], fun ⟨a, p, q, h, s, h1, h2⟩ => by subst h; exact .tup (SqT.of s) (.cons (D.dp h1) (.cons (E.dp h2) .nil)), max D.dep E.dep + 1,
  fun x => by
    have h1 := D.dp_le x.1
    have h2 := E.dp_le x.2
    simp only [PyData.depth, PyData.depthAll]; omega, fun x y => by
    simp only [PyData.eqv, PyData.eqvAll, Bool.and_eq_true, D.inj, E.inj, and_true]
    exact ⟨fun ⟨a, b⟩ => Prod.ext a b, fun h => by subst h; exact ⟨rfl, rfl⟩⟩⟩
theorem layAll {D : IsD K t} {xs : List α} (h : ∀ x ∈ xs, (D.enc x).canLay0 = true) : PyData.canLayAll0 (xs.map D.enc) = true := by
  induction xs with
  | nil => simp [PyData.canLayAll0]
  | cons x r ih =>
    rw [List.map_cons, PyData.canLayAll0, h x List.mem_cons_self, ih fun y hy => h y (List.mem_cons_of_mem _ hy)]
    rfl
theorem layI (x : Int) : ((iI (K := K)).enc x).canLay0 = true := by show PyData.canLay0 (.int x) = true; simp [PyData.canLay0]
theorem layL {D : IsD K t} {xs : List α} (h : ∀ x ∈ xs, (D.enc x).canLay0 = true) : ((iL D).enc xs).canLay0 = true := by
  show PyData.canLay0 (.list _) = true
  rw [PyData.canLay0]; exact layAll h
theorem layU {D : IsD K t} {xs : List α} (h : ∀ x ∈ xs, (D.enc x).canLay0 = true) : ((iU D).enc xs).canLay0 = true := by
  show PyData.canLay0 (.tuple _) = true
  rw [PyData.canLay0]; exact layAll h
theorem layLI (xs : List Int) : ((iL (iI (K := K))).enc xs).canLay0 = true := layL fun x _ => layI x
theorem layLLI (xs : List (List Int)) : ((iL (iL (iI (K := K)))).enc xs).canLay0 = true := layL fun x _ => layLI x
theorem dec_iff {a b : Prop} [Decidable b] {c : Bool} (h : c = true ↔ b) : c = decide b := by
  cases c with
  | true => exact (decide_eq_true (h.mp rfl)).symm
  | false => exact (decide_eq_false fun z => by cases h.mpr z).symm
/-- == of data of one kind -/
theorem we_eqD [DecidableEq α] {k : Bool → NK} (D : IsD K t) (hd : D.dep ≤ 64) (h : WpE K w n Γ ta t (fun a n Γ => WpE K w n Γ tb t (fun b n Γ => ((D.enc a).canLay0 = true ∧ (D.enc b).canLay0 = true) ∧ k (decide (a = b)) n Γ))) : WpE K w n Γ (tOp (rEqU K) ta tb) tBo k :=
  we_op2 (s := tBo) (fun a b => decide (a = b)) (fun a b => (D.enc a).canLay0 = true ∧ (D.enc b).canLay0 = true) (fun B x y a b H Q h1 h2 e hc q =>
    .inr ⟨_, _, D.dp (t.mono e h1), D.dp (t.mono e h2), D.sh hd hc.1, D.sh hd hc.2, q _ (by show V.bl _ = V.bl _; rw [dec_iff (a := True) (D.inj a b)])⟩) h
theorem we_neD [DecidableEq α] {k : Bool → NK} (D : IsD K t) (hd : D.dep ≤ 64) (h : WpE K w n Γ ta t (fun a n Γ => WpE K w n Γ tb t (fun b n Γ => ((D.enc a).canLay0 = true ∧ (D.enc b).canLay0 = true) ∧ k (!decide (a = b)) n Γ))) : WpE K w n Γ (tOp (rNeU K) ta tb) tBo k :=
  we_op2 (s := tBo) (fun a b => !decide (a = b)) (fun a b => (D.enc a).canLay0 = true ∧ (D.enc b).canLay0 = true) (fun B x y a b H Q h1 h2 e hc q =>
    .inr ⟨_, _, D.dp (t.mono e h1), D.dp (t.mono e h2), D.sh hd hc.1, D.sh hd hc.2, q _ (by show V.bl _ = V.bl _; rw [dec_iff (a := True) (D.inj a b)])⟩) h
theorem we_eqI {k : Bool → NK} (h : WpE K w n Γ ta tI (fun a n Γ => WpE K w n Γ tb tI (fun b n Γ => k (decide (a = b)) n Γ))) : WpE K w n Γ (tOp (rEqU K) ta tb) tBo k :=
  we_eqD iI (Nat.zero_le _) (we_mono h fun x _ _ q => we_mono q fun y _ _ z => ⟨⟨layI x, layI y⟩, z⟩)
theorem we_neI {k : Bool → NK} (h : WpE K w n Γ ta tI (fun a n Γ => WpE K w n Γ tb tI (fun b n Γ => k (!decide (a = b)) n Γ))) : WpE K w n Γ (tOp (rNeU K) ta tb) tBo k :=
  we_neD iI (Nat.zero_le _) (we_mono h fun x _ _ q => we_mono q fun y _ _ z => ⟨⟨layI x, layI y⟩, z⟩)
theorem we_eqS {k : Bool → NK} (h : WpE K w n Γ ta tS (fun a n Γ => WpE K w n Γ tb tS (fun b n Γ => k (decide (a = b)) n Γ))) : WpE K w n Γ (tOp (rEqU K) ta tb) tBo k :=
  we_op2 (s := tBo) (fun a b => decide (a = b)) (fun _ _ => True) (fun B x y a b H Q h1 h2 e _ q => by
    cases h1; cases h2
    refine .inl ⟨rfl, ?_⟩
    have e : decide (V.str a = V.str b) = decide (a = b) := by simp
    rw [e]; exact q _ rfl) (we_mono h fun x _ _ q => we_mono q fun y _ _ z => ⟨trivial, z⟩)
theorem we_neS {k : Bool → NK} (h : WpE K w n Γ ta tS (fun a n Γ => WpE K w n Γ tb tS (fun b n Γ => k (!decide (a = b)) n Γ))) : WpE K w n Γ (tOp (rNeU K) ta tb) tBo k :=
  we_op2 (s := tBo) (fun a b => !decide (a = b)) (fun _ _ => True) (fun B x y a b H Q h1 h2 e _ q => by
    cases h1; cases h2
    refine .inl ⟨rfl, ?_⟩
    have e : decide (V.str a = V.str b) = decide (a = b) := by simp
    rw [e]; exact q _ rfl) (we_mono h fun x _ _ q => we_mono q fun y _ _ z => ⟨trivial, z⟩)

/-! ### tests -/
section
variable {tt t1 t2 : TT} {kt kf : NK}
theorem wt_val (h : WpE K w n Γ te tBo (fun b n Γ => (b = true → kt n Γ) ∧ (b = false → kf n Γ))) : WpT K w n Γ (tTest te) kt kf := fun σ B H ok Q ct cf =>
  h σ B H ok _ fun b v n1 Γ1 B1 H1 ⟨h1, h2⟩ e o r => ⟨b, r, by
    cases b with
    | true => exact ct n1 Γ1 B1 H1 (h1 rfl) e o
    | false => exact cf n1 Γ1 B1 H1 (h2 rfl) e o⟩
theorem wt_valB (h : WpE K w n Γ te tBo (fun b n Γ => (b = true → kt n Γ) ∧ (b = false → kf n Γ))) : WpT K w n Γ (tB te) kt kf := fun σ B H ok Q ct cf =>
  h σ B H ok _ fun b v n1 Γ1 B1 H1 ⟨h1, h2⟩ e o r => ⟨b, r, by
    cases b with
    | true => exact ct n1 Γ1 B1 H1 (h1 rfl) e o
    | false => exact cf n1 Γ1 B1 H1 (h2 rfl) e o⟩
theorem dec2 {p : Prop} [Decidable p] {A B : Prop} (h1 : p → A) (h2 : ¬ p → B) : (decide p = true → A) ∧ (decide p = false → B) := ⟨fun e => h1 (of_decide_eq_true e), fun e => h2 (of_decide_eq_false e)⟩
theorem dec2n {p : Prop} [Decidable p] {A B : Prop} (h1 : ¬ p → A) (h2 : p → B) : ((!decide p) = true → A) ∧ ((!decide p) = false → B) :=
  ⟨fun e => h1 (of_decide_eq_false (by simpa using e)), fun e => h2 (of_decide_eq_true (by simpa using e))⟩
theorem wt_and (h : WpT K w n Γ t1 (fun n Γ => WpT K w n Γ t2 kt kf) kf) : WpT K w n Γ (tAnd t1 t2) kt kf := fun σ B H ok Q ct cf =>
  h σ B H ok _ (fun n1 Γ1 B1 H1 h1 e1 o1 => by
    show t2 σ H1 Q
    exact h1 σ B1 H1 o1 Q (fun n2 Γ2 B2 H2 h2 e2 o2 => ct n2 Γ2 B2 H2 h2 (e1.trans e2) o2) (fun n2 Γ2 B2 H2 h2 e2 o2 => cf n2 Γ2 B2 H2 h2 (e1.trans e2) o2)) fun n1 Γ1 B1 H1 h1 e1 o1 => by
    show Q false H1
    exact cf n1 Γ1 B1 H1 h1 e1 o1
theorem wt_or (h : WpT K w n Γ t1 kt (fun n Γ => WpT K w n Γ t2 kt kf)) : WpT K w n Γ (tOr t1 t2) kt kf := fun σ B H ok Q ct cf =>
  h σ B H ok _ (fun n1 Γ1 B1 H1 h1 e1 o1 => by
    show Q true H1
    exact ct n1 Γ1 B1 H1 h1 e1 o1) fun n1 Γ1 B1 H1 h1 e1 o1 => by
    show t2 σ H1 Q
    exact h1 σ B1 H1 o1 Q (fun n2 Γ2 B2 H2 h2 e2 o2 => ct n2 Γ2 B2 H2 h2 (e1.trans e2) o2) (fun n2 Γ2 B2 H2 h2 e2 o2 => cf n2 Γ2 B2 H2 h2 (e1.trans e2) o2)
theorem wt_not (h : WpT K w n Γ t1 kf kt) : WpT K w n Γ (tNot t1) kt kf := fun σ B H ok Q ct cf => h σ B H ok _ cf ct
theorem we_if (h : WpT K w n Γ tt (fun n Γ => WpE K w n Γ ta t k) (fun n Γ => WpE K w n Γ tb t k)) : WpE K w n Γ (tIf tt ta tb) t k := fun σ B H ok Q c =>
  h σ B H ok _ (fun n1 Γ1 B1 H1 h1 e1 o1 => by
    show ta σ H1 Q
    exact h1 σ B1 H1 o1 Q fun x v n2 Γ2 B2 H2 h2 e2 o2 r => c x v n2 Γ2 B2 H2 h2 (e1.trans e2) o2 r) fun n1 Γ1 B1 H1 h1 e1 o1 => by
    show tb σ H1 Q
    exact h1 σ B1 H1 o1 Q fun x v n2 Γ2 B2 H2 h2 e2 o2 r => c x v n2 Γ2 B2 H2 h2 (e1.trans e2) o2 r
theorem wt_mono {kt' kf' : NK} (h : WpT K w n Γ tt kt kf) (m1 : ∀ n Γ, kt n Γ → kt' n Γ) (m2 : ∀ n Γ, kf n Γ → kf' n Γ) : WpT K w n Γ tt kt' kf' := fun σ B H ok Q ct cf =>
  h σ B H ok Q (fun n' Γ' B' H' a => ct n' Γ' B' H' (m1 _ _ a)) (fun n' Γ' B' H' a => cf n' Γ' B' H' (m2 _ _ a))
/-- truth of a list -/
theorem wt_truL {xs : List α} {t : Ty α} (h : WpE K w n Γ ta (tL t) (fun xs n Γ => (xs ≠ [] → kt n Γ) ∧ (xs = [] → kf n Γ))) : WpT K w n Γ (fun σ H Q => ta σ H fun x H' => ∃ k, TruV K x H' k ∧ Q k H') kt kf := fun σ B H ok Q ct cf =>
  h σ B H ok _ fun xs v n1 Γ1 B1 H1 ⟨h1, h2⟩ e o ⟨a, vs, hv, hs, hp⟩ => by
    subst hv
    refine ⟨!vs.isEmpty, .inl ⟨vs, SqL.of (o.ex _ _ hs), rfl⟩, ?_⟩
    cases hp with
    | nil => exact cf n1 Γ1 B1 H1 (h2 rfl) e o
    | cons _ _ => exact ct n1 Γ1 B1 H1 (h1 (by simp)) e o
end
end
end TL

/-! # TL: statements, loops -/
namespace TL
open PySem L2
open PySem.W (Frag)

section
variable (K : Frag) (w : Wd)
def WpS {ρ : Type} (n : Option Nat) (Γ : Env) (ts : TS) (res : ρ → Ent) (nx bk ct : NK) (rt : ρ → Option Nat → Prop) : Prop := ∀ σ B H, Ok K w n Γ σ B H → ∀ D : Ends,
  (∀ n' Γ' σ' B' H', nx n' Γ' → Ex B B' → Ok K w n' Γ' σ' B' H' → D.nx σ' H') →
  (∀ n' Γ' σ' B' H', bk n' Γ' → Ex B B' → Ok K w n' Γ' σ' B' H' → D.bk σ' H') →
  (∀ n' Γ' σ' B' H', ct n' Γ' → Ex B B' → Ok K w n' Γ' σ' B' H' → D.ct σ' H') →
  (∀ x v n' B' H', rt x n' → Ex B B' → Ok K w n' [] [] B' H' → SlotOk w B' H' (res x) (some (some v)) → D.rt v H') → ts D σ H
def WpG {α : Type} (n : Option Nat) (Γ : Env) (g : TG) (t : Ty α) (x : α) (k : NK) : Prop := ∀ σ B H, Ok K w n Γ σ B H → ∀ v, t.rep B v x → ∀ Q : L2.St → Hp → Prop,
  (∀ n' Γ' σ' B' H', k n' Γ' → Ex B B' → Ok K w n' Γ' σ' B' H' → Q σ' H') → g v σ H Q
/-- what is known may be weakened: forgotten, frozen -/
def View (n : Option Nat) (Γ : Env) (n' : Option Nat) (Γ' : Env) : Prop := ∀ σ B H, Ok K w n Γ σ B H → ∃ B', Ex B B' ∧ Ok K w n' Γ' σ B' H
/-- J walks the data xs -/
structure Iter {α : Type} (t : Ty α) (xs : List α) (J : It) (B : Hp) : Prop where
  stop : ∀ H1, Ex B H1 → J.stop xs.length H1
  go : ∀ i H1, Ex B H1 → i < xs.length → J.go i H1
  yld : ∀ i x H1 B1 v H', xs[i]? = some x → Ex B B1 → Ex B1 H1 → J.yld i H1 v H' → ∃ B2, Grow B1 H1 B2 H' ∧ t.rep B2 v x
def WpI {α : Type} (n : Option Nat) (Γ : Env) (wi : TI) (t : Ty α) (k : List α → NK) : Prop := ∀ σ B H, Ok K w n Γ σ B H → ∀ R : It → Hp → Prop,
  (∀ xs J n' Γ' B' H', k xs n' Γ' → Ex B B' → Ok K w n' Γ' σ B' H' → Iter t xs J B' → R J H') → wi σ H R
end

section
variable {K : Frag} {w : Wd} {n : Option Nat} {Γ : Env} {α β γ δ ρ : Type} {t : Ty α} {u : Ty β} {ta tb te : TE} {ts ts' : TS} {res : ρ → Ent} {nx bk ct : NK} {rt : ρ → Option Nat → Prop}
theorem Ok.nil {σ : L2.St} {B H : Hp} (h : Ok K w n Γ σ B H) : Ok K w n [] [] B H :=
  ⟨h.ex, h.ex0, h.nw, h.kp, h.hd, h.hh, h.pn, rfl, fun i e q => by simp at q, fun i j e e' a _ q => by simp at q⟩

theorem View.refl : View K w n Γ n Γ := fun σ B H ok => ⟨B, Ex.refl _, ok⟩
theorem View.trans {n1 n2 : Option Nat} {Γ1 Γ2 : Env} (a : View K w n Γ n1 Γ1) (b : View K w n1 Γ1 n2 Γ2) : View K w n Γ n2 Γ2 := fun σ B H ok => by
  obtain ⟨B1, e1, o1⟩ := a σ B H ok
  obtain ⟨B2, e2, o2⟩ := b σ B1 H o1
  exact ⟨B2, e1.trans e2, o2⟩
theorem View.drop (i : Nat) : View K w n Γ n (Γ.set i .no) := fun σ B H ok => ⟨B, Ex.refl _, ok.drop⟩
theorem View.le {a b : Nat} (h : a ≤ b) : View K w (some a) Γ (some b) Γ := fun σ B H ok => ⟨B, Ex.refl _, ok.le h⟩
theorem slot_same {σ : L2.St} {i : Nat} {v : Option V} (h : σ[i]? = some v) : σ.set i v = σ := by
  apply List.ext_getElem?
  intro j
  rw [List.getElem?_set]
  split
  · rename_i z; subst z
    split
    · exact h.symm
    · rename_i z; exact absurd (List.getElem?_eq_some_iff.mp h).1 z
  · rfl
theorem Ok.freezeL {σ : L2.St} {B H : Hp} {i : Nat} {xs : List α} (ok : Ok K w n Γ σ B H) (h : Γ[i]? = some (.ml t xs)) : ∃ B', Ex B B' ∧ Ok K w n (Γ.set i (.im (tL t) xs)) σ B' H := by
  obtain ⟨l, o, h1, h2⟩ := ok.sl i _ h
  obtain ⟨o', h3, ⟨vs, rfl, p⟩, e, ok'⟩ := ok.freeze h h1
  have rp : (tL t).rep (upd B l (.lst vs)) (.ref l) xs := ⟨l, vs, rfl, upd_same, pw_mono (fun _ _ => t.mono e) p⟩
  have ok2 := ok'.setIm (i := i) rp
  have e1 : (Γ.set i .no).set i (.im (tL t) xs) = Γ.set i (.im (tL t) xs) := by rw [List.set_set]
  rw [e1, slot_same h1] at ok2
  exact ⟨_, e, ok2⟩
theorem View.freezeL {i : Nat} {xs : List α} (h : Γ[i]? = some (.ml t xs)) : View K w n Γ n (Γ.set i (.im (tL t) xs)) := fun σ B H ok => ok.freezeL h

/-! ### statements -/
theorem ws_view {n' : Option Nat} {Γ' : Env} (v : View K w n Γ n' Γ') (h : WpS K w n' Γ' ts res nx bk ct rt) : WpS K w n Γ ts res nx bk ct rt := fun σ B H ok D a b c d => by
  obtain ⟨B1, e1, o1⟩ := v σ B H ok
  exact h σ B1 H o1 D (fun n' Γ' σ' B' H' q e => a n' Γ' σ' B' H' q (e1.trans e)) (fun n' Γ' σ' B' H' q e => b n' Γ' σ' B' H' q (e1.trans e)) (fun n' Γ' σ' B' H' q e => c n' Γ' σ' B' H' q (e1.trans e))
    (fun x v n' B' H' q e => d x v n' B' H' q (e1.trans e))
theorem ws_mono {nx' bk' ct' : NK} {rt' : ρ → Option Nat → Prop} (h : WpS K w n Γ ts res nx bk ct rt) (m1 : ∀ n Γ, nx n Γ → nx' n Γ) (m2 : ∀ n Γ, bk n Γ → bk' n Γ) (m3 : ∀ n Γ, ct n Γ → ct' n Γ) (m4 : ∀ x n, rt x n → rt' x n) : WpS K w n Γ ts res nx' bk' ct' rt' := fun σ B H ok D a b c d =>
  h σ B H ok D (fun n' Γ' σ' B' H' q => a n' Γ' σ' B' H' (m1 _ _ q)) (fun n' Γ' σ' B' H' q => b n' Γ' σ' B' H' (m2 _ _ q)) (fun n' Γ' σ' B' H' q => c n' Γ' σ' B' H' (m3 _ _ q)) (fun x v n' B' H' q => d x v n' B' H' (m4 _ _ q))
theorem ws_seq (h : WpS K w n Γ ts res (fun n Γ => WpS K w n Γ ts' res nx bk ct rt) bk ct rt) : WpS K w n Γ (tSeq ts ts') res nx bk ct rt := fun σ B H ok D a b c d =>
  h σ B H ok { D with nx := ts' D } (fun n1 Γ1 σ1 B1 H1 q e o => q σ1 B1 H1 o D (fun n' Γ' σ' B' H' q e' => a n' Γ' σ' B' H' q (e.trans e')) (fun n' Γ' σ' B' H' q e' => b n' Γ' σ' B' H' q (e.trans e'))
    (fun n' Γ' σ' B' H' q e' => c n' Γ' σ' B' H' q (e.trans e')) (fun x v n' B' H' q e' => d x v n' B' H' q (e.trans e'))) b c d
theorem ws_next (h : nx n Γ) : WpS K w n Γ tNext res nx bk ct rt := fun σ B H ok D a b c d => a n Γ σ B H h (Ex.refl _) ok
theorem ws_brk (h : bk n Γ) : WpS K w n Γ tBreak res nx bk ct rt := fun σ B H ok D a b c d => b n Γ σ B H h (Ex.refl _) ok
theorem ws_cont (h : ct n Γ) : WpS K w n Γ tCont res nx bk ct rt := fun σ B H ok D a b c d => c n Γ σ B H h (Ex.refl _) ok
theorem ws_set {i : Nat} (h : WpE K w n Γ te t (fun x n Γ => SetE (Γ.set i (.im t x)) (nx n))) : WpS K w n Γ (tAsg te (gName i)) res nx bk ct rt := fun σ B H ok D a b c d =>
  h σ B H ok _ fun x v n' Γ' B' H' q e o r => a n' _ _ B' H' q e (o.setIm r)
theorem ws_setM {i : Nat} (h : WpM K w n Γ te (fun r n Γ => SetE (Γ.set i (.mu r)) (nx n))) : WpS K w n Γ (tAsg te (gName i)) res nx bk ct rt := fun σ B H ok D a b c d =>
  h σ B H ok _ fun r l n' Γ' B' H' q e o ow => a n' _ _ B' H' q e (o.setMu ow)
theorem ws_ret {t : Ty ρ} (h : WpE K w n Γ te t (fun x n _ => rt x n)) : WpS K w n Γ (tRet te) (fun x => .im t x) nx bk ct rt := fun σ B H ok D a b c d =>
  h σ B H ok _ fun x v n' Γ' B' H' q e o r => d x v n' B' H' q e o.nil ⟨v, rfl, r⟩
/-- a new thing of one's own is handed back -/
theorem ws_retM {rs : ρ → Rs} (h : WpM K w n Γ te (fun r n _ => ∃ x, r = rs x ∧ rt x n)) : WpS K w n Γ (tRet te) (fun x => .mu (rs x)) nx bk ct rt := fun σ B H ok D a b c d =>
  h σ B H ok _ fun r l n' Γ' B' H' ⟨x, hx, q⟩ e o ow => by
    subst hx
    obtain ⟨⟨ob, h1, h2⟩, h3, h4, _⟩ := ow
    exact d x _ n' B' H' q e o.nil ⟨l, ob, rfl, h1, h3, h4, h2⟩
/-- one's own name is handed back -/
theorem ws_retV {rs : ρ → Rs} {i : Nat} {x : ρ} (h : Γ[i]? = some (.mu (rs x))) (q : rt x n) : WpS K w n Γ (tRet (tVar i)) (fun x => .mu (rs x)) nx bk ct rt := fun σ B H ok D a b c d => by
  obtain ⟨l, o, h1, h2⟩ := ok.sl i _ h
  exact ⟨.ref l, h1, d x _ n B H q (Ex.refl _) ok.nil ⟨l, o, rfl, h2⟩⟩
theorem ws_drop (h : WpE K w n Γ te t (fun _ n Γ => nx n Γ)) : WpS K w n Γ (tDrop te) res nx bk ct rt := fun σ B H ok D a b c d =>
  h σ B H ok _ fun x v n' Γ' B' H' q e o r => a n' _ _ B' H' q e o
theorem ws_if {tt : TT} (h : WpT K w n Γ tt (fun n Γ => WpS K w n Γ ts res nx bk ct rt) (fun n Γ => WpS K w n Γ ts' res nx bk ct rt)) : WpS K w n Γ (tIfS tt ts ts') res nx bk ct rt := fun σ B H ok D a b c d =>
  h σ B H ok _ (fun n1 Γ1 B1 H1 q e o => by
    show ts D σ H1
    exact q σ B1 H1 o D (fun n' Γ' σ' B' H' q e' => a n' Γ' σ' B' H' q (e.trans e')) (fun n' Γ' σ' B' H' q e' => b n' Γ' σ' B' H' q (e.trans e'))
      (fun n' Γ' σ' B' H' q e' => c n' Γ' σ' B' H' q (e.trans e')) (fun x v n' B' H' q e' => d x v n' B' H' q (e.trans e'))) fun n1 Γ1 B1 H1 q e o => by
    show ts' D σ H1
    exact q σ B1 H1 o D (fun n' Γ' σ' B' H' q e' => a n' Γ' σ' B' H' q (e.trans e')) (fun n' Γ' σ' B' H' q e' => b n' Γ' σ' B' H' q (e.trans e'))
      (fun n' Γ' σ' B' H' q e' => c n' Γ' σ' B' H' q (e.trans e')) (fun x v n' B' H' q e' => d x v n' B' H' q (e.trans e'))
/-- one word for what both ways leave -/
theorem ws_cut (P : NK) (h : WpS K w n Γ ts res P bk ct rt) (q : ∀ n Γ, P n Γ → nx n Γ) : WpS K w n Γ ts res nx bk ct rt := ws_mono h q (fun _ _ z => z) (fun _ _ z => z) (fun _ _ z => z)
theorem sz {n : Nat} (h : n ≤ 100000) : n ≤ sizeLine := Nat.le_trans h (by decide)
theorem szl {n : Nat} (h : n < 100000) : n < sizeLine := Nat.lt_of_lt_of_le h (by decide)
theorem ws_append {i : Nat} {xs : List α} (hi : Γ[i]? = some (.ml t xs)) (h : WpE K w n Γ te t (fun x n' Γ' => Γ'[i]? = some (.ml t xs) ∧ xs.length < 100000 ∧ SetE (Γ'.set i (.ml t (xs ++ [x]))) (nx n'))) :
    WpS K w n Γ (tDrop (tBM K "list" rAppend (tVar i) (tCons te tNil))) res nx bk ct rt := fun σ B H ok D a b c d => by
  obtain ⟨l, o, h1, h2, h3, h4, vs, rfl, p⟩ := ok.sl i _ hi
  refine ⟨.ref l, h1, .inl ⟨rfl, vs, .inl (.inl h2)⟩, h σ B H ok _ fun x v n' Γ' B' H' ⟨g, hz, q⟩ e o r => ?_⟩
  obtain ⟨l', o', k1, k2, k3, k4, vs', rfl, p'⟩ := o.sl i _ g
  rw [h1] at k1; cases k1
  refine ⟨l, vs', v, rfl, rfl, k2, by rw [pw_len p']; exact szl hz, a n' _ _ B' _ q e (o.put (r' := rL t (xs ++ [x])) g h1 ⟨vs' ++ [v], rfl, pw_snoc p' r⟩)⟩
theorem ixN_int {n : Nat} {j : Int} (h0 : 0 ≤ j) (hj : j < n) : ixN n j = some j.toNat := by
  unfold ixN
  rw [if_pos h0, if_pos hj]
/-- xs[j] = e -/
theorem ws_setIx {i : Nat} {r0 : Rs} {xs : List α} {ti : TE} (hi : Γ[i]? = some (.mu r0)) (h : WpE K w n Γ te t (fun x n Γ => WpE K w n Γ ti tI (fun j n Γ => Γ[i]? = some (.ml t xs) ∧ (0 ≤ j ∧ j < xs.length) ∧ SetE (Γ.set i (.ml t (xs.set j.toNat x))) (nx n)))) :
    WpS K w n Γ (tAsg te (gSub (tVar i) ti rSetL)) res nx bk ct rt := fun σ B H ok D a b c d => by
  obtain ⟨l, _, hl, _⟩ := ok.sl i _ hi
  refine h σ B H ok _ fun x v n1 Γ1 B1 H1 q1 e1 o1 r1 => ⟨.ref l, hl, ?_⟩
  refine q1 σ B1 H1 o1 _ fun j jv n2 Γ2 B2 H2 ⟨g, hj, q⟩ e2 o2 r2 => ?_
  obtain ⟨l', o', k1, k2, k3, k4, vs, rfl, p⟩ := o2.sl i _ g
  rw [hl] at k1; cases k1
  refine ⟨l, vs, j, j.toNat, rfl, r2, k2, ?_, a n2 _ _ B2 _ q (e1.trans e2) (o2.put (r' := rL t (xs.set j.toNat x)) g hl ⟨vs.set j.toNat v, rfl, pw_set (t.mono e2 r1) _ p⟩)⟩
  rw [pw_len p]
  exact ixN_int hj.1 hj.2

/-! ### targets -/
theorem wg_name {i : Nat} {x : α} {k : NK} (h : SetE (Γ.set i (.im t x)) (k n)) : WpG K w n Γ (gName i) t x k := fun σ B H ok v r Q q => q n _ _ B H h (Ex.refl _) (ok.setIm r)
theorem wg_pair {i j : Nat} {x : α × β} {k : NK} (h : SetE ((Γ.set i (.im t x.1)).set j (.im u x.2)) (k n)) : WpG K w n Γ (gTup K 2 (gCons (gName i) (gCons (gName j) gNil))) (tP t u) x k := fun σ B H ok v ⟨a, p, q, hv, hs, h1, h2⟩ Q c => by
  refine ⟨a, [p, q], hv, SqT.of (ok.ex _ _ hs), rfl, p, [q], rfl, q, [], rfl, rfl, ?_⟩
  exact c n _ _ B H h (Ex.refl _) ((ok.setIm h1).setIm h2)
theorem wg_trip {s : Ty γ} {i j l : Nat} {x : α × β × γ} {k : NK} (h : SetE (((Γ.set i (.im t x.1)).set j (.im u x.2.1)).set l (.im s x.2.2)) (k n)) :
    WpG K w n Γ (gTup K 3 (gCons (gName i) (gCons (gName j) (gCons (gName l) gNil)))) (tP3 t u s) x k := fun σ B H ok v ⟨a, p, q, z, hv, hs, h1, h2, h3⟩ Q c => by
  refine ⟨a, [p, q, z], hv, SqT.of (ok.ex _ _ hs), rfl, p, _, rfl, q, _, rfl, z, [], rfl, rfl, ?_⟩
  exact c n _ _ B H h (Ex.refl _) (((ok.setIm h1).setIm h2).setIm h3)
theorem wg_quad {s : Ty γ} {r : Ty δ} {i j l m : Nat} {x : α × β × γ × δ} {k : NK} (h : SetE ((((Γ.set i (.im t x.1)).set j (.im u x.2.1)).set l (.im s x.2.2.1)).set m (.im r x.2.2.2)) (k n)) :
    WpG K w n Γ (gTup K 4 (gCons (gName i) (gCons (gName j) (gCons (gName l) (gCons (gName m) gNil))))) (tP4 t u s r) x k := fun σ B H ok v ⟨a, p, q, z, y, hv, hs, h1, h2, h3, h4⟩ Q c => by
  refine ⟨a, [p, q, z, y], hv, SqT.of (ok.ex _ _ hs), rfl, p, _, rfl, q, _, rfl, z, _, rfl, y, [], rfl, rfl, ?_⟩
  exact c n _ _ B H h (Ex.refl _) ((((ok.setIm h1).setIm h2).setIm h3).setIm h4)
/-- an assignment to any target -/
theorem ws_asg {g : TG} (h : WpE K w n Γ te t (fun x n Γ => WpG K w n Γ g t x nx)) : WpS K w n Γ (tAsg te g) res nx bk ct rt := fun σ B H ok D a b c d =>
  h σ B H ok _ fun x v n' Γ' B' H' q e o r => q σ B' H' o v r _ fun n2 Γ2 σ2 B2 H2 q2 e2 o2 => a n2 Γ2 σ2 B2 H2 q2 (e.trans e2) o2

/-! ### what a for walks -/
theorem wi_range1 {ta : TE} {k : List Int → NK} (h : WpE K w n Γ ta tI (fun j n Γ => (-(2 ^ 62) ≤ j ∧ j < 2 ^ 62) ∧ k ((List.range j.toNat).map fun (i : Nat) => (i : Int)) n Γ)) : WpI K w n Γ (iRng1 (tCons ta tNil)) tI k := fun σ B H ok R c =>
  h σ B H ok _ fun j v n1 Γ1 B1 H1 ⟨hb, q⟩ e o r => by
    refine ⟨j, by rw [r], hb.1, hb.2, c _ _ n1 Γ1 B1 H1 q e o ⟨fun H1 _ => ?_, fun i H1 _ hi => ?_, fun i x H1 B1 v H' hx _ e2 hy => ?_⟩⟩
    · show j.toNat ≤ _
      simp
    · show i < j.toNat
      simpa using hi
    · obtain ⟨rfl, rfl⟩ := hy
      refine ⟨B1, Grow.refl e2, ?_⟩
      rw [List.getElem?_map] at hx
      cases z : (List.range j.toNat)[i]? with
      | none => rw [z] at hx; cases hx
      | some a =>
        rw [z] at hx
        have ha : a = i := by
          obtain ⟨q1, q2⟩ := List.getElem?_eq_some_iff.mp z
          rw [← q2]; simp
        cases hx
        show V.int _ = V.int _
        rw [ha]; simp
def rangeL (a b : Int) : List Int := (List.range (b - a).toNat).map fun (i : Nat) => a + (i : Int)
theorem wi_range2 {ta tb : TE} {k : List Int → NK} (h : WpE K w n Γ ta tI (fun a n Γ => WpE K w n Γ tb tI (fun b n Γ => (-(2 ^ 62) ≤ a ∧ a < 2 ^ 62 ∧ -(2 ^ 62) ≤ b ∧ b < 2 ^ 62) ∧ k (rangeL a b) n Γ))) : WpI K w n Γ (iRng2 (tCons ta (tCons tb tNil))) tI k := fun σ B H ok R c =>
  h σ B H ok _ fun a v n1 Γ1 B1 H1 q1 e1 o1 r1 => q1 σ B1 H1 o1 _ fun b v2 n2 Γ2 B2 H2 ⟨hb, q⟩ e2 o2 r2 => by
    refine ⟨a, b, by rw [r1, r2], hb, c _ _ n2 Γ2 B2 H2 q (e1.trans e2) o2 ⟨fun H1 _ => ?_, fun i H1 _ hi => ?_, fun i x H1 B1 v H' hx _ e2 hy => ?_⟩⟩
    · show (b - a).toNat ≤ _
      simp [rangeL]
    · show i < (b - a).toNat
      simpa [rangeL] using hi
    · obtain ⟨rfl, rfl⟩ := hy
      refine ⟨B1, Grow.refl e2, ?_⟩
      unfold rangeL at hx
      rw [List.getElem?_map] at hx
      cases z : (List.range (b - a).toNat)[i]? with
      | none => rw [z] at hx; cases hx
      | some c =>
        rw [z] at hx
        have ha : c = i := by
          obtain ⟨q1, q2⟩ := List.getElem?_eq_some_iff.mp z
          rw [← q2]; simp
        cases hx
        show V.int _ = V.int _
        rw [ha]
theorem iter_list {B : Hp} {a : Addr} {vs : List V} {xs : List α} (hs : SqL K B a vs) (p : Paired (t.rep B) vs xs) : Iter t xs (Itl K a) B :=
  ⟨fun H1 e => ⟨vs, e.l hs, by rw [pw_len p]; exact Nat.le_refl _⟩, fun i H1 e hi => by
    have hi' : i < vs.length := by rw [pw_len p]; exact hi
    exact ⟨vs, vs[i], e.l hs, by simp⟩, fun i x H1 B1 v H' hx e1 e2 hy => by
    obtain ⟨rfl, hy⟩ := hy
    obtain ⟨v', h1, h2⟩ := pw_getR p hx
    have := hy vs ((e1.trans e2).l hs)
    rw [this] at h1; cases h1
    exact ⟨B1, Grow.refl e2, t.mono e1 h2⟩⟩
theorem iter_tup {B : Hp} {a : Addr} {vs : List V} {xs : List α} (hs : SqT K B a vs) (p : Paired (t.rep B) vs xs) : Iter t xs (Itt K a) B :=
  ⟨fun H1 e => ⟨vs, e.t hs, by rw [pw_len p]; exact Nat.le_refl _⟩, fun i H1 e hi => by
    have hi' : i < vs.length := by rw [pw_len p]; exact hi
    exact ⟨vs, vs[i], e.t hs, by simp⟩, fun i x H1 B1 v H' hx e1 e2 hy => by
    obtain ⟨rfl, hy⟩ := hy
    obtain ⟨v', h1, h2⟩ := pw_getR p hx
    have := hy vs ((e1.trans e2).t hs)
    rw [this] at h1; cases h1
    exact ⟨B1, Grow.refl e2, t.mono e1 h2⟩⟩
/-- a list or a tuple -/
abbrev iSeq (K : Frag) (tl : TE) : TI := fun σ H R => iList K tl σ H R ∨ iTup K tl σ H R
theorem wi_list {k : List α → NK} (h : WpE K w n Γ ta (tL t) k) : WpI K w n Γ (iSeq K ta) t k := fun σ B H ok R c => .inl
  (h σ B H ok _ fun xs v n1 Γ1 B1 H1 q e o ⟨a, vs, hv, hs, p⟩ => ⟨a, hv, ⟨vs, SqL.of (o.ex _ _ hs)⟩, c xs _ n1 Γ1 B1 H1 q e o (iter_list (K := K) (SqL.of hs) p)⟩)
theorem wi_tup {k : List α → NK} (h : WpE K w n Γ ta (tU t) k) : WpI K w n Γ (iSeq K ta) t k := fun σ B H ok R c => .inr
  (h σ B H ok _ fun xs v n1 Γ1 B1 H1 q e o ⟨a, vs, hv, hs, p⟩ => ⟨a, hv, ⟨vs, SqT.of (o.ex _ _ hs)⟩, c xs _ n1 Γ1 B1 H1 q e o (iter_tup (K := K) (SqT.of hs) p)⟩)

/-! ### for -/
/-- a loop's three questions: the start, a turn, the end -/
structure For3 (a b c : Prop) : Prop where
  h0 : a
  hs : b
  he : c
/-- up to what may be forgotten -/
def Up (K : Frag) (w : Wd) (I : NK) : NK := fun n Γ => ∃ n0 Γ0, View K w n Γ n0 Γ0 ∧ I n0 Γ0
theorem Up.of {I : NK} (h : I n Γ) : Up K w I n Γ := ⟨n, Γ, View.refl, h⟩
theorem ws_for {wi : TI} {g : TG} (I : List α → Nat → NK)
    (h : WpI K w n Γ wi t (fun xs n Γ => For3 (Up K w (I xs 0) n Γ)
      (∀ (i : Nat) x n Γ, xs[i]? = some x → I xs i n Γ → WpG K w n Γ g t x (fun n Γ => WpS K w n Γ ts res (Up K w (I xs (i + 1))) nx (Up K w (I xs (i + 1))) rt)) (∀ n Γ, I xs xs.length n Γ → nx n Γ))) :
    WpS K w n Γ (tFor wi g ts) res nx bk ct rt := fun σ B H ok D a b c d =>
  h σ B H ok _ fun xs J n0 Γ0 B0 H0 ⟨hu, hs, he⟩ e0 o0 it => by
    refine ⟨fun i m σ H => m + i = xs.length ∧ ∃ n Γ B', I xs i n Γ ∧ Ex B0 B' ∧ Ok K w n Γ σ B' H, ?_, ?_⟩
    · obtain ⟨n1, Γ1, vw, hI⟩ := hu
      obtain ⟨B1, e1, o1⟩ := vw σ B0 H0 o0
      exact ⟨xs.length, rfl, n1, Γ1, B1, hI, e1, o1⟩
    · rintro i m σ1 H1 ⟨hm, n1, Γ1, B1, hI, e1, o1⟩
      by_cases hi : i < xs.length
      · refine .inr ⟨it.go i H1 (e1.trans o1.ex) hi, fun σ' H' => ∃ n Γ B', I xs (i + 1) n Γ ∧ Ex B0 B' ∧ Ok K w n Γ σ' B' H', ?_, ?_⟩
        · rintro σ' H' ⟨n2, Γ2, B2, h1, h2, h3⟩
          exact ⟨m - 1, by omega, by omega, n2, Γ2, B2, h1, h2, h3⟩
        · intro v H' hy
          obtain ⟨B2, gr, rp⟩ := it.yld i _ H1 B1 v H' (List.getElem?_eq_getElem hi) e1 o1.ex hy
          have o2 := o1.grow gr
          refine hs i _ n1 Γ1 (List.getElem?_eq_getElem hi) hI σ1 B2 H' o2 v rp _ fun n3 Γ3 σ3 B3 H3 q3 e3 o3 => ?_
          have eb : Ex B B3 := ((e0.trans e1).trans gr.b).trans e3
          refine q3 σ3 B3 H3 o3 _ (fun n4 Γ4 σ4 B4 H4 ⟨n5, Γ5, vw, hI5⟩ e4 o4 => ?_) (fun n4 Γ4 σ4 B4 H4 q4 e4 o4 => a n4 Γ4 σ4 B4 H4 q4 (eb.trans e4) o4) (fun n4 Γ4 σ4 B4 H4 ⟨n5, Γ5, vw, hI5⟩ e4 o4 => ?_)
            (fun x v n' B' H' q e' => d x v n' B' H' q (eb.trans e'))
          · obtain ⟨B5, e5, o5⟩ := vw σ4 B4 H4 o4
            exact ⟨n5, Γ5, B5, hI5, (((e1.trans gr.b).trans e3).trans e4).trans e5, o5⟩
          · obtain ⟨B5, e5, o5⟩ := vw σ4 B4 H4 o4
            exact ⟨n5, Γ5, B5, hI5, (((e1.trans gr.b).trans e3).trans e4).trans e5, o5⟩
      · have hi2 : i = xs.length := by omega
        subst hi2
        exact .inl ⟨it.stop H1 (e1.trans o1.ex), a n1 Γ1 σ1 B1 H1 (he n1 Γ1 hI) (e0.trans e1) o1⟩
theorem ws_while {tt : TT} (I : Nat → NK) (m : Nat) (h0 : Up K w (I m) n Γ)
    (hs : ∀ m n Γ, I m n Γ → WpT K w n Γ tt (fun n Γ => WpS K w n Γ ts res (fun n Γ => ∃ m', m' < m ∧ Up K w (I m') n Γ) nx (fun n Γ => ∃ m', m' < m ∧ Up K w (I m') n Γ) rt) nx) :
    WpS K w n Γ (tWhile tt ts) res nx bk ct rt := fun σ B H ok D a b c d => by
  refine ⟨fun m σ H => ∃ n Γ B', I m n Γ ∧ Ex B B' ∧ Ok K w n Γ σ B' H, ?_, ?_⟩
  · obtain ⟨n1, Γ1, vw, hI⟩ := h0
    obtain ⟨B1, e1, o1⟩ := vw σ B H ok
    exact ⟨m, n1, Γ1, B1, hI, e1, o1⟩
  · rintro m σ1 H1 ⟨n1, Γ1, B1, hI, e1, o1⟩
    refine hs m n1 Γ1 hI σ1 B1 H1 o1 _ (fun n2 Γ2 B2 H2 q2 e2 o2 => ?_) (fun n2 Γ2 B2 H2 q2 e2 o2 => ?_)
    · rw [if_pos rfl]
      refine ⟨fun σ' H' => ∃ m', m' < m ∧ ∃ n Γ B', I m' n Γ ∧ Ex B B' ∧ Ok K w n Γ σ' B' H', fun σ' H' ⟨m', h1, h2⟩ => ⟨m', h1, h2⟩, ?_⟩
      have eb : Ex B B2 := e1.trans e2
      refine q2 σ1 B2 H2 o2 _ (fun n4 Γ4 σ4 B4 H4 ⟨m', hm, n5, Γ5, vw, hI5⟩ e4 o4 => ?_) (fun n4 Γ4 σ4 B4 H4 q4 e4 o4 => a n4 Γ4 σ4 B4 H4 q4 (eb.trans e4) o4) (fun n4 Γ4 σ4 B4 H4 ⟨m', hm, n5, Γ5, vw, hI5⟩ e4 o4 => ?_)
        (fun x v n' B' H' q e' => d x v n' B' H' q (eb.trans e'))
      · obtain ⟨B5, e5, o5⟩ := vw σ4 B4 H4 o4
        exact ⟨m', hm, n5, Γ5, B5, hI5, (eb.trans e4).trans e5, o5⟩
      · obtain ⟨B5, e5, o5⟩ := vw σ4 B4 H4 o4
        exact ⟨m', hm, n5, Γ5, B5, hI5, (eb.trans e4).trans e5, o5⟩
    · rw [if_neg Bool.false_ne_true]
      exact a n2 Γ2 σ1 B2 H2 q2 (e1.trans e2) o2
end
end TL

/-! # TL: arguments, defs and their promises, the pen -/
namespace TL
open PySem L2
open PySem.W (Frag)

section
variable {K : Frag} {w : Wd} {n : Option Nat} {Γ : Env} {α β γ δ ρ A : Type} {t : Ty α} {u : Ty β} {ta tb te : TE} {ts ts' : TS} {res : ρ → Ent} {nx bk ct : NK} {rt : ρ → Option Nat → Prop}

/-! ### arguments -/
theorem wa_nil {k : Unit → NK} (h : k () n Γ) : WpA K w n Γ tNil aNil k := fun σ B H ok Q c => c () [] n Γ B H h (Ex.refl _) ok rfl
theorem wa_cons {r : TyA A} {tr : TA} {k : α × A → NK} (h : WpE K w n Γ te t (fun x n Γ => WpA K w n Γ tr r (fun a n Γ => k (x, a) n Γ))) : WpA K w n Γ (tCons te tr) (aCons t r) k := fun σ B H ok Q c =>
  h σ B H ok _ fun x v n1 Γ1 B1 H1 q1 e1 o1 r1 => q1 σ B1 H1 o1 _ fun a vs n2 Γ2 B2 H2 q2 e2 o2 r2 => c (x, a) (v :: vs) n2 Γ2 B2 H2 q2 (e1.trans e2) o2 ⟨v, vs, rfl, t.mono e2 r1, r2⟩
theorem wa_pen {i : Nat} {r : TyA A} {tr : TA} {k : A → NK} (hi : Γ[i]? = some .pen) (h : WpA K w n Γ tr r k) : WpA K w n Γ (tCons (tVar i) tr) (aPen r) k := fun σ B H ok Q c => by
  have hs : σ[i]? = some (some (.ref w.d)) := ok.sl i _ hi
  exact ⟨_, hs, h σ B H ok _ fun a vs n2 Γ2 B2 H2 q2 e2 o2 r2 => c a (.ref w.d :: vs) n2 Γ2 B2 H2 q2 e2 o2 ⟨vs, rfl, r2⟩⟩
/-- one datum as the only argument of a built-in -/
theorem we_cb1 {r : List V → Hp → VK → Prop} {k : β → NK} (f : α → β) (C : α → Prop) (hr : ∀ B x a H Q, t.rep B x a → Ex B H → C a → (∀ v, u.rep B v (f a) → Q v H) → r [x] H Q) (h : WpE K w n Γ ta t (fun a n Γ => C a ∧ k (f a) n Γ)) :
    WpE K w n Γ (tCB r (tCons ta tNil)) u k := fun σ B H ok Q c =>
  h σ B H ok _ fun a x n1 Γ1 B1 H1 ⟨hc, q⟩ e o r1 => hr B1 x a H1 Q r1 o.ex hc fun v rv => c _ v n1 Γ1 B1 H1 q e o rv
theorem we_cb2 {r : List V → Hp → VK → Prop} {s : Ty δ} {k : δ → NK} (f : α → β → δ) (C : α → β → Prop) (hr : ∀ B x y a b H Q, t.rep B x a → u.rep B y b → Ex B H → C a b → (∀ v, s.rep B v (f a b) → Q v H) → r [x, y] H Q)
    (h : WpE K w n Γ ta t (fun a n Γ => WpE K w n Γ tb u (fun b n Γ => C a b ∧ k (f a b) n Γ))) : WpE K w n Γ (tCB r (tCons ta (tCons tb tNil))) s k := fun σ B H ok Q c =>
  h σ B H ok _ fun a x n1 Γ1 B1 H1 q1 e1 o1 r1 => q1 σ B1 H1 o1 _ fun b y n2 Γ2 B2 H2 ⟨hc, q⟩ e2 o2 r2 => hr B2 x y a b H2 Q (t.mono e2 r1) r2 o2.ex hc fun v rv => c _ v n2 Γ2 B2 H2 q (e1.trans e2) o2 rv

/-! ### what a def promises -/
structure FS (K : Frag) where
  A : Type
  args : TyA A
  ρ : Type
  res : ρ → Ent
  cost : Nat
  pre : A → Prop
  post : A → ρ → Prop
/-- n draws before, n' behind -/
def Costs (c : Nat) (n n' : Option Nat) : Prop := (c = 0 ∧ n' = n) ∨ ∃ m, n = some m ∧ n' = some (m + c)
/-- within the promised draws -/
def CLe (c : Nat) (n n' : Option Nat) : Prop := (c = 0 ∧ n' = n) ∨ ∃ m m', n = some m ∧ n' = some m' ∧ m' ≤ m + c
def May (c : Nat) (n : Option Nat) : Prop := c = 0 ∨ ∃ m, n = some m ∧ m + c ≤ 2 ^ 60
def FS.sp (S : FS K) : Sp := fun vs H Q _ => ∃ (d ca : Addr) (cs : List Int) (n : Option Nat) (B : Hp) (a : S.A), Ok K ⟨d, ca, cs, B, H⟩ n [] [] B H ∧ S.args.rep d B vs a ∧ S.pre a ∧ May S.cost n ∧
  ∀ x v n' B' H', S.post a x → Costs S.cost n n' → Ex B B' → Ok K ⟨d, ca, cs, B, H⟩ n' [] [] B' H' → SlotOk ⟨d, ca, cs, B, H⟩ B' H' (S.res x) (some (some v)) → Q v H'
/-- from the callee's end to the caller's -/
theorem Ok.back {n' : Option Nat} {σ : L2.St} {B H B' H' : Hp} (h : Ok K w n Γ σ B H) (c : Ok K ⟨w.d, w.ca, w.cs, B, H⟩ n' [] [] B' H') : Ok K w n' Γ σ B' H' := by
  have nwd : ∀ a o, B' a = some o → B a = some o ∨ H a = none := c.nw
  have neq : ∀ l, w.H0 l = none → l ≠ w.d := fun l e z => noS e (z ▸ h.hd)
  refine ⟨c.ex, h.ex0.trans c.ex0, fun a o q => ?_, fun a o q ne => c.kp a o (h.kp a o q ne) ne, h.hd, c.hh, fun m q => (c.pn m q).cast rfl rfl rfl, h.ln, fun i e q => ?_, h.ds⟩
  · rcases nwd a o q with z | z
    · exact h.nw a o z
    · have cc : a ≠ w.d := fun cc => noS z (cc ▸ h.hh)
      right
      cases e : w.H0 a with
      | none => rfl
      | some u => rw [h.kp a u e cc] at z; cases z
  · have s := h.sl i e q
    refine s.keep c.ex0 rfl fun a ha => ?_
    obtain ⟨o, h1, h2, h3⟩ := s.owned ha
    refine ⟨by rw [h1]; exact c.kp a o h1 (neq a h3), ?_, h3⟩
    cases q : B' a with
    | none => rfl
    | some u =>
      rcases nwd a u q with z | z
      · rw [h2] at z; cases z
      · rw [h1] at z; cases z
theorem Ok.entry {σ : L2.St} {B H : Hp} (h : Ok K w n Γ σ B H) : Ok K ⟨w.d, w.ca, w.cs, B, H⟩ n [] [] B H :=
  ⟨h.ex, Ex.refl _, fun a o q => .inl q, fun a o q _ => q, h.hh, h.hh, fun m q => (h.pn m q).cast rfl rfl rfl, rfl, fun i e q => by simp at q, fun i j e e' a _ q => by simp at q⟩
/-- a call that gives a datum -/
theorem we_call {S : FS K} {E : XK} {ta : TA} {t : Ty S.ρ} {k : S.ρ → NK} (hres : S.res = fun x => .im t x)
    (h : WpA K w n Γ ta S.args (fun a n Γ => S.pre a ∧ May S.cost n ∧ ∀ x n', S.post a x → Costs S.cost n n' → k x n' Γ)) : WpE K w n Γ (tCall S.sp [] E ta) t k := fun σ B H ok Q c =>
  h σ B H ok _ fun a vs n1 Γ1 B1 H1 ⟨hp, hm, q⟩ e o r => by
    rw [List.append_nil]
    refine ⟨w.d, w.ca, w.cs, n1, B1, a, o.entry, r, hp, hm, fun x v n' B' H' hx hc e' o' s => ?_⟩
    rw [hres] at s
    obtain ⟨v', h1, h2⟩ := s
    cases h1
    exact c x v n' Γ1 B' H' (q x n' hx hc) (e.trans e') (o.back o') h2
/-- a call that gives a new thing of one's own -/
theorem wm_call {S : FS K} {E : XK} {ta : TA} {rs : S.ρ → Rs} {k : Rs → NK} (hres : S.res = fun x => .mu (rs x))
    (h : WpA K w n Γ ta S.args (fun a n Γ => S.pre a ∧ May S.cost n ∧ ∀ x n', S.post a x → Costs S.cost n n' → k (rs x) n' Γ)) : WpM K w n Γ (tCall S.sp [] E ta) k := fun σ B H ok Q c =>
  h σ B H ok _ fun a vs n1 Γ1 B1 H1 ⟨hp, hm, q⟩ e o r => by
    rw [List.append_nil]
    refine ⟨w.d, w.ca, w.cs, n1, B1, a, o.entry, r, hp, hm, fun x v n' B' H' hx hc e' o' s => ?_⟩
    rw [hres] at s
    obtain ⟨l, ob, h1, h2, h3, h4, h5⟩ := s
    cases h1
    refine c (rs x) l n' Γ1 B' H' (q x n' hx hc) (e.trans e') (o.back o') ⟨⟨ob, h2, h5⟩, h3, ?_, fun i r' hi z => ?_⟩
    · cases q : w.H0 l with
      | none => rfl
      | some u =>
        have h4' : H1 l = none := h4
        have ne : l ≠ w.d := fun z => noS h4' (z ▸ o.hh)
        rw [o.kp l u q ne] at h4'; cases h4'
    · obtain ⟨o', k2, _⟩ := (o.sl i _ hi).owned z
      have h4' : H1 l = none := h4
      rw [h4'] at k2; cases k2
/-- new things that are used as data -/
theorem we_ofM {xs : List α → Prop} {k : List α → NK} (h : WpM K w n Γ te (fun r n Γ => ∃ ys, r = rL t ys ∧ k ys n Γ)) : WpE K w n Γ te (tL t) k := fun σ B H ok Q c =>
  h σ B H ok _ fun r l n' Γ' B' H' ⟨ys, hr, q⟩ e o ow => by
    subst hr
    have ow' := ow
    obtain ⟨⟨ob, h1, vs, rfl, p⟩, h3, h4, df⟩ := ow'
    have eb : Ex B' (upd B' l (.lst vs)) := Ex.new h3
    have ned : l ≠ w.d := ow.ned o
    refine c ys _ n' Γ' (upd B' l (.lst vs)) H' q (e.trans eb) ?_ ⟨l, vs, rfl, upd_same, pw_mono (fun _ _ => t.mono eb) p⟩
    refine o.frz eb (fun a u q => ?_) rfl fun j e' q => .inr ⟨q, fun a ha => ?_⟩
    · by_cases z : a = l
      · subst z; rw [upd_same] at q; cases q; exact .inr ⟨h1, h4⟩
      · rw [upd_ne z] at q; exact .inl q
    · have ne : a ≠ l := fun zz => df j e' q (by rw [← zz]; exact ha)
      obtain ⟨_, _, hb, _⟩ := (o.sl j e' q).owned ha
      rw [upd_ne ne]; exact hb

/-! ### a def's body -/
/-- the parameters' entries -/
class Ents {A : Type} (T : TyA A) where
  len : Nat
  ents : A → Env
  ok : ∀ {d : Addr} {B : Hp} {vs : List V} {a : A}, T.rep d B vs a → (ents a).length = vs.length ∧ vs.length = len ∧ ∀ (H : Hp) (w : Wd), w.d = d → ∀ (i : Nat) e, (ents a)[i]? = some e → (∀ s a, ¬ e.owns s a) ∧ SlotOk w B H e (vs.map some)[i]?
instance : Ents aNil := ⟨0, fun _ => [], fun {d B vs a} h => by cases h; exact ⟨rfl, rfl, fun H w _ i e q => by simp at q⟩⟩
instance {α A : Type} {t : Ty α} {r : TyA A} [E : Ents r] : Ents (aCons t r) := ⟨E.len + 1, fun a => .im t a.1 :: E.ents a.2, fun {d B vs a} h => by
  obtain ⟨v, us, rfl, h1, h2⟩ := h
  obtain ⟨q1, q2, q3⟩ := E.ok h2
  refine ⟨by simp [q1], by simp [q2], fun H w hw i e q => ?_⟩
  cases i with
  | zero =>
    simp at q; subst q
    exact ⟨fun _ _ z => z, v, by simp, h1⟩
  | succ i => exact q3 H w hw i e (by simpa using q)⟩
instance {A : Type} {r : TyA A} [E : Ents r] : Ents (aPen r) := ⟨E.len + 1, fun a => .pen :: E.ents a, fun {d B vs a} h => by
  obtain ⟨us, rfl, h2⟩ := h
  obtain ⟨q1, q2, q3⟩ := E.ok h2
  refine ⟨by simp [q1], by simp [q2], fun H w hw i e q => ?_⟩
  cases i with
  | zero =>
    simp at q; subst q
    refine ⟨fun _ _ z => z, ?_⟩
    show _ = _
    rw [hw]; simp
  | succ i => exact q3 H w hw i e (by simpa using q)⟩
theorem fs_len {S : FS K} [E : Ents S.args] {vs : List V} {H : Hp} {Q : VK} {X : XK} (h : S.sp vs H Q X) : vs.length = E.len := by
  obtain ⟨d, ca, cs, n, B, a, _, r, _⟩ := h
  exact (E.ok r).2.1
/-- the body keeps the promise -/
theorem fs_body {S : FS K} [E : Ents S.args] {N : List Str} {vs : List V} {H : Hp} {Q : VK} {X : XK} {t : TS} (hN : E.len ≤ N.length) (hsp : S.sp vs H Q X)
    (body : ∀ (w : Wd) (n : Option Nat) (a : S.A), S.pre a → May S.cost n → WpS K w n (E.ents a ++ List.replicate (N.length - E.len) .no) t S.res
      (fun n' _ => ∃ x, S.post a x ∧ S.res x = .im tN () ∧ CLe S.cost n n') (fun _ _ => False) (fun _ _ => False) (fun x n' => S.post a x ∧ CLe S.cost n n')) :
    t { nx := fun _ H' => Q .non H', rt := Q } (L2.start N vs) H := by
  obtain ⟨d, ca, cs, n, B, a, o, r, hp, hm, q⟩ := hsp
  obtain ⟨l1, l2, l3⟩ := E.ok r
  have ok0 : Ok K ⟨d, ca, cs, B, H⟩ n (E.ents a ++ List.replicate (N.length - E.len) .no) (L2.start N vs) B H := by
    have noown : ∀ (i : Nat) e, (E.ents a ++ List.replicate (N.length - E.len) Ent.no)[i]? = some e → ∀ s a, ¬ e.owns s a := fun i e z => by
      by_cases hi : i < (E.ents a).length
      · rw [List.getElem?_append_left hi] at z
        exact (l3 H ⟨d, ca, cs, B, H⟩ rfl i _ z).1
      · rw [List.getElem?_append_right (by omega), List.getElem?_replicate] at z
        split at z
        · cases z; exact fun _ _ y => y
        · cases z
    refine ⟨o.ex, o.ex0, o.nw, o.kp, o.hd, o.hh, o.pn, ?_, fun i e z => ?_, fun i j e e' a _ z _ oi => absurd oi (noown i e z _ a)⟩
    · unfold L2.start; simp [l1, l2]
    · by_cases hi : i < (E.ents a).length
      · rw [List.getElem?_append_left hi] at z
        have := (l3 H ⟨d, ca, cs, B, H⟩ rfl i _ z).2
        unfold L2.start
        rw [List.getElem?_append_left (by simpa [← l1] using hi)]
        exact this
      · rw [List.getElem?_append_right (by omega), List.getElem?_replicate] at z
        split at z
        · cases z; trivial
        · cases z
  have fin : ∀ {n' : Option Nat} {B' H' : Hp}, CLe S.cost n n' → Ok K ⟨d, ca, cs, B, H⟩ n' [] [] B' H' → ∃ n2, Costs S.cost n n2 ∧ Ok K ⟨d, ca, cs, B, H⟩ n2 [] [] B' H' := fun {n' B' H'} c o1 => by
    rcases c with ⟨c0, rfl⟩ | ⟨m, m', rfl, rfl, hle⟩
    · exact ⟨n', .inl ⟨c0, rfl⟩, o1⟩
    · exact ⟨some (m + S.cost), .inr ⟨m, rfl, rfl⟩, o1.le hle⟩
  refine body ⟨d, ca, cs, B, H⟩ n a hp hm (L2.start N vs) B H ok0 _ (fun n' Γ' σ' B' H' ⟨x, hx, hr, hc⟩ e o' => ?_) (fun _ _ _ _ _ h _ _ => h.elim) (fun _ _ _ _ _ h _ _ => h.elim) (fun x v n' B' H' ⟨hx, hc⟩ e o' s => ?_)
  · obtain ⟨n2, c2, o2⟩ := fin hc o'.nil
    exact q x .non n2 B' H' hx c2 e o2 (by rw [hr]; exact ⟨.non, rfl, rfl⟩)
  · obtain ⟨n2, c2, o2⟩ := fin hc o'
    exact q x v n2 B' H' hx c2 e o2 s
end
end TL

/-! # TL: lists, tuples, comprehensions, dicts -/
namespace TL
open PySem L2
open PySem.W (Frag)

section
variable {X : Cx}
theorem peOr {e : Expr} {a b : TE} (h1 : PE X e a) (h2 : PE X e b) : PE X e (fun σ H Q => a σ H Q ∨ b σ H Q) := ⟨fun pins s σ H Q I h => by
  rcases h with h | h
  · exact h1.run pins s σ H Q I h
  · exact h2.run pins s σ H Q I h⟩
theorem ptOr {e : Expr} {a b : TT} (h1 : PT X e a) (h2 : PT X e b) : PT X e (fun σ H Q => a σ H Q ∨ b σ H Q) := ⟨fun pins s σ H Q I h => by
  rcases h with h | h
  · exact h1.run pins s σ H Q I h
  · exact h2.run pins s σ H Q I h⟩
theorem psOr {e : Stmt} {a b : TS} (h1 : PS X e a) (h2 : PS X e b) : PS X e (fun D σ H => a D σ H ∨ b D σ H) := ⟨fun pins s σ H D I h => by
  rcases h with h | h
  · exact h1.run pins s σ H D I h
  · exact h2.run pins s σ H D I h⟩
end

section
variable {K : Frag} {w : Wd} {n : Option Nat} {Γ : Env} {α β γ δ ρ A : Type} {t : Ty α} {u : Ty β} {ta tb te : TE} {ts ts' : TS} {res : ρ → Ent} {nx bk ct : NK} {rt : ρ → Option Nat → Prop}

/-! ### displays -/
/-- data of one kind, one behind another -/
def aAll (t : Ty α) : TyA (List α) := ⟨fun _ B vs xs => Paired (t.rep B) vs xs, fun e p => pw_mono (fun _ _ => t.mono e) p⟩
theorem wal_nil {k : List α → NK} (h : k [] n Γ) : WpA K w n Γ tNil (aAll t) k := fun σ B H ok Q c => c [] [] n Γ B H h (Ex.refl _) ok .nil
theorem wal_cons {tr : TA} {k : List α → NK} (h : WpE K w n Γ te t (fun x n Γ => WpA K w n Γ tr (aAll t) (fun a n Γ => k (x :: a) n Γ))) : WpA K w n Γ (tCons te tr) (aAll t) k := fun σ B H ok Q c =>
  h σ B H ok _ fun x v n1 Γ1 B1 H1 q1 e1 o1 r1 => q1 σ B1 H1 o1 _ fun a vs n2 Γ2 B2 H2 q2 e2 o2 r2 => c (x :: a) (v :: vs) n2 Γ2 B2 H2 q2 (e1.trans e2) o2 (.cons (t.mono e2 r1) r2)
theorem wm_lst {ta : TA} {k : Rs → NK} (h : WpA K w n Γ ta (aAll t) (fun xs n Γ => xs.length ≤ 100000 ∧ k (rL t xs) n Γ)) : WpM K w n Γ (tLst ta) k := fun σ B H ok Q c =>
  h σ B H ok _ fun xs vs n1 Γ1 B1 H1 ⟨hz, q⟩ e o r => ⟨by rw [pw_len r]; exact sz hz, fun p hp => by
    have g := Grow.open (o := .lst vs) o.ex hp
    exact c _ p n1 Γ1 B1 _ q e (o.grow g) (Own.new o hp ⟨vs, rfl, r⟩)⟩
/-- a new tuple -/
theorem we_tupN {ta : TA} {T : TyA A} {s : Ty A} {k : A → NK} (hs : ∀ d B vs a p, T.rep d B vs a → B p = none → s.rep (upd B p (.tup vs)) (.ref p) a) (hl : ∀ d B vs a, T.rep d B vs a → vs.length ≤ 100000) (h : WpA K w n Γ ta T k) : WpE K w n Γ (tTup ta) s k := fun σ B H ok Q c =>
  h σ B H ok _ fun a vs n1 Γ1 B1 H1 q e o r => ⟨sz (hl _ _ _ _ r), fun p hp => by
    have g := Grow.new (o := .tup vs) o.ex hp
    exact c a _ n1 Γ1 _ _ q (e.trans g.b) (o.grow g) (hs _ _ _ _ p r (o.ex.none hp))⟩
theorem we_tup2 {ta tb : TE} {k : α × β → NK} (h : WpE K w n Γ ta t (fun x n Γ => WpE K w n Γ tb u (fun y n Γ => k (x, y) n Γ))) : WpE K w n Γ (tTup (tCons ta (tCons tb tNil))) (tP t u) k :=
  we_tupN (A := α × β) (T := ⟨fun d B vs a => ∃ v v', vs = [v, v'] ∧ t.rep B v a.1 ∧ u.rep B v' a.2, fun e ⟨v, v', h, h1, h2⟩ => ⟨v, v', h, t.mono e h1, u.mono e h2⟩⟩)
    (fun d B vs a p ⟨v, v', h, h1, h2⟩ hp => by subst h; exact ⟨p, v, v', rfl, upd_same, t.mono (Ex.new hp) h1, u.mono (Ex.new hp) h2⟩) (fun d B vs a ⟨v, v', h, _⟩ => by subst h; exact (by decide : 2 ≤ 100000))
    (fun σ B H ok Q c => h σ B H ok _ fun x v n1 Γ1 B1 H1 q1 e1 o1 r1 => q1 σ B1 H1 o1 _ fun y v' n2 Γ2 B2 H2 q2 e2 o2 r2 => c (x, y) _ n2 Γ2 B2 H2 q2 (e1.trans e2) o2 ⟨v, v', rfl, t.mono e2 r1, r2⟩)
theorem we_tup3 {tc : TE} {s : Ty γ} {ta tb : TE} {k : α × β × γ → NK} (h : WpE K w n Γ ta t (fun x n Γ => WpE K w n Γ tb u (fun y n Γ => WpE K w n Γ tc s (fun z n Γ => k (x, y, z) n Γ)))) : WpE K w n Γ (tTup (tCons ta (tCons tb (tCons tc tNil)))) (tP3 t u s) k :=
  we_tupN (A := α × β × γ) (T := ⟨fun d B vs a => ∃ v v' v2, vs = [v, v', v2] ∧ t.rep B v a.1 ∧ u.rep B v' a.2.1 ∧ s.rep B v2 a.2.2, fun e ⟨v, v', v2, h, h1, h2, h3⟩ => ⟨v, v', v2, h, t.mono e h1, u.mono e h2, s.mono e h3⟩⟩)
    (fun d B vs a p ⟨v, v', v2, h, h1, h2, h3⟩ hp => by subst h; exact ⟨p, v, v', v2, rfl, upd_same, t.mono (Ex.new hp) h1, u.mono (Ex.new hp) h2, s.mono (Ex.new hp) h3⟩) (fun d B vs a ⟨v, v', v2, h, _⟩ => by subst h; exact (by decide : 3 ≤ 100000))
    (fun σ B H ok Q c => h σ B H ok _ fun x v n1 Γ1 B1 H1 q1 e1 o1 r1 => q1 σ B1 H1 o1 _ fun y v' n2 Γ2 B2 H2 q2 e2 o2 r2 => q2 σ B2 H2 o2 _ fun z v2 n3 Γ3 B3 H3 q3 e3 o3 r3 =>
      c (x, y, z) _ n3 Γ3 B3 H3 q3 ((e1.trans e2).trans e3) o3 ⟨v, v', v2, rfl, t.mono (e2.trans e3) r1, u.mono e3 r2, r3⟩)
theorem we_tupU {ta : TA} {k : List α → NK} (h : WpA K w n Γ ta (aAll t) (fun xs n Γ => xs.length ≤ 100000 ∧ k xs n Γ)) : WpE K w n Γ (tTup ta) (tU t) k := fun σ B H ok Q c =>
  h σ B H ok _ fun a vs n1 Γ1 B1 H1 ⟨hz, q⟩ e o r => ⟨by rw [pw_len r]; exact sz hz, fun p hp => by
    have g := Grow.new (o := .tup vs) o.ex hp
    exact c a _ n1 Γ1 _ _ q (e.trans g.b) (o.grow g) ⟨p, vs, rfl, upd_same, pw_mono (fun _ _ => t.mono g.b) r⟩⟩

/-! ### list(x), tuple(x), +, *, slices -/
theorem wm_list {s : Ty (List α)} (hs : ∀ {B v xs}, s.rep B v xs → ∃ a vs, v = .ref a ∧ (SqL K B a vs ∨ SqT K B a vs) ∧ Paired (t.rep B) vs xs) {k : Rs → NK} (h : WpE K w n Γ ta s (fun xs n Γ => k (rL t xs) n Γ)) : WpM K w n Γ (tCB (rListU K) (tCons ta tNil)) k := fun σ B H ok Q c =>
  h σ B H ok _ fun xs v n1 Γ1 B1 H1 q e o r => by
    obtain ⟨a, vs, rfl, hl, p⟩ := hs r
    refine ⟨a, vs, rfl, ?_, fun l hl => ?_⟩
    · rcases hl with hl | hl
      · exact .inl (o.ex.l hl)
      · exact .inr (o.ex.t hl)
    · exact c _ l n1 Γ1 B1 _ q e (o.grow (Grow.open o.ex hl)) (Own.new o hl ⟨vs, rfl, p⟩)
theorem wm_listL {k : Rs → NK} (h : WpE K w n Γ ta (tL t) (fun xs n Γ => k (rL t xs) n Γ)) : WpM K w n Γ (tCB (rListU K) (tCons ta tNil)) k := wm_list (t := t) (s := tL t) (fun ⟨a, vs, h, s, p⟩ => ⟨a, vs, h, .inl (SqL.of s), p⟩) h
theorem wm_listU {k : Rs → NK} (h : WpE K w n Γ ta (tU t) (fun xs n Γ => k (rL t xs) n Γ)) : WpM K w n Γ (tCB (rListU K) (tCons ta tNil)) k := wm_list (t := t) (s := tU t) (fun ⟨a, vs, h, s, p⟩ => ⟨a, vs, h, .inr (SqT.of s), p⟩) h
theorem we_tupleL {k : List α → NK} (h : WpE K w n Γ ta (tL t) k) : WpE K w n Γ (tCB (rTupleU K) (tCons ta tNil)) (tU t) k := fun σ B H ok Q c =>
  h σ B H ok _ fun xs v n1 Γ1 B1 H1 q e o ⟨a, vs, hv, hs, p⟩ => by
    subst hv
    refine ⟨a, vs, rfl, .inl ⟨SqL.of (o.ex _ _ hs), fun l hl => ?_⟩⟩
    have g := Grow.new (o := .tup vs) o.ex hl
    exact c xs _ n1 Γ1 _ _ q (e.trans g.b) (o.grow g) ⟨l, vs, rfl, upd_same, pw_mono (fun _ _ => t.mono g.b) p⟩
theorem we_tupleU {k : List α → NK} (h : WpE K w n Γ ta (tU t) k) : WpE K w n Γ (tCB (rTupleU K) (tCons ta tNil)) (tU t) k := fun σ B H ok Q c =>
  h σ B H ok _ fun xs v n1 Γ1 B1 H1 q e o ⟨a, vs, hv, hs, p⟩ => by
    subst hv
    exact ⟨a, vs, rfl, .inr ⟨SqT.of (o.ex _ _ hs), c xs _ n1 Γ1 _ _ q e o ⟨a, vs, rfl, hs, p⟩⟩⟩
theorem wm_cat {k : Rs → NK} (h : WpE K w n Γ ta (tL t) (fun xs n Γ => WpE K w n Γ tb (tL t) (fun ys n Γ => xs.length + ys.length ≤ 100000 ∧ k (rL t (xs ++ ys)) n Γ))) : WpM K w n Γ (tOp rAddU ta tb) k := fun σ B H ok Q c =>
  h σ B H ok _ fun xs v n1 Γ1 B1 H1 q1 e1 o1 ⟨a, vs, hv, hs, p⟩ => q1 σ B1 H1 o1 _ fun ys v2 n2 Γ2 B2 H2 ⟨hz, q⟩ e2 o2 ⟨a2, vs2, hv2, hs2, p2⟩ => by
    subst hv; subst hv2
    refine .inr (.inr ⟨a, a2, vs, vs2, rfl, rfl, o2.ex _ _ (e2 _ _ hs), o2.ex _ _ hs2, by rw [pw_len p, pw_len p2]; exact sz hz, fun l hl => ?_⟩)
    exact c _ l n2 Γ2 B2 _ q (e1.trans e2) (o2.grow (Grow.open o2.ex hl)) (Own.new o2 hl ⟨vs ++ vs2, rfl, pw_app (pw_mono (fun _ _ => t.mono e2) p) p2⟩)
theorem pw_flat {F : α → β → Prop} {l : List α} {m : List β} (p : Paired F l m) : ∀ j, Paired F (List.replicate j l).flatten (List.replicate j m).flatten
  | 0 => .nil
  | j + 1 => by rw [List.replicate_succ, List.replicate_succ, List.flatten_cons, List.flatten_cons]; exact pw_app p (pw_flat p j)
theorem wm_rep {k : Rs → NK} (h : WpE K w n Γ ta (tL t) (fun xs n Γ => WpE K w n Γ tb tI (fun j n Γ => (-(2 ^ 63) ≤ j ∧ j < 2 ^ 63 ∧ xs.length * j.toNat ≤ 100000) ∧ k (rL t (List.replicate j.toNat xs).flatten) n Γ))) : WpM K w n Γ (tOp rMulU ta tb) k := fun σ B H ok Q c =>
  h σ B H ok _ fun xs v n1 Γ1 B1 H1 q1 e1 o1 ⟨a, vs, hv, hs, p⟩ => q1 σ B1 H1 o1 _ fun j v2 n2 Γ2 B2 H2 ⟨hz, q⟩ e2 o2 r2 => by
    subst hv
    refine .inr (.inr ⟨a, j, vs, rfl, r2, o2.ex _ _ (e2 _ _ hs), hz.1, hz.2.1, by rw [pw_len p]; exact sz hz.2.2, fun l hl => ?_⟩)
    exact c _ l n2 Γ2 B2 _ q (e1.trans e2) (o2.grow (Grow.open o2.ex hl)) (Own.new o2 hl ⟨_, rfl, pw_flat (pw_mono (fun _ _ => t.mono e2) p) _⟩)
/-- [e] * n -/
theorem flat_one {x : α} (j : Nat) : (List.replicate j [x]).flatten = List.replicate j x := by
  induction j with
  | zero => rfl
  | succ j ih => rw [List.replicate_succ, List.flatten_cons, ih, List.replicate_succ]; rfl
/-- slices' ends -/
def WpO (K : Frag) (w : Wd) (n : Option Nat) (Γ : Env) (to : TO) (k : Option Int → NK) : Prop := ∀ σ B H, Ok K w n Γ σ B H → ∀ Q : Option Int → Hp → Prop, (∀ x n' Γ' B' H', k x n' Γ' → Ex B B' → Ok K w n' Γ' σ B' H' → Q x H') → to σ H Q
theorem wo_none {k : Option Int → NK} (h : k none n Γ) : WpO K w n Γ tNoPart k := fun σ B H ok Q c => c none n Γ B H h (Ex.refl _) ok
theorem wo_some {k : Option Int → NK} (h : WpE K w n Γ te tI (fun i n Γ => k (some i) n Γ)) : WpO K w n Γ (tPart te) k := fun σ B H ok Q c => h σ B H ok _ fun i v n1 Γ1 B1 H1 q e o r => ⟨i, r, c _ n1 Γ1 B1 H1 q e o⟩
def cutL (xs : List α) (lo hi : Option Int) : List α := (xs.drop (HT.sIx xs.length 0 lo)).take (HT.sIx xs.length xs.length hi - HT.sIx xs.length 0 lo)
theorem wm_slice {tl th : TO} {s : Ty (List α)} (hs : ∀ {B v xs}, s.rep B v xs → ∃ a vs, v = .ref a ∧ SqL K B a vs ∧ Paired (t.rep B) vs xs) {k : Rs → NK}
    (h : WpE K w n Γ te s (fun xs n Γ => WpO K w n Γ tl (fun lo n Γ => WpO K w n Γ th (fun hi n Γ => k (rL t (cutL xs lo hi)) n Γ)))) : WpM K w n Γ (tSl (rSlL K) te tl th) k := fun σ B H ok Q c =>
  h σ B H ok _ fun xs v n1 Γ1 B1 H1 q1 e1 o1 r => q1 σ B1 H1 o1 _ fun lo n2 Γ2 B2 H2 q2 e2 o2 => q2 σ B2 H2 o2 _ fun hi n3 Γ3 B3 H3 q e3 o3 => by
    obtain ⟨a, vs, rfl, hl, p⟩ := hs (s.mono (e2.trans e3) r)
    refine ⟨a, vs, rfl, o3.ex.l hl, fun l hn => ?_⟩
    refine c _ l n3 Γ3 B3 _ q ((e1.trans e2).trans e3) (o3.grow (Grow.open o3.ex hn)) (Own.new o3 hn ⟨_, rfl, ?_⟩)
    unfold cutV cutL
    rw [pw_len p]
    exact pw_take _ (pw_drop _ p)
theorem wm_sliceL {tl th : TO} {k : Rs → NK} (h : WpE K w n Γ te (tL t) (fun xs n Γ => WpO K w n Γ tl (fun lo n Γ => WpO K w n Γ th (fun hi n Γ => k (rL t (cutL xs lo hi)) n Γ)))) : WpM K w n Γ (tSl (rSlL K) te tl th) k := wm_slice (t := t) (s := tL t) (fun ⟨a, vs, h, s, p⟩ => ⟨a, vs, h, SqL.of s, p⟩) h

/-! ### items, len -/
theorem we_ixS {s : Ty (List α)} (hs : ∀ {B v xs}, s.rep B v xs → ∃ a vs, v = .ref a ∧ (SqL K B a vs ∨ SqT K B a vs) ∧ Paired (t.rep B) vs xs) {k : α → NK}
    (h : WpE K w n Γ ta s (fun xs n Γ => WpE K w n Γ tb tI (fun i n Γ => ∃ x, atI xs i = some x ∧ k x n Γ))) : WpE K w n Γ (tOp (rIx K) ta tb) t k := fun σ B H ok Q c =>
  h σ B H ok _ fun xs v n1 Γ1 B1 H1 q1 e1 o1 r1 => q1 σ B1 H1 o1 _ fun i v2 n2 Γ2 B2 H2 ⟨x, hx, q⟩ e2 o2 r2 => by
    obtain ⟨a, vs, rfl, hl, p⟩ := hs (s.mono e2 r1)
    have hv : ∃ y, atI vs i = some y ∧ t.rep B2 y x := by
      unfold atI at hx ⊢
      rw [pw_len p]
      cases z : ixN xs.length i with
      | none => rw [z] at hx; cases hx
      | some j =>
        rw [z] at hx
        exact pw_getR p hx
    obtain ⟨y, hy, ry⟩ := hv
    rcases hl with hl | hl
    · exact .inl ⟨a, vs, i, y, rfl, r2, o2.ex.l hl, hy, c x y n2 Γ2 B2 H2 q (e1.trans e2) o2 ry⟩
    · exact .inr (.inl ⟨a, vs, i, y, rfl, r2, o2.ex.t hl, hy, c x y n2 Γ2 B2 H2 q (e1.trans e2) o2 ry⟩)
theorem we_ixL {k : α → NK} (h : WpE K w n Γ ta (tL t) (fun xs n Γ => WpE K w n Γ tb tI (fun i n Γ => ∃ x, atI xs i = some x ∧ k x n Γ))) : WpE K w n Γ (tOp (rIx K) ta tb) t k :=
  we_ixS (s := tL t) (fun ⟨a, vs, h, s, p⟩ => ⟨a, vs, h, .inl (SqL.of s), p⟩) h
theorem we_ixU {k : α → NK} (h : WpE K w n Γ ta (tU t) (fun xs n Γ => WpE K w n Γ tb tI (fun i n Γ => ∃ x, atI xs i = some x ∧ k x n Γ))) : WpE K w n Γ (tOp (rIx K) ta tb) t k :=
  we_ixS (s := tU t) (fun ⟨a, vs, h, s, p⟩ => ⟨a, vs, h, .inr (SqT.of s), p⟩) h
theorem atI_int {xs : List α} {i : Int} (h0 : 0 ≤ i) (h : i.toNat < xs.length) : atI xs i = some xs[i.toNat] := by
  unfold atI
  rw [ixN_int h0 (by omega)]
  simp
theorem we_len {s : Ty α} {f : α → Nat} (hs : ∀ {B v x H}, s.rep B v x → Ex B H → LenV K v H (f x)) {k : Int → NK} (h : WpE K w n Γ ta s (fun x n Γ => k (f x : Int) n Γ)) : WpE K w n Γ (tCB (rLenU K) (tCons ta tNil)) tI k := fun σ B H ok Q c =>
  h σ B H ok _ fun x v n1 Γ1 B1 H1 q e o r => ⟨v, f x, rfl, hs r o.ex, c _ _ n1 Γ1 B1 H1 q e o rfl⟩
theorem we_lenL {k : Int → NK} (h : WpE K w n Γ ta (tL t) (fun xs n Γ => k (xs.length : Int) n Γ)) : WpE K w n Γ (tCB (rLenU K) (tCons ta tNil)) tI k :=
  we_len (s := tL t) (fun ⟨a, vs, h, s, p⟩ e => by subst h; exact .inl ⟨vs, SqL.of (e _ _ s), (pw_len p).symm⟩) h
theorem we_lenU {k : Int → NK} (h : WpE K w n Γ ta (tU t) (fun xs n Γ => k (xs.length : Int) n Γ)) : WpE K w n Γ (tCB (rLenU K) (tCons ta tNil)) tI k :=
  we_len (s := tU t) (fun ⟨a, vs, h, s, p⟩ e => by subst h; exact .inr ⟨vs, SqT.of (e _ _ s), (pw_len p).symm⟩) h
theorem we_lenLs {k : Int → NK} (h : WpE K w n Γ ta (tLs K t) (fun xs n Γ => k (xs.length : Int) n Γ)) : WpE K w n Γ (tCB (rLenU K) (tCons ta tNil)) tI k :=
  we_len (s := tLs K t) (fun ⟨a, vs, h, s, p⟩ e => by subst h; exact .inl ⟨vs, e.l s, (pw_len p).symm⟩) h
theorem we_intc {k : Int → NK} (h : WpE K w n Γ ta tI k) : WpE K w n Γ (tCB rIntU (tCons ta tNil)) tI k := fun σ B H ok Q c =>
  h σ B H ok _ fun x v n1 Γ1 B1 H1 q e o r => .inl ⟨x, by rw [r], c _ _ n1 Γ1 B1 H1 q e o rfl⟩
theorem we_min {k : Int → NK} (h : WpE K w n Γ ta tI (fun a n Γ => WpE K w n Γ tb tI (fun b n Γ => k (if b < a then b else a) n Γ))) : WpE K w n Γ (tCB rMinU (tCons ta (tCons tb tNil))) tI k :=
  we_cb2 (fun a b => if b < a then b else a) (fun _ _ => True) (fun B x y a b H Q h1 h2 e _ q => ⟨a, b, by rw [h1, h2], q _ rfl⟩) (we_mono h fun _ _ _ q => we_mono q fun _ _ _ z => ⟨trivial, z⟩)
theorem we_max {k : Int → NK} (h : WpE K w n Γ ta tI (fun a n Γ => WpE K w n Γ tb tI (fun b n Γ => k (if b > a then b else a) n Γ))) : WpE K w n Γ (tCB rMaxU (tCons ta (tCons tb tNil))) tI k :=
  we_cb2 (fun a b => if b > a then b else a) (fun _ _ => True) (fun B x y a b H Q h1 h2 e _ q => ⟨a, b, by rw [h1, h2], q _ rfl⟩) (we_mono h fun _ _ _ q => we_mono q fun _ _ _ z => ⟨trivial, z⟩)
theorem we_sum {k : Int → NK} (h : WpE K w n Γ ta (tL tI) (fun xs n Γ => k xs.sum n Γ)) : WpE K w n Γ (tCB (rSum K) (tCons ta tNil)) tI k := fun σ B H ok Q c =>
  h σ B H ok _ fun xs v n1 Γ1 B1 H1 q e o ⟨a, vs, hv, hs, p⟩ => ⟨a, xs, by rw [hv], by rw [← pw_intEq p]; exact SqL.of (o.ex _ _ hs), c _ _ n1 Γ1 B1 H1 q e o rfl⟩
/-- isinstance(x, T), the answer known by the kind -/
theorem we_isi {T : String} {b : Bool} {tn : String} (ht : ∀ {B v x H}, t.rep B v x → Ex B H → TyX K H v (.type tn)) (hb : kitB tn T = some b) {k : Bool → NK} (h : WpE K w n Γ ta t (fun x n Γ => k b n Γ)) : WpE K w n Γ (tCB (rIsi K) (tCons ta (tCons (tC (.ty T)) tNil))) tBo k := fun σ B H ok Q c =>
  h σ B H ok _ fun x v n1 Γ1 B1 H1 q e o r => ⟨v, .ty T, .type tn, .type T, b, rfl, .ty T, ht r o.ex, kit_ty hb, c _ _ n1 Γ1 B1 H1 q e o rfl⟩
theorem tyI {B : Hp} {v : V} {x : Int} {H : Hp} (h : tI.rep B v x) (_ : Ex B H) : TyX K H v (.type "int") := by cases h; exact .base (.int _)
theorem tyB {B : Hp} {v : V} {x : Bool} {H : Hp} (h : tBo.rep B v x) (_ : Ex B H) : TyX K H v (.type "bool") := by cases h; exact .base (.bl _)
theorem tyS {B : Hp} {v : V} {x : Str} {H : Hp} (h : tS.rep B v x) (_ : Ex B H) : TyX K H v (.type "str") := by cases h; exact .base (.str _)
theorem tyN {B : Hp} {v : V} {x : Unit} {H : Hp} (h : tN.rep B v x) (_ : Ex B H) : TyX K H v (.type "NoneType") := by cases h; exact .base .non
theorem tyL {B : Hp} {v : V} {x : List α} {H : Hp} (h : (tL t).rep B v x) (e : Ex B H) : TyX K H v (.type "list") := by obtain ⟨a, vs, rfl, s, _⟩ := h; exact .base (.lst (e _ _ s))
theorem tyU {B : Hp} {v : V} {x : List α} {H : Hp} (h : (tU t).rep B v x) (e : Ex B H) : TyX K H v (.type "tuple") := by obtain ⟨a, vs, rfl, s, _⟩ := h; exact .base (.tup (e _ _ s))
end
end TL

/-! # TL: comprehensions, dicts -/
namespace TL
open PySem L2
open PySem.W (Frag)

section
variable {K : Frag} {w : Wd} {n : Option Nat} {Γ : Env} {α β γ δ ρ A : Type} {t : Ty α} {u : Ty β} {ta tb te : TE} {ts ts' : TS} {res : ρ → Ent} {nx bk ct : NK} {rt : ρ → Option Nat → Prop}

/-! ### comprehensions -/
def Ent.hide : Ent → Ent
  | .mu _ => .no
  | .al _ => .no
  | .mm _ _ _ => .no
  | e => e
/-- within a comprehension: its own names are wiped, what is one's own is not touched -/
def hideE (Γ : Env) : List Nat → Env
  | [] => Γ.map Ent.hide
  | v :: vs => (hideE Γ vs).set v .no
theorem hideE_length (Γ : Env) : ∀ vs, (hideE Γ vs).length = Γ.length
  | [] => by simp [hideE]
  | v :: vs => by simp [hideE, hideE_length Γ vs]
theorem hideE_get (Γ : Env) : ∀ (vs : List Nat) (i : Nat) e, (hideE Γ vs)[i]? = some e → e = .no ∨ (i ∉ vs ∧ ∃ e0, Γ[i]? = some e0 ∧ e = e0.hide)
  | [], i, e, h => by
    unfold hideE at h
    rw [List.getElem?_map] at h
    cases q : Γ[i]? with
    | none => rw [q] at h; cases h
    | some e0 => rw [q] at h; cases h; exact .inr ⟨by simp, e0, rfl, rfl⟩
  | v :: vs, i, e, h => by
    unfold hideE at h
    rw [List.getElem?_set] at h
    by_cases z : v = i
    · subst z
      rw [if_pos rfl] at h
      split at h
      · cases h; exact .inl rfl
      · cases h
    · rw [if_neg z] at h
      rcases hideE_get Γ vs i e h with q | ⟨q, r⟩
      · exact .inl q
      · exact .inr ⟨by simp [q, Ne.symm z], r⟩
theorem wipe_get {σ : L2.St} {i : Nat} : ∀ {vs : List Nat}, i ∉ vs → (wipe σ vs)[i]? = σ[i]?
  | [], _ => rfl
  | v :: vs, h => by
    unfold wipe
    have h1 : v ≠ i := fun z => h (by simp [z])
    rw [List.getElem?_set, if_neg h1]
    exact wipe_get fun z => h (by simp [z])
/-- the element is walked in a world of its own, in which all that stands is the caller's -/
theorem Ok.inner {σ : L2.St} {B H : Hp} (h : Ok K w n Γ σ B H) (vs : List Nat) : Ok K ⟨w.d, w.ca, w.cs, B, H⟩ n (hideE Γ vs) (wipe σ vs) B H := by
  refine ⟨h.ex, Ex.refl _, fun a o q => .inl q, fun a o q _ => q, h.hh, h.hh, fun m q => (h.pn m q).cast rfl rfl rfl, by rw [hideE_length, wipe_length]; exact h.ln, fun i e q => ?_, fun i j e e' a _ q _ oi => ?_⟩
  · rcases hideE_get Γ vs i e q with rfl | ⟨hi, e0, h0, rfl⟩
    · trivial
    · have s := h.sl i e0 h0
      cases e0 with
      | no => trivial
      | mu r => trivial
      | al a => trivial
      | mm t as xss => trivial
      | im t x => obtain ⟨v, h1, h2⟩ := s; exact ⟨v, (wipe_get hi).trans h1, h2⟩
      | pen => exact (wipe_get hi).trans s
  · rcases hideE_get Γ vs i _ q with rfl | ⟨_, e0, _, rfl⟩
    · exact False.elim oi
    · cases e0 <;> exact False.elim oi
/-- a target that stores into the slots vs alone -/
def GSl (g : TG) (vs : List Nat) : Prop := ∀ v σ H (Q : L2.St → Hp → Prop), g v σ H Q → g v σ H (fun σ' H' => wipe σ' vs = wipe σ vs ∧ Q σ' H')
theorem wipe_set {i : Nat} {x : Option V} : ∀ {vs : List Nat} {σ : L2.St}, i ∈ vs → wipe (σ.set i x) vs = wipe σ vs
  | [], _, h => by simp at h
  | v :: vs, σ, h => by
    unfold wipe
    by_cases z : i ∈ vs
    · rw [wipe_set z]
    · have e : v = i := by
        rcases List.mem_cons.mp h with q | q
        · exact q.symm
        · exact absurd q z
      subst e
      have com : ∀ (us : List Nat) (τ : L2.St), v ∉ us → wipe (τ.set v x) us = (wipe τ us).set v x := fun us => by
        induction us with
        | nil => intro τ _; rfl
        | cons a us ih =>
          intro τ hv
          have h1 : v ≠ a := fun q => hv (by simp [q])
          have h2 : v ∉ us := fun q => hv (by simp [q])
          unfold wipe
          rw [ih τ h2, List.set_comm _ _ (Ne.symm h1)]
      rw [com vs σ z, List.set_set]
theorem gsl_name {i : Nat} {vs : List Nat} (h : i ∈ vs) : GSl (gName i) vs := fun v σ H Q q => ⟨wipe_set h, q⟩
theorem gsl_nil {vs : List Nat} : ∀ (v : List V) σ H (Q : L2.St → Hp → Prop), gNil v σ H Q → gNil v σ H (fun σ' H' => wipe σ' vs = wipe σ vs ∧ Q σ' H') := fun v σ H Q ⟨a, b⟩ => ⟨a, rfl, b⟩
theorem gsl_cons {g : TG} {r : TGs} {vs : List Nat} (h : GSl g vs) (hr : ∀ (v : List V) σ H (Q : L2.St → Hp → Prop), r v σ H Q → r v σ H (fun σ' H' => wipe σ' vs = wipe σ vs ∧ Q σ' H')) (hm : ∀ v σ H (Q Q' : L2.St → Hp → Prop), (∀ σ' H', Q σ' H' → Q' σ' H') → g v σ H Q → g v σ H Q') :
    ∀ (v : List V) σ H (Q : L2.St → Hp → Prop), gCons g r v σ H Q → gCons g r v σ H (fun σ' H' => wipe σ' vs = wipe σ vs ∧ Q σ' H') := fun v σ H Q ⟨x, us, e, q⟩ => by
  refine ⟨x, us, e, hm _ _ _ _ _ (fun σ' H' ⟨h1, h2⟩ => ?_) (h x σ H _ q)⟩
  have := hr us σ' H' Q h2
  rw [h1] at this
  exact this
theorem gm_name {i : Nat} : ∀ v σ H (Q Q' : L2.St → Hp → Prop), (∀ σ' H', Q σ' H' → Q' σ' H') → gName i v σ H Q → gName i v σ H Q' := fun v σ H Q Q' m q => m _ _ q
theorem gsl_pair {i j : Nat} {vs : List Nat} (hi : i ∈ vs) (hj : j ∈ vs) {N : Nat} : GSl (gTup K N (gCons (gName i) (gCons (gName j) gNil))) vs := fun v σ H Q ⟨a, xs, h1, h2, h3, q⟩ =>
  ⟨a, xs, h1, h2, h3, gsl_cons (gsl_name hi) (gsl_cons (gsl_name hj) gsl_nil gm_name) gm_name xs σ H Q q⟩
theorem gsl_trip {i j l : Nat} {vs : List Nat} (hi : i ∈ vs) (hj : j ∈ vs) (hl : l ∈ vs) {N : Nat} : GSl (gTup K N (gCons (gName i) (gCons (gName j) (gCons (gName l) gNil)))) vs := fun v σ H Q ⟨a, xs, h1, h2, h3, q⟩ =>
  ⟨a, xs, h1, h2, h3, gsl_cons (gsl_name hi) (gsl_cons (gsl_name hj) (gsl_cons (gsl_name hl) gsl_nil gm_name) gm_name) gm_name xs σ H Q q⟩
theorem gsl_quad {i j l m : Nat} {vs : List Nat} (hi : i ∈ vs) (hj : j ∈ vs) (hl : l ∈ vs) (hm : m ∈ vs) {N : Nat} : GSl (gTup K N (gCons (gName i) (gCons (gName j) (gCons (gName l) (gCons (gName m) gNil))))) vs := fun v σ H Q ⟨a, xs, h1, h2, h3, q⟩ =>
  ⟨a, xs, h1, h2, h3, gsl_cons (gsl_name hi) (gsl_cons (gsl_name hj) (gsl_cons (gsl_name hl) (gsl_cons (gsl_name hm) gsl_nil gm_name) gm_name) gm_name) gm_name xs σ H Q q⟩
theorem wt_yes {kt kf : NK} (h : kt n Γ) : WpT K w n Γ tYes kt kf := fun σ B H ok Q ct cf => ct n Γ B H h (Ex.refl _) ok
theorem wm_lc {wi : TI} {g : TG} {tt : TT} {vs : List Nat} {kk : Rs → NK} (u : Ty β) (I : List α → Nat → List β → Option Nat → Prop) (hg : GSl g vs)
    (h : WpI K w n Γ wi t (fun xs n Γ => For3 (I xs 0 [] n) (∀ (w' : Wd) (i : Nat) x ys n, w'.d = w.d → w'.ca = w.ca → w'.cs = w.cs → xs[i]? = some x → I xs i ys n →
      SetE (hideE Γ vs) fun Γh => WpG K w' n Γh g t x (fun n Γ => WpT K w' n Γ tt (fun n Γ => WpE K w' n Γ te u (fun y n _ => ys.length < 100000 ∧ I xs (i + 1) (ys ++ [y]) n)) (fun n _ => I xs (i + 1) ys n)))
      (∀ ys n, I xs xs.length ys n → kk (rL u ys) n Γ))) : WpM K w n Γ (tLc wi g tt te vs) kk := fun σ B H ok Q c =>
  h σ B H ok _ fun xs J n0 Γ0 B0 H0 ⟨hu, hs, he⟩ e0 o0 it => by
    intro D hD
    refine ⟨fun i m H => m + i = xs.length ∧ ∃ ys n B1 acc, I xs i ys n ∧ Ex B0 B1 ∧ Ok K w n Γ0 σ B1 H ∧ Own w Γ0 σ B1 H (rL u ys) D ∧ H D = some (.lst acc) ∧ Paired (u.rep B1) acc ys, ?_, ?_⟩
    · exact ⟨xs.length, rfl, [], n0, B0, [], hu, Ex.refl _, o0.grow (Grow.open o0.ex hD), Own.new o0 hD ⟨[], rfl, .nil⟩, upd_same, .nil⟩
    · rintro i m H1 ⟨hm, ys, n1, B1, acc, hI, e1, o1, ow1, hacc, pacc⟩
      by_cases hi : i < xs.length
      · refine .inr ⟨it.go i H1 (e1.trans o1.ex) hi, fun H' => ∃ ys n B1 acc, I xs (i + 1) ys n ∧ Ex B0 B1 ∧ Ok K w n Γ0 σ B1 H' ∧ Own w Γ0 σ B1 H' (rL u ys) D ∧ H' D = some (.lst acc) ∧ Paired (u.rep B1) acc ys, ?_, ?_⟩
        · rintro H' hN
          exact ⟨m - 1, by omega, by omega, hN⟩
        · intro v H' hy
          obtain ⟨B2, gr, rp⟩ := it.yld i _ H1 B1 v H' (List.getElem?_eq_getElem hi) e1 o1.ex hy
          have o2 := o1.grow gr
          have ow2 := ow1.grow gr
          have hD2 : H' D = some (.lst acc) := gr.h _ _ hacc
          have ned : D ≠ w.d := ow2.ned o2
          -- behind the element: the list stands as it stood
          have back : ∀ {n' B' H''}, Ok K ⟨w.d, w.ca, w.cs, B2, H'⟩ n' [] [] B' H'' → Ok K w n' Γ0 σ B' H'' ∧ H'' D = some (.lst acc) ∧ B' D = none := fun {n' B' H''} o => by
            refine ⟨o2.back o, o.kp D _ hD2 ned, ?_⟩
            cases q : B' D with
            | none => rfl
            | some z =>
              rcases o.nw D z q with r | r
              · have r' : B2 D = some z := r
                rw [ow2.b] at r'; cases r'
              · have r' : H' D = none := r
                rw [hD2] at r'; cases r'
          have key := hs ⟨w.d, w.ca, w.cs, B2, H'⟩ i _ ys n1 rfl rfl rfl (List.getElem?_eq_getElem hi) hI (wipe σ vs) B2 H' (o2.inner vs) v rp _ fun n3 Γ3 σ3 B3 H3 q3 e3 o3 => q3 σ3 B3 H3 o3 (fun b H3 =>
              if b = true then te σ3 H3 fun y H4 => ∃ acc, H4 D = some (.lst acc) ∧ acc.length < sizeLine ∧ ∃ ys n B1 acc', I xs (i + 1) ys n ∧ Ex B0 B1 ∧ Ok K w n Γ0 σ B1 (upd H4 D (.lst (acc ++ [y]))) ∧ Own w Γ0 σ B1 (upd H4 D (.lst (acc ++ [y]))) (rL u ys) D ∧ (upd H4 D (.lst (acc ++ [y]))) D = some (.lst acc') ∧ Paired (u.rep B1) acc' ys
              else ∃ ys n B1 acc, I xs (i + 1) ys n ∧ Ex B0 B1 ∧ Ok K w n Γ0 σ B1 H3 ∧ Own w Γ0 σ B1 H3 (rL u ys) D ∧ H3 D = some (.lst acc) ∧ Paired (u.rep B1) acc ys)
            (fun n4 Γ4 B4 H4 q4 e4 o4 => by
              rw [if_pos rfl]
              refine q4 σ3 B4 H4 o4 _ fun y yv n5 Γ5 B5 H5 ⟨hz, hI5⟩ e5 o5 ry => ?_
              obtain ⟨ok5, hd5, bd5⟩ := back o5.nil
              have ex25 : Ex B2 B5 := (e3.trans e4).trans e5
              have pr : Paired (u.rep B5) (acc ++ [yv]) (ys ++ [y]) := pw_snoc (pw_mono (fun _ _ => u.mono (gr.b.trans ex25)) pacc) ry
              have ow5 : Own w Γ0 σ B5 H5 (rL u ys) D := ⟨⟨_, hd5, acc, rfl, pw_mono (fun _ _ => u.mono (gr.b.trans ex25)) pacc⟩, bd5, ow1.h0, ow1.df⟩
              refine ⟨acc, hd5, by rw [pw_len pacc]; exact szl hz, ys ++ [y], n5, B5, acc ++ [yv], hI5, (e1.trans gr.b).trans ex25, ?_, ?_, upd_same, pr⟩
              · -- the list is not among the names': it may change
                exact ok5.chg bd5 ow1.h0 rfl (fun j e q => .inr ⟨q, ow1.df j e q⟩) (fun x e q => .inr ⟨e, q, fun a ha => ha⟩)
              · exact ⟨⟨_, upd_same, acc ++ [yv], rfl, pr⟩, bd5, ow1.h0, ow1.df⟩) (fun n4 Γ4 B4 H4 q4 e4 o4 => by
              rw [if_neg Bool.false_ne_true]
              obtain ⟨ok5, hd5, bd5⟩ := back o4.nil
              have ex25 : Ex B2 B4 := e3.trans e4
              have pr : Paired (u.rep B4) acc ys := pw_mono (fun _ _ => u.mono (gr.b.trans ex25)) pacc
              exact ⟨ys, n4, B4, acc, q4, (e1.trans gr.b).trans ex25, ok5, ⟨⟨_, hd5, acc, rfl, pr⟩, bd5, ow1.h0, ow1.df⟩, hd5, pr⟩)
          have key2 := hg v (wipe σ vs) H' _ key
          have ww : wipe (wipe σ vs) vs = wipe σ vs := by
            have gen : ∀ (us : List Nat) (τ : L2.St), (∀ i ∈ us, ∀ x, τ[i]? = some x → x = none) → wipe τ us = τ := fun us => by
              induction us with
              | nil => intro τ _; rfl
              | cons a us ih =>
                intro τ hτ
                unfold wipe
                rw [ih τ fun i hi => hτ i (by simp [hi])]
                apply List.ext_getElem?
                intro j
                rw [List.getElem?_set]
                split
                · rename_i z; subst z
                  split
                  · rename_i z
                    have := hτ a (by simp) τ[a] (List.getElem?_eq_getElem z)
                    rw [List.getElem?_eq_getElem z, this]
                  · rename_i z; exact (List.getElem?_eq_none_iff.mpr (by omega)).symm
                · rfl
            refine gen vs _ fun i hi x hx => ?_
            cases x with
            | none => rfl
            | some y => exact absurd hi (wipe_some hx).2
          rw [ww] at key2
          exact key2
      · have hi2 : i = xs.length := by omega
        subst hi2
        exact .inl ⟨it.stop H1 (e1.trans o1.ex), c _ D n1 Γ0 B1 H1 (he ys n1 hI) (e0.trans e1) o1 ow1⟩
end
end TL

/-! # TL: calls by name; dicts; the pen -/
namespace TL
open PySem L2
open PySem.W (Frag)

/-- a def of the text, by its promise -/
structure Callee (P : Program) (w : World) (K : Frag) (mg : Str → Option Value) (base : Heap) (CX : CXT) (k : Nat) (x : Str) (ps : List Str) (sp : Sp) : Prop where
  ex : ∃ f fd, mg x = some (.ref f) ∧ PySem.W.keepIn K (.ref f) = true ∧ FnOk P w K mg base CX k f fd ps sp ∧ Binds K fd ps []
theorem Callee.mk' {P : Program} {w : World} {K : Frag} {mg : Str → Option Value} {base : Heap} {CX : CXT} {k : Nat} {x : Str} {ps : List Str} {sp : Sp} {f : Addr} {fd : FuncData} (h1 : mg x = some (.ref f)) (h2 : PySem.W.keepIn K (.ref f) = true) (h3 : FnOk P w K mg base CX k f fd ps sp) (h4 : Binds K fd ps []) :
    Callee P w K mg base CX k x ps sp := ⟨f, fd, h1, h2, h3, h4⟩
section
variable {X : Cx} {k : Nat} {x : Str} {ps : List Str} {sp : Sp} {p pos : Pos} {e : Expr} {es : List Expr} {t : TA}
theorem pe_callC (c : Callee X.prog X.w X.K X.mg X.base CX0 k x ps sp) (hr : Room k X.A) (hg : Gl X x) (ha : PA X (e :: es) t) (hdb : (x == ("__debug__" : Str)) = false := by decide) (he : starEach (e :: es) X.env = (false, eval e X.env) :: starEach es X.env := by rfl) (hpl : (backTo pos (starEach es X.env)).any (·.1) = false := by rfl) :
    PE X (.Call (.Name x p) (e :: es) [] pos) (tCall sp [] E0 t) := by
  obtain ⟨f, fd, h1, h2, h3, h4⟩ := c.ex
  exact pe_call h3 hr hg h1 h2 h4 .nil pass0 ha hdb he hpl
end

section
variable {K : Frag} {w : Wd} {n : Option Nat} {Γ : Env} {α β γ δ ρ A : Type} {t : Ty α} {u : Ty β} {ta tb te : TE} {ts ts' : TS} {res : ρ → Ent} {nx bk ct : NK} {rt : ρ → Option Nat → Prop}

/-! ### dicts with whole-number keys -/
/-- what is read as the dict kvs -/
structure DRead (r : Rs) (t : Ty α) (kvs : List (Int × α)) : Prop where
  rd : ∀ l B o, r.R l B o → ∃ kv : List (Key × V), (o = .dK kv ∨ ∃ od, o = .frz od (.dK kv)) ∧ Paired (fun (p : Key × V) (q : Int × α) => p.1 = .inl q.1 ∧ t.rep B p.2 q.2) kv kvs
theorem dread_md {kvs : List (Int × α)} : DRead (rD t kvs) t kvs := ⟨fun _ B o ⟨kv, h, p⟩ => ⟨kv, .inl h, p⟩⟩
def dGet (kvs : List (Int × α)) (i : Int) : Option α := (kvs.find? fun kv => decide (kv.1 = i)).map (·.2)
def dPut (kvs : List (Int × α)) (i : Int) (x : α) : List (Int × α) := if (kvs.any fun kv => decide (kv.1 = i)) = true then kvs.map (fun kv => if kv.1 = i then (kv.1, x) else kv) else kvs ++ [(i, x)]
theorem valV_pair {B : Hp} {i : Int} : ∀ {kv : List (Key × V)} {kvs : List (Int × α)}, Paired (fun (p : Key × V) (q : Int × α) => p.1 = .inl q.1 ∧ t.rep B p.2 q.2) kv kvs →
    (valV kv (.inl i) = none ∧ dGet kvs i = none) ∨ ∃ v x, valV kv (.inl i) = some v ∧ dGet kvs i = some x ∧ t.rep B v x
  | _, _, .nil => .inl ⟨rfl, rfl⟩
  | _, _, .cons (a := a) (b := b) (l₁ := l1) (l₂ := l2) ⟨h1, h2⟩ r => by
    by_cases z : b.1 = i
    · refine .inr ⟨a.2, b.2, valV_pos (by rw [h1, z]), ?_, h2⟩
      unfold dGet
      rw [List.find?_cons, show decide (b.1 = i) = true from decide_eq_true z]; rfl
    · have e : dGet (b :: l2) i = dGet l2 i := by
        unfold dGet
        rw [List.find?_cons, show decide (b.1 = i) = false from decide_eq_false z]
      rw [e, valV_neg (by rw [h1]; intro q; exact z (Sum.inl.inj q))]
      exact valV_pair r
theorem any_pair {B : Hp} {i : Int} : ∀ {kv : List (Key × V)} {kvs : List (Int × α)}, Paired (fun (p : Key × V) (q : Int × α) => p.1 = .inl q.1 ∧ t.rep B p.2 q.2) kv kvs →
    (kv.any fun p => decide (p.1 = .inl i)) = kvs.any fun q => decide (q.1 = i)
  | _, _, .nil => rfl
  | _, _, .cons (a := a) (b := b) ⟨h1, h2⟩ r => by
    rw [List.any_cons, List.any_cons, any_pair r, h1]
    congr 1
    by_cases z : b.1 = i
    · rw [z]; simp
    · rw [decide_eq_false z, decide_eq_false (fun q => z (Sum.inl.inj q))]
theorem putK_pair {B : Hp} {i : Int} {v : V} {x : α} (hv : t.rep B v x) {kv : List (Key × V)} {kvs : List (Int × α)} (p : Paired (fun (p : Key × V) (q : Int × α) => p.1 = .inl q.1 ∧ t.rep B p.2 q.2) kv kvs) :
    Paired (fun (p : Key × V) (q : Int × α) => p.1 = .inl q.1 ∧ t.rep B p.2 q.2) (putK kv (.inl i) v) (dPut kvs i x) := by
  unfold putK dPut
  rw [any_pair p]
  split
  · have gen : ∀ {kv : List (Key × V)} {kvs : List (Int × α)}, Paired (fun (p : Key × V) (q : Int × α) => p.1 = .inl q.1 ∧ t.rep B p.2 q.2) kv kvs →
        Paired (fun (p : Key × V) (q : Int × α) => p.1 = .inl q.1 ∧ t.rep B p.2 q.2) (kv.map fun kv => if kv.1 = .inl i then (kv.1, v) else kv) (kvs.map fun kv => if kv.1 = i then (kv.1, x) else kv) := fun {kv kvs} p => by
      induction p with
      | nil => exact .nil
      | @cons a b _ _ h r ih =>
        rw [List.map_cons, List.map_cons]
        refine .cons ?_ ih
        by_cases z : b.1 = i
        · rw [if_pos z, if_pos (by rw [h.1, z])]; exact ⟨h.1, hv⟩
        · rw [if_neg z, if_neg (by rw [h.1]; intro q; exact z (Sum.inl.inj q))]; exact h
    exact gen p
  · exact pw_snoc p ⟨rfl, hv⟩
theorem drd {H B : Hp} {l : Addr} {o : HO} {r : Rs} {kvs : List (Int × α)} (D : DRead r t kvs) (hl : H l = some o) (hr : r.R l B o) : ∃ kv : List (Key × V), Rd H l (.dK kv) ∧ Paired (fun (p : Key × V) (q : Int × α) => p.1 = .inl q.1 ∧ t.rep B p.2 q.2) kv kvs := by
  obtain ⟨kv, h, p⟩ := D.rd l B o hr
  rcases h with h | ⟨od, h⟩
  · subst h; exact ⟨kv, .inl hl, p⟩
  · subst h; exact ⟨kv, .inr ⟨od, hl⟩, p⟩
/-- d[i] -/
theorem we_dget {i : Nat} {r : Rs} {kvs : List (Int × α)} {ty : TE} {k : α → NK} (hi : Γ[i]? = some (.mu r)) (D : DRead r t kvs) (h : WpE K w n Γ ty tI (fun j n Γ' => Γ'[i]? = some (.mu r) ∧ ∃ x, dGet kvs j = some x ∧ k x n Γ')) :
    WpE K w n Γ (tDGet (tVar i) ty) t k := fun σ B H ok Q c => by
  obtain ⟨l, o, h1, _⟩ := ok.sl i _ hi
  refine ⟨.ref l, h1, h σ B H ok _ fun j v n' Γ' B' H' ⟨g, x, hx, q⟩ e o' r' => ?_⟩
  obtain ⟨l', ob, k1, k2, k3, k4, k5⟩ := o'.sl i _ g
  rw [h1] at k1; cases k1
  obtain ⟨kv, rd, p⟩ := drd D k2 k5
  rcases valV_pair (i := j) p with ⟨_, z⟩ | ⟨y, x', z1, z2, z3⟩
  · rw [z] at hx; cases hx
  · rw [z2] at hx; cases hx
    exact ⟨l, y, rfl, .inl ⟨kv, .inl j, rd, r', z1.symm⟩, c x y n' Γ' B' H' q e o' z3⟩
/-- i in d -/
theorem we_din {i : Nat} {r : Rs} {kvs : List (Int × α)} {ty : TE} {k : Bool → NK} (hi : Γ[i]? = some (.mu r)) (D : DRead r t kvs) (h : WpE K w n Γ ty tI (fun j n Γ' => Γ'[i]? = some (.mu r) ∧ k (dGet kvs j).isSome n Γ')) :
    WpE K w n Γ (tDIn ty (tVar i)) tBo k := fun σ B H ok Q c =>
  h σ B H ok _ fun j v n' Γ' B' H' ⟨g, q⟩ e o' r' => by
    obtain ⟨l, o, h1, k2, k3, k4, k5⟩ := o'.sl i _ g
    obtain ⟨kv, rd, p⟩ := drd D k2 k5
    have es : (valV kv (.inl j)).isSome = (dGet kvs j).isSome := by
      rcases valV_pair (i := j) p with ⟨z1, z2⟩ | ⟨y, x', z1, z2, z3⟩
      · rw [z1, z2]; rfl
      · rw [z1, z2]; rfl
    exact ⟨.ref l, h1, l, valV kv (.inl j), rfl, .inl ⟨kv, .inl j, rd, r', rfl⟩, c _ _ n' Γ' B' H' q e o' (by show V.bl _ = V.bl _; rw [es])⟩
theorem dPut_len {kvs : List (Int × α)} {i : Int} {x : α} : (dPut kvs i x).length ≤ kvs.length + 1 := by
  unfold dPut
  split
  · simp
  · simp
/-- d[i] = e -/
theorem ws_dput {i : Nat} {kvs : List (Int × α)} {ty : TE} (hi : ∃ r0, Γ[i]? = some (.mu r0)) (h : WpE K w n Γ te t (fun x n Γ => WpE K w n Γ ty tI (fun j n Γ => Γ[i]? = some (.md t kvs) ∧ kvs.length < 100000 ∧ SetE (Γ.set i (.md t (dPut kvs j x))) (nx n)))) :
    WpS K w n Γ (sDPut (tVar i) ty te) res nx bk ct rt := fun σ B H ok D a b c d => by
  obtain ⟨r0, hi⟩ := hi
  obtain ⟨l, _, hl, _⟩ := ok.sl i _ hi
  refine h σ B H ok _ fun x v n1 Γ1 B1 H1 q1 e1 o1 r1 => ⟨.ref l, hl, ?_⟩
  refine q1 σ B1 H1 o1 _ fun j jv n2 Γ2 B2 H2 ⟨g, hj, q⟩ e2 o2 r2 => ?_
  obtain ⟨l', o', k1, k2, k3, k4, kv, rfl, p⟩ := o2.sl i _ g
  rw [hl] at k1; cases k1
  exact ⟨l, _, rfl, .inl ⟨kv, .inl j, k2, r2, by rw [pw_len p]; exact szl hj, rfl⟩, a n2 _ _ B2 _ q (e1.trans e2) (o2.put (r' := rD t (dPut kvs j x)) g hl ⟨_, rfl, putK_pair (t.mono e2 r1) p⟩)⟩
theorem wm_dnew {kk : Rs → NK} (t : Ty α) (h : kk (rD t []) n Γ) : WpM K w n Γ tDNewK kk := fun σ B H ok Q c p hp =>
  c _ p n Γ B _ h (Ex.refl _) (ok.grow (Grow.open ok.ex hp)) (Own.new ok hp ⟨[], rfl, .nil⟩)
/-- the dict kvs, locked by a loop -/
def rDF (t : Ty α) (a : Addr) (od : Obj) (u : HO) (kvs : List (Int × α)) : Rs := ⟨fun l B o => l = a ∧ o = .frz od u ∧ ∃ kv : List (Key × V), u = .dK kv ∧ Paired (fun (p : Key × V) (q : Int × α) => p.1 = .inl q.1 ∧ t.rep B p.2 q.2) kv kvs,
  fun e ⟨h0, h, vs, h1, p⟩ => ⟨h0, h, vs, h1, pw_mono (fun _ _ ⟨h1, h2⟩ => ⟨h1, t.mono e h2⟩) p⟩⟩
theorem dread_rDF {a : Addr} {od : Obj} {uu : HO} {kvs : List (Int × α)} : DRead (rDF t a od uu kvs) t kvs := ⟨fun l B o ⟨_, h, kv, h1, p⟩ => ⟨kv, .inr ⟨od, by rw [h, h1]⟩, p⟩⟩
/-- for j in d (nothing leaves the loop early) -/
theorem ws_forKeys {i j : Nat} {kvs : List (Int × α)} (hi : Γ[i]? = some (.md t kvs)) (I : Rs → Nat → NK) (h0 : ∀ r, DRead r t kvs → Up K w (I r 0) n (Γ.set i (.mu r)))
    (hs : ∀ r, DRead r t kvs → ∀ (m : Nat) (x : Int × α) n Γ, kvs[m]? = some x → I r m n Γ → Γ[i]? = some (.mu r) ∧ WpS K w n (Γ.set j (.im tI x.1)) ts res (Up K w (I r (m + 1))) (fun _ _ => False) (Up K w (I r (m + 1))) (fun _ _ => False))
    (he : ∀ r, DRead r t kvs → ∀ n Γ, I r kvs.length n Γ → Γ[i]? = some (.mu r) ∧ nx n (Γ.set i (.md t kvs))) :
    WpS K w n Γ (tLock (tFor (iKeys (tVar i)) (gName j) ts)) res nx bk ct rt := fun σ B H ok D a b c d => by
  obtain ⟨l, o, h1, h2, h3, h4, kv, rfl, p⟩ := ok.sl i _ hi
  refine ⟨l, .dK kv, h2, trivial, fun od => ?_⟩
  have ok1 : Ok K w n (Γ.set i (.mu (rDF t l od (.dK kv) kvs))) σ B (upd H l (.frz od (.dK kv))) := ok.put (r' := rDF t l od (.dK kv) kvs) hi h1 ⟨rfl, rfl, kv, rfl, p⟩
  have hrd : DRead (rDF t l od (.dK kv) kvs) t kvs := dread_rDF
  refine ⟨.ref l, h1, l, od, rfl, .inl ⟨kv, upd_same, ?_⟩⟩
  refine ⟨fun m mm σ' H' => mm + m = kvs.length ∧ ∃ n Γ B', I (rDF t l od (.dK kv) kvs) m n Γ ∧ Ex B B' ∧ Ok K w n Γ σ' B' H', ?_, ?_⟩
  · obtain ⟨n1, Γ1, vw, hI⟩ := h0 _ hrd
    obtain ⟨B1, e1, o1⟩ := vw σ B _ ok1
    exact ⟨kvs.length, rfl, n1, Γ1, B1, hI, e1, o1⟩
  · rintro m mm σ1 H1 ⟨hm, n1, Γ1, B1, hI, e1, o1⟩
    have hG : Γ1[i]? = some (.mu (rDF t l od (.dK kv) kvs)) := by
      by_cases z : m < kvs.length
      · exact (hs _ hrd m _ n1 Γ1 (List.getElem?_eq_getElem z) hI).1
      · have e : m = kvs.length := by omega
        exact (he _ hrd n1 Γ1 (e ▸ hI)).1
    obtain ⟨l', ob, k1, k2, k3, k4, rfl, rfl, kv', hkv, p'⟩ := o1.sl i _ hG
    cases hkv
    by_cases z : m < kvs.length
    · refine .inr ⟨⟨k2, by rw [pw_len p]; exact z⟩, fun σ' H' => ∃ n Γ B', I (rDF t l' od (.dK kv) kvs) (m + 1) n Γ ∧ Ex B B' ∧ Ok K w n Γ σ' B' H', ?_, ?_⟩
      · rintro σ' H' ⟨n2, Γ2, B2, q1, q2, q3⟩
        exact ⟨mm - 1, by omega, by omega, n2, Γ2, B2, q1, q2, q3⟩
      · rintro v H' ⟨rfl, key, vv, hkey, rfl⟩
        obtain ⟨y, hy, hk1, hk2⟩ := pw_getL p' hkey
        have ev : kV key = .int y.1 := by
          have : key = .inl y.1 := hk1
          rw [this]; rfl
        obtain ⟨_, body⟩ := hs _ hrd m y n1 Γ1 hy hI
        have o2 : Ok K w n1 (Γ1.set j (.im tI y.1)) (σ1.set j (some (kV key))) B1 H' := o1.setIm (t := tI) (x := y.1) ev
        refine body _ B1 H' o2 _ (fun n4 Γ4 σ4 B4 H4 ⟨n5, Γ5, vw, hI5⟩ e4 o4 => ?_) (fun _ _ _ _ _ h _ _ => h.elim) (fun n4 Γ4 σ4 B4 H4 ⟨n5, Γ5, vw, hI5⟩ e4 o4 => ?_) (fun _ _ _ _ _ h _ _ _ => h.elim)
        · obtain ⟨B5, e5, o5⟩ := vw σ4 B4 H4 o4
          exact ⟨n5, Γ5, B5, hI5, (e1.trans e4).trans e5, o5⟩
        · obtain ⟨B5, e5, o5⟩ := vw σ4 B4 H4 o4
          exact ⟨n5, Γ5, B5, hI5, (e1.trans e4).trans e5, o5⟩
    · have e : m = kvs.length := by omega
      subst e
      refine .inl ⟨⟨k2, by rw [pw_len p]; exact Nat.le_refl _⟩, k2, ?_⟩
      obtain ⟨_, q⟩ := he _ hrd n1 Γ1 hI
      exact a n1 _ σ1 B1 _ q e1 (o1.put (r' := rD t kvs) hG k1 ⟨kv, rfl, p'⟩)
end
end TL

/-! # TL: the pen; the law's own def -/
namespace TL
open PySem L2
open PySem.W (Frag)

section
variable {K : Frag} {w : Wd} {n : Option Nat} {Γ : Env} {α β γ δ ρ A : Type} {t : Ty α} {u : Ty β} {ta tb te : TE} {ts ts' : TS} {res : ρ → Ent} {nx bk ct : NK} {rt : ρ → Option Nat → Prop}
theorem kne1 : ¬ ((Sum.inr "cells" : Key) = Sum.inr ("left" : Str)) := by decide +kernel
theorem kne2 : ¬ ((Sum.inr "at" : Key) = Sum.inr ("left" : Str)) := by decide +kernel
theorem kne3 : ¬ ((Sum.inr "cells" : Key) = Sum.inr ("at" : Str)) := by decide +kernel
theorem kne4 : ¬ ((Sum.inr "left" : Key) = Sum.inr ("at" : Str)) := by decide +kernel
theorem pk_left {c : Addr} {a l : Int} : valV (penKV c a l) (.inr "left") = some (.int l) := by
  unfold penKV
  rw [valV_neg kne1, valV_neg kne2, valV_pos rfl]
theorem pk_at {c : Addr} {a l : Int} : valV (penKV c a l) (.inr "at") = some (.int a) := by
  unfold penKV
  rw [valV_neg kne3, valV_pos rfl]
theorem pk_cells {c : Addr} {a l : Int} : valV (penKV c a l) (.inr "cells") = some (.ref c) := by
  unfold penKV
  rw [valV_pos rfl]
theorem pk_putL {c : Addr} {a l l' : Int} : putK (penKV c a l) (.inr "left") (.int l') = penKV c a l' := by
  unfold putK penKV
  rw [if_pos (by simp)]
  simp only [List.map_cons, List.map_nil, if_neg kne1, if_neg kne2, if_true]
theorem pk_putA {c : Addr} {a l a' : Int} : putK (penKV c a l) (.inr "at") (.int a') = penKV c a' l := by
  unfold putK penKV
  rw [if_pos (by simp)]
  simp only [List.map_cons, List.map_nil, if_neg kne3, if_neg kne4, if_true]
theorem we_penL {m : Nat} {i : Nat} {k : Int → NK} (hi : Γ[i]? = some .pen) (hn : n = some m) (h : ∀ l : Int, 0 ≤ l → k l n Γ) : WpE K w n Γ (tDGet (tVar i) (tC (.str "left"))) tI k := fun σ B H ok Q c => by
  have hs : σ[i]? = some (some (.ref w.d)) := ok.sl i _ hi
  obtain ⟨fr, a, l, h1, h2, h3, h4, h5, h6⟩ := ok.pn m hn
  exact ⟨_, hs, w.d, .int l, rfl, .inl ⟨_, .inr "left", .inl h1, rfl, pk_left.symm⟩, c l _ n Γ B H (h l h6) (Ex.refl _) ok rfl⟩
theorem we_penA {m : Nat} {i : Nat} {k : Int → NK} (hi : Γ[i]? = some .pen) (hn : n = some m) (h : ∀ a : Int, 0 ≤ a → a ≤ m → k a n Γ) : WpE K w n Γ (tDGet (tVar i) (tC (.str "at"))) tI k := fun σ B H ok Q c => by
  have hs : σ[i]? = some (some (.ref w.d)) := ok.sl i _ hi
  obtain ⟨fr, a, l, h1, h2, h3, h4, h5, h6⟩ := ok.pn m hn
  exact ⟨_, hs, w.d, .int a, rfl, .inl ⟨_, .inr "at", .inl h1, rfl, pk_at.symm⟩, c a _ n Γ B H (h a h4 h5) (Ex.refl _) ok rfl⟩
theorem we_penC {m : Nat} {i : Nat} {k : List Int → NK} (hi : Γ[i]? = some .pen) (hn : n = some m) (h : w.cs.length ≤ 63 → k w.cs n Γ) : WpE K w n Γ (tDGet (tVar i) (tC (.str "cells"))) (tL tI) k := fun σ B H ok Q c => by
  have hs : σ[i]? = some (some (.ref w.d)) := ok.sl i _ hi
  obtain ⟨fr, a, l, h1, h2, h3, h4, h5, h6⟩ := ok.pn m hn
  exact ⟨_, hs, w.d, .ref w.ca, rfl, .inl ⟨_, .inr "cells", .inl h1, rfl, pk_cells.symm⟩, c w.cs _ n Γ B H (h h3) (Ex.refl _) ok ⟨w.ca, _, rfl, h2, pw_mapI⟩⟩
theorem Ok.pen {σ : L2.St} {B H : Hp} {m : Nat} {kv : List (Key × V)} (ok : Ok K w n Γ σ B H) (hk : ∃ (a l : Int), kv = penKV w.ca a l ∧ B w.ca = some (.lst (w.cs.map V.int)) ∧ w.cs.length ≤ 63 ∧ 0 ≤ a ∧ a ≤ m ∧ 0 ≤ l) (hb : B w.d = none) : Ok K w (some m) Γ σ B (upd H w.d (.dK kv)) := by
  obtain ⟨a, l, rfl, h1, h2, h3, h4, h5⟩ := hk
  refine ⟨ok.ex.over hb, ok.ex0, ok.nw, fun x o q ne => ?_, ok.hd, isS upd_same, fun m' q => ?_, ok.ln, fun i e q => ?_, ok.ds⟩
  · rw [upd_ne ne]; exact ok.kp x o q ne
  · cases q
    exact ⟨hb, a, l, upd_same, h1, h2, h3, h4, h5⟩
  · have s := ok.sl i e q
    refine s.keep (Ex.refl _) rfl fun a ha => ?_
    obtain ⟨o, q1, q2, q3⟩ := s.owned ha
    have ne : a ≠ w.d := fun z => noS q3 (z ▸ ok.hd)
    exact ⟨by rw [upd_ne ne], q2, q3⟩
theorem ws_penL {i : Nat} (hi : Γ[i]? = some .pen) (h : WpE K w n Γ te tI (fun v n' Γ' => 0 ≤ v ∧ ∃ m, n' = some m ∧ nx n' Γ')) : WpS K w n Γ (sDPut (tVar i) (tC (.str "left")) te) res nx bk ct rt := fun σ B H ok D a b c d => by
  have hs : σ[i]? = some (some (.ref w.d)) := ok.sl i _ hi
  refine h σ B H ok _ fun v x n' Γ' B' H' hh e o r => ?_
  obtain ⟨h0, m, hn, q⟩ := hh
  obtain ⟨fr, aa, ll, q1, q2, q3, q4, q5, q6⟩ := o.pn m hn
  cases r
  have ok2 := o.pen (m := m) ⟨aa, v, rfl, q2, q3, q4, q5, h0⟩ fr
  rw [← hn] at ok2
  exact ⟨_, hs, w.d, _, rfl, .inl ⟨_, .inr "left", q1, rfl, by show (3 : Nat) < sizeLine; decide, rfl⟩, by rw [pk_putL]; exact a n' Γ' _ B' _ q e ok2⟩
theorem ws_penA {i : Nat} (hi : Γ[i]? = some .pen) (h : WpE K w n Γ te tI (fun v n' Γ' => 0 ≤ v ∧ ∃ m m', n' = some m ∧ v ≤ (m' : Nat) ∧ nx (some m') Γ')) : WpS K w n Γ (sDPut (tVar i) (tC (.str "at")) te) res nx bk ct rt := fun σ B H ok D a b c d => by
  have hs : σ[i]? = some (some (.ref w.d)) := ok.sl i _ hi
  refine h σ B H ok _ fun v x n' Γ' B' H' hh e o r => ?_
  obtain ⟨h0, m, m', hn, hv, q⟩ := hh
  obtain ⟨fr, aa, ll, q1, q2, q3, q4, q5, q6⟩ := o.pn m hn
  cases r
  have ok2 := o.pen (m := m') ⟨v, ll, rfl, q2, q3, h0, hv, q6⟩ fr
  exact ⟨_, hs, w.d, _, rfl, .inl ⟨_, .inr "at", q1, rfl, by show (3 : Nat) < sizeLine; decide, rfl⟩, by rw [pk_putA]; exact a (some m') Γ' _ B' _ q e ok2⟩

theorem divw {a b : Int} (h : 0 < b) (h2 : b < 2 ^ 30) : CDivW a b := wide_div (b := 30) h (by omega) (by decide) (by decide)
theorem mod_in {a b : Int} (h : 0 < b) : 0 ≤ a % b ∧ a % b < b := ⟨Int.emod_nonneg _ (by omega), Int.emod_lt_of_pos _ h⟩
theorem we_neNil {k : Bool → NK} (h : WpE K w n Γ ta (tL tI) (fun a n Γ => k (!decide (a = [])) n Γ)) : WpE K w n Γ (tOp (rNeU K) ta (tLst tNil)) tBo k :=
  we_neD (iL iI) (Nat.le_of_ble_eq_true rfl) (we_mono h fun x _ _ q => we_ofM (xs := fun _ => True) (wm_lst (t := tI) (wal_nil ⟨Nat.zero_le _, _, rfl, ⟨layLI x, layLI []⟩, q⟩)))
theorem we_eqNil {k : Bool → NK} (h : WpE K w n Γ ta (tL tI) (fun a n Γ => k (decide (a = [])) n Γ)) : WpE K w n Γ (tOp (rEqU K) ta (tLst tNil)) tBo k :=
  we_eqD (iL iI) (Nat.le_of_ble_eq_true rfl) (we_mono h fun x _ _ q => we_ofM (xs := fun _ => True) (wm_lst (t := tI) (wal_nil ⟨Nat.zero_le _, _, rfl, ⟨layLI x, layLI []⟩, q⟩)))

/-! ### rules for names, by what the slot holds -/
theorem we_lenVL {i : Nat} {xs : List α} {k : Int → NK} (h : Γ[i]? = some (.im (tL t) xs)) (q : k (xs.length : Int) n Γ) : WpE K w n Γ (tCB (rLenU K) (tCons (tVar i) tNil)) tI k := we_lenL (we_var h q)
theorem we_lenVU {i : Nat} {xs : List α} {k : Int → NK} (h : Γ[i]? = some (.im (tU t) xs)) (q : k (xs.length : Int) n Γ) : WpE K w n Γ (tCB (rLenU K) (tCons (tVar i) tNil)) tI k := we_lenU (we_var h q)
theorem we_lenVLs {i : Nat} {xs : List α} {k : Int → NK} (h : Γ[i]? = some (.im (tLs K t) xs)) (q : k (xs.length : Int) n Γ) : WpE K w n Γ (tCB (rLenU K) (tCons (tVar i) tNil)) tI k := we_lenLs (we_var h q)
/-- of one's own list, which stays one's own -/
theorem we_lenVM {i : Nat} {xs : List α} {k : Int → NK} (h : Γ[i]? = some (.ml t xs)) (q : k (xs.length : Int) n Γ) : WpE K w n Γ (tCB (rLenU K) (tCons (tVar i) tNil)) tI k := fun σ B H ok Q c => by
  obtain ⟨l, o, h1, h2, h3, h4, vs, rfl, p⟩ := ok.sl i _ h
  exact ⟨_, h1, _, xs.length, rfl, .inl ⟨vs, SqL.of h2, (pw_len p).symm⟩, c _ _ n Γ B H q (Ex.refl _) ok rfl⟩
theorem we_ixVL {i : Nat} {xs : List α} {k : α → NK} (h : Γ[i]? = some (.im (tL t) xs)) (q : WpE K w n Γ tb tI (fun j n Γ => ∃ x, atI xs j = some x ∧ k x n Γ)) : WpE K w n Γ (tOp (rIx K) (tVar i) tb) t k := we_ixL (we_var h q)
theorem we_ixVU {i : Nat} {xs : List α} {k : α → NK} (h : Γ[i]? = some (.im (tU t) xs)) (q : WpE K w n Γ tb tI (fun j n Γ => ∃ x, atI xs j = some x ∧ k x n Γ)) : WpE K w n Γ (tOp (rIx K) (tVar i) tb) t k := we_ixU (we_var h q)
theorem we_ixVM {i : Nat} {xs : List α} {k : α → NK} (h : Γ[i]? = some (.ml t xs)) (q : WpE K w n Γ tb tI (fun j n Γ' => Γ'[i]? = some (.ml t xs) ∧ ∃ x, atI xs j = some x ∧ k x n Γ')) : WpE K w n Γ (tOp (rIx K) (tVar i) tb) t k := fun σ B H ok Q c => by
  obtain ⟨l, o, h1, _⟩ := ok.sl i _ h
  refine ⟨_, h1, q σ B H ok _ fun j v n' Γ' B' H' ⟨g, x, hx, q⟩ e o' r' => ?_⟩
  obtain ⟨l', ob, k1, k2, k3, k4, vs, rfl, p⟩ := o'.sl i _ g
  rw [h1] at k1; cases k1
  have hv : ∃ y, atI vs j = some y ∧ t.rep B' y x := by
    unfold atI at hx ⊢
    rw [pw_len p]
    cases z : ixN xs.length j with
    | none => rw [z] at hx; cases hx
    | some m =>
      rw [z] at hx
      exact pw_getR p hx
  obtain ⟨y, hy, ry⟩ := hv
  exact .inl ⟨l, vs, j, y, rfl, r', SqL.of k2, hy, c x y n' Γ' B' H' q e o' ry⟩

/-! ### the law's def: the pen is made first -/
def spPen (K : Frag) : Sp := fun vs H Q _ => ∃ (a : Addr) (ns : List Int), vs = [.ref a] ∧ SqL K H a (ns.map V.int) ∧ ns.length ≤ 63 ∧
  ∀ c p H', Ex H H' → H c = none → H p = none → p ≠ c → H' c = some (.lst (ns.map V.int)) → H' p = some (.dK (penKV c 0 0)) → Q (.ref p) H'
def spLaw (K : Frag) : Sp := fun vs H Q _ => ∃ (a : Addr) (ns : List Int), vs = [.ref a] ∧ SqL K H a (ns.map V.int) ∧ ns.length ≤ 63 ∧ ∀ H', Q (.bl true) H'
theorem law_body {N : List Str} {vs : List V} {H : Hp} {Q : VK} {X E : XK} {t : TS} (hN : 2 ≤ N.length) (hsp : spLaw K vs H Q X)
    (body : ∀ (w : Wd) (ns : List Int), ns.length ≤ 63 → WpS K w (some 0) (.im (tLs K tI) ns :: .pen :: List.replicate (N.length - 2) .no) t (fun x => .im tBo x)
      (fun _ _ => False) (fun _ _ => False) (fun _ _ => False) (fun x _ => x = true)) :
    tSeq (tAsg (tCall (spPen K) [] E (tCons (tVar 0) tNil)) (gName 1)) t { nx := fun _ H' => Q .non H', rt := Q } (L2.start N vs) H := by
  obtain ⟨a, ns, rfl, hS, hl, q⟩ := hsp
  have hst : L2.start N [V.ref a] = some (.ref a) :: List.replicate (N.length - 1) none := by unfold L2.start; simp
  rw [hst]
  refine ⟨.ref a, rfl, a, ns, rfl, hS, hl, fun c p H' ex hc hp hne h1 h2 => ?_⟩
  have e2 : (some (V.ref a) :: List.replicate (N.length - 1) none).set 1 (some (V.ref p)) = some (.ref a) :: some (.ref p) :: List.replicate (N.length - 2) none := by
    have : N.length - 1 = (N.length - 2) + 1 := by omega
    rw [this, List.replicate_succ]; rfl
  show (_ : L2.St → Hp → Prop) _ _
  have B0 : Hp := upd H c (.lst (ns.map V.int))
  have ok : Ok K ⟨p, c, ns, upd H c (.lst (ns.map V.int)), H'⟩ (some 0) (.im (tLs K tI) ns :: .pen :: List.replicate (N.length - 2) .no) (some (.ref a) :: some (.ref p) :: List.replicate (N.length - 2) none) (upd H c (.lst (ns.map V.int))) H' := by
    refine ⟨ex.put h1, Ex.refl _, fun x o q => .inl q, fun x o q _ => q, isS h2, isS h2, fun m q => ?_, by simp, fun i e q => ?_, fun i j e e' a _ q _ oi => ?_⟩
    · cases q
      exact ⟨by rw [upd_ne hne]; exact hp, 0, 0, h2, upd_same, hl, Int.le_refl _, Int.le_refl _, Int.le_refl _⟩
    · match i with
      | 0 =>
        simp at q; subst q
        exact ⟨.ref a, by simp, a, _, rfl, (Ex.new hc).l hS, pw_mapI⟩
      | 1 => simp at q; subst q; show _ = _; simp
      | i + 2 =>
        simp only [List.getElem?_cons_succ, List.getElem?_replicate] at q
        split at q
        · cases q; trivial
        · cases q
    · match i with
      | 0 => simp at q; subst q; exact False.elim oi
      | 1 => simp at q; subst q; exact False.elim oi
      | i + 2 =>
        simp only [List.getElem?_cons_succ, List.getElem?_replicate] at q
        split at q
        · cases q; exact False.elim oi
        · cases q
  have key := body ⟨p, c, ns, upd H c (.lst (ns.map V.int)), H'⟩ ns hl _ _ _ ok { nx := fun _ H' => Q .non H', rt := Q } (fun _ _ _ _ _ h _ _ => h.elim) (fun _ _ _ _ _ h _ _ => h.elim) (fun _ _ _ _ _ h _ _ => h.elim) (fun x v n' B' H' h e o s => by
    subst h
    obtain ⟨v', h1, h2⟩ := s
    cases h1; cases h2
    exact q H')
  show t _ _ _
  rw [e2]
  exact key
end
end TL

/-! # TL: the promises of the law's own draws -/
namespace TL
open PySem L2
open PySem.W (Frag)

section
variable {K : Frag} {w : Wd} {n : Option Nat} {Γ : Env} {α β γ δ ρ A : Type} {t : Ty α} {u : Ty β} {ta tb te : TE} {ts ts' : TS} {res : ρ → Ent} {nx bk ct : NK} {rt : ρ → Option Nat → Prop}
theorem Up.drop {I : NK} (i : Nat) (h : I n (Γ.set i .no)) : Up K w I n Γ := ⟨_, _, View.drop i, h⟩
theorem Up.drop2 {I : NK} (i j : Nat) (h : I n ((Γ.set i .no).set j .no)) : Up K w I n Γ := ⟨_, _, (View.drop i).trans (View.drop j), h⟩
theorem Up.drop3 {I : NK} (i j l : Nat) (h : I n (((Γ.set i .no).set j .no).set l .no)) : Up K w I n Γ := ⟨_, _, ((View.drop i).trans (View.drop j)).trans (View.drop l), h⟩
theorem Up.drop4 {I : NK} (i j l m : Nat) (h : I n ((((Γ.set i .no).set j .no).set l .no).set m .no)) : Up K w I n Γ := ⟨_, _, (((View.drop i).trans (View.drop j)).trans (View.drop l)).trans (View.drop m), h⟩
theorem Up.le {I : NK} {a b : Nat} (e : a ≤ b) (h : Up K w I (some b) Γ) : Up K w I (some a) Γ := by
  obtain ⟨n0, Γ0, v, q⟩ := h
  exact ⟨n0, Γ0, (View.le e).trans v, q⟩
/-- a call that draws nothing -/
theorem we_call0 {S : FS K} {E : XK} {ta : TA} {t : Ty S.ρ} {k : S.ρ → NK} (hres : S.res = fun x => .im t x) (hc : S.cost = 0) (h : WpA K w n Γ ta S.args (fun a n Γ => S.pre a ∧ ∀ x, S.post a x → k x n Γ)) : WpE K w n Γ (tCall S.sp [] E ta) t k :=
  we_call hres fun σ B H ok Q c => h σ B H ok Q fun a vs n' Γ' B' H' ⟨h1, h2⟩ => c a vs n' Γ' B' H' ⟨h1, .inl hc, fun x n2 hx hcc => by
    rcases hcc with ⟨_, rfl⟩ | ⟨m, rfl, rfl⟩
    · exact h2 x hx
    · rw [hc]; exact h2 x hx⟩
theorem we_callN {S : FS K} {E : XK} {ta : TA} {t : Ty S.ρ} {k : S.ρ → NK} {c : Nat} (hres : S.res = fun x => .im t x) (hc : S.cost = c) (h : WpA K w n Γ ta S.args (fun a n Γ => S.pre a ∧ ∃ m, n = some m ∧ m + c ≤ 2 ^ 60 ∧ ∀ x, S.post a x → k x (some (m + c)) Γ)) : WpE K w n Γ (tCall S.sp [] E ta) t k :=
  we_call hres fun σ B H ok Q c' => h σ B H ok Q fun a vs n' Γ' B' H' ⟨h1, m, hn, hm, h2⟩ => c' a vs n' Γ' B' H' ⟨h1, .inr ⟨m, hn, by rw [hc]; exact hm⟩, fun x n2 hx hcc => by
    subst hn
    rcases hcc with ⟨z, rfl⟩ | ⟨m', e, rfl⟩
    · rw [hc] at z; subst z; exact h2 x hx
    · cases e; rw [hc]; exact h2 x hx⟩
theorem wm_call0 {S : FS K} {E : XK} {ta : TA} {rs : S.ρ → Rs} {k : Rs → NK} (hres : S.res = fun x => .mu (rs x)) (hc : S.cost = 0) (h : WpA K w n Γ ta S.args (fun a n Γ => S.pre a ∧ ∀ x, S.post a x → k (rs x) n Γ)) : WpM K w n Γ (tCall S.sp [] E ta) k :=
  wm_call hres fun σ B H ok Q c => h σ B H ok Q fun a vs n' Γ' B' H' ⟨h1, h2⟩ => c a vs n' Γ' B' H' ⟨h1, .inl hc, fun x n2 hx hcc => by
    rcases hcc with ⟨_, rfl⟩ | ⟨m, rfl, rfl⟩
    · exact h2 x hx
    · rw [hc]; exact h2 x hx⟩
theorem wm_callN {S : FS K} {E : XK} {ta : TA} {rs : S.ρ → Rs} {k : Rs → NK} {c : Nat} (hres : S.res = fun x => .mu (rs x)) (hc : S.cost = c) (h : WpA K w n Γ ta S.args (fun a n Γ => S.pre a ∧ ∃ m, n = some m ∧ m + c ≤ 2 ^ 60 ∧ ∀ x, S.post a x → k (rs x) (some (m + c)) Γ)) : WpM K w n Γ (tCall S.sp [] E ta) k :=
  wm_call hres fun σ B H ok Q c' => h σ B H ok Q fun a vs n' Γ' B' H' ⟨h1, m, hn, hm, h2⟩ => c' a vs n' Γ' B' H' ⟨h1, .inr ⟨m, hn, by rw [hc]; exact hm⟩, fun x n2 hx hcc => by
    subst hn
    rcases hcc with ⟨z, rfl⟩ | ⟨m', e, rfl⟩
    · rw [hc] at z; subst z; exact h2 x hx
    · cases e; rw [hc]; exact h2 x hx⟩
/-- the draws that a body of cost c + .. has at hand -/
theorem May.some {c : Nat} {n : Option Nat} (h : May (c + 1) n) : ∃ m, n = some m ∧ m + (c + 1) ≤ 2 ^ 60 := by
  rcases h with z | z
  · cases z
  · exact z
end

theorem CLe_some {c m m' : Nat} (h : m' ≤ m + c) : CLe c (some m) (some m') := .inr ⟨m, m', rfl, rfl, h⟩
theorem CLe_refl {n : Option Nat} : CLe 0 n n := .inl ⟨rfl, rfl⟩
theorem rg_get {k i : Nat} {x : Int} (h : ((List.range k).map fun (i : Nat) => (i : Int))[i]? = some x) : i < k ∧ x = i := by
  rw [List.getElem?_map] at h
  cases z : (List.range k)[i]? with
  | none => rw [z] at h; cases h
  | some c =>
    rw [z] at h
    obtain ⟨q1, q2⟩ := List.getElem?_eq_some_iff.mp z
    have hc : c = i := by rw [← q2]; simp
    exact ⟨by simpa using q1, by rw [← Option.some.inj h, hc]⟩
theorem rl_get {a b : Int} {i : Nat} {x : Int} (h : (rangeL a b)[i]? = some x) : (i : Int) < b - a ∧ x = a + i := by
  unfold rangeL at h
  rw [List.getElem?_map] at h
  cases z : (List.range (b - a).toNat)[i]? with
  | none => rw [z] at h; cases h
  | some c =>
    rw [z] at h
    obtain ⟨q1, q2⟩ := List.getElem?_eq_some_iff.mp z
    have hc : c = i := by rw [← q2]; simp
    have q3 : i < (b - a).toNat := by simpa using q1
    exact ⟨by omega, by rw [← Option.some.inj h, hc]⟩
theorem get_lt {α : Type} {xs : List α} {i : Nat} {x : α} (h : xs[i]? = some x) : i < xs.length := (List.getElem?_eq_some_iff.mp h).1
theorem rg_len {k : Nat} : ((List.range k).map fun (i : Nat) => (i : Int)).length = k := by simp
theorem rl_len {a b : Int} : (rangeL a b).length = (b - a).toNat := by simp [rangeL]

/-! ### what the law's draws give -/
section
variable (K : Frag)
def S__law_draw : FS K := { A := Int × Unit, args := aPen (aCons tI aNil), ρ := Int, res := fun x => .im tI x, cost := 1, pre := fun a => 1 ≤ a.1 ∧ a.1 < 2 ^ 30, post := fun a r => 0 ≤ r ∧ r < a.1 }
abbrev sp__law_draw : Sp := (S__law_draw K).sp
instance : Ents (S__law_draw K).args := inferInstanceAs (Ents (aPen (aCons tI aNil)))
def S_pick {α : Type} (t : Ty α) : FS K := { A := List α × Unit, args := aPen (aCons (tL t) aNil), ρ := α, res := fun x => .im t x, cost := 1, pre := fun a => a.1 ≠ [] ∧ a.1.length < 1000, post := fun a r => r ∈ a.1 }
instance {α : Type} {t : Ty α} : Ents (S_pick K t).args := inferInstanceAs (Ents (aPen (aCons (tL t) aNil)))
def S__law_below : FS K := { A := Int × Unit, args := aPen (aCons tI aNil), ρ := Int, res := fun x => .im tI x, cost := 10, pre := fun a => 1 ≤ a.1, post := fun a r => 0 ≤ r ∧ r < a.1 }
abbrev sp__law_below : Sp := (S__law_below K).sp
instance : Ents (S__law_below K).args := inferInstanceAs (Ents (aPen (aCons tI aNil)))
def S__law_far : FS K := { A := Unit, args := aPen aNil, ρ := Int, res := fun x => .im tI x, cost := 12, pre := fun a => True, post := fun a r => -(10 ^ 60) < r ∧ r < 10 ^ 60 }
abbrev sp__law_far : Sp := (S__law_far K).sp
instance : Ents (S__law_far K).args := inferInstanceAs (Ents (aPen aNil))
def S__law_little : FS K := { A := Unit, args := aPen aNil, ρ := Int, res := fun x => .im tI x, cost := 12, pre := fun a => True, post := fun a r => -(10 ^ 12) < r ∧ r < 10 ^ 12 }
abbrev sp__law_little : Sp := (S__law_little K).sp
instance : Ents (S__law_little K).args := inferInstanceAs (Ents (aPen aNil))
def S__law_size : FS K := { A := Unit, args := aPen aNil, ρ := Int, res := fun x => .im tI x, cost := 11, pre := fun a => True, post := fun a r => 1 ≤ r ∧ r ≤ 10 ^ 60 }
abbrev sp__law_size : Sp := (S__law_size K).sp
instance : Ents (S__law_size K).args := inferInstanceAs (Ents (aPen aNil))
end
section
variable {K : Frag} {w : Wd} {n : Option Nat} {Γ : Env} {α : Type} {t : Ty α} {ta tb te : TE} {E : XK}
theorem we_draw {i : Nat} {k : Int → NK} (hi : Γ[i]? = some .pen) (h : WpE K w n Γ tb tI (fun m n Γ => (1 ≤ m ∧ m < 2 ^ 30) ∧ ∃ c, n = some c ∧ c + 1 ≤ 2 ^ 60 ∧ ∀ r : Int, 0 ≤ r → r < m → k r (some (c + 1)) Γ)) : WpE K w n Γ (tCall (S__law_draw K).sp [] E (tCons (tVar i) (tCons tb tNil))) tI k :=
  we_callN (S := S__law_draw K) rfl rfl (wa_pen hi (wa_cons (we_mono h fun m n' Γ' ⟨h1, c, hn, hc, h2⟩ => wa_nil ⟨h1, c, hn, hc, fun r hr => h2 r hr.1 hr.2⟩)))
theorem we_below {i : Nat} {k : Int → NK} (hi : Γ[i]? = some .pen) (h : WpE K w n Γ tb tI (fun m n Γ => 1 ≤ m ∧ ∃ c, n = some c ∧ c + 10 ≤ 2 ^ 60 ∧ ∀ r : Int, 0 ≤ r → r < m → k r (some (c + 10)) Γ)) : WpE K w n Γ (tCall (S__law_below K).sp [] E (tCons (tVar i) (tCons tb tNil))) tI k :=
  we_callN (S := S__law_below K) rfl rfl (wa_pen hi (wa_cons (we_mono h fun m n' Γ' ⟨h1, c, hn, hc, h2⟩ => wa_nil ⟨h1, c, hn, hc, fun r hr => h2 r hr.1 hr.2⟩)))
theorem we_far {i : Nat} {k : Int → NK} (hi : Γ[i]? = some .pen) (h : ∃ c, n = some c ∧ c + 12 ≤ 2 ^ 60 ∧ ∀ r : Int, -(10 ^ 60) < r → r < 10 ^ 60 → k r (some (c + 12)) Γ) : WpE K w n Γ (tCall (S__law_far K).sp [] E (tCons (tVar i) tNil)) tI k := by
  obtain ⟨c, hn, hc, h2⟩ := h
  exact we_callN (S := S__law_far K) rfl rfl (wa_pen hi (wa_nil ⟨trivial, c, hn, hc, fun r hr => h2 r hr.1 hr.2⟩))
theorem we_little {i : Nat} {k : Int → NK} (hi : Γ[i]? = some .pen) (h : ∃ c, n = some c ∧ c + 12 ≤ 2 ^ 60 ∧ ∀ r : Int, -(10 ^ 12) < r → r < 10 ^ 12 → k r (some (c + 12)) Γ) : WpE K w n Γ (tCall (S__law_little K).sp [] E (tCons (tVar i) tNil)) tI k := by
  obtain ⟨c, hn, hc, h2⟩ := h
  exact we_callN (S := S__law_little K) rfl rfl (wa_pen hi (wa_nil ⟨trivial, c, hn, hc, fun r hr => h2 r hr.1 hr.2⟩))
theorem we_size {i : Nat} {k : Int → NK} (hi : Γ[i]? = some .pen) (h : ∃ c, n = some c ∧ c + 11 ≤ 2 ^ 60 ∧ ∀ r : Int, 1 ≤ r → r ≤ 10 ^ 60 → k r (some (c + 11)) Γ) : WpE K w n Γ (tCall (S__law_size K).sp [] E (tCons (tVar i) tNil)) tI k := by
  obtain ⟨c, hn, hc, h2⟩ := h
  exact we_callN (S := S__law_size K) rfl rfl (wa_pen hi (wa_nil ⟨trivial, c, hn, hc, fun r hr => h2 r hr.1 hr.2⟩))
theorem we_pick {i : Nat} {k : α → NK} (hi : Γ[i]? = some .pen) (h : WpE K w n Γ tb (tL t) (fun xs n Γ => (xs ≠ [] ∧ xs.length < 1000) ∧ ∃ c, n = some c ∧ c + 1 ≤ 2 ^ 60 ∧ ∀ x ∈ xs, k x (some (c + 1)) Γ)) : WpE K w n Γ (tCall (S_pick K t).sp [] E (tCons (tVar i) (tCons tb tNil))) t k :=
  we_callN (S := S_pick K t) rfl rfl (wa_pen hi (wa_cons (we_mono h fun m n' Γ' ⟨h1, c, hn, hc, h2⟩ => wa_nil ⟨h1, c, hn, hc, fun r hr => h2 r hr⟩)))
/-- a list written out -/
theorem we_lst {ta : TA} {k : List α → NK} (h : WpA K w n Γ ta (aAll t) (fun xs n Γ => xs.length ≤ 100000 ∧ k xs n Γ)) : WpE K w n Γ (tLst ta) (tL t) k :=
  we_ofM (xs := fun _ => True) (wm_lst fun σ B H ok Q c => h σ B H ok Q fun a vs n' Γ' B' H' ⟨h1, h2⟩ => c a vs n' Γ' B' H' ⟨h1, a, rfl, h2⟩)
theorem atI_mem {xs : List α} {i : Int} (h0 : 0 ≤ i) (h : i < xs.length) : ∃ x, atI xs i = some x ∧ x ∈ xs := ⟨_, atI_int h0 (by omega), List.getElem_mem _⟩
/-- an item of a list written out, whichever -/
theorem we_ixAny {ta : TA} {k : α → NK} (h : WpA K w n Γ ta (aAll t) (fun xs n Γ => xs.length ≤ 100000 ∧ WpE K w n Γ tb tI (fun i n Γ => (0 ≤ i ∧ i < xs.length) ∧ ∀ x, x ∈ xs → k x n Γ))) : WpE K w n Γ (tOp (rIx K) (tLst ta) tb) t k :=
  we_ixL (we_lst fun σ B H ok Q c => h σ B H ok Q fun a vs n' Γ' B' H' ⟨h1, h2⟩ => c a vs n' Γ' B' H' ⟨h1, we_mono h2 fun i _ _ ⟨h3, h4⟩ => by
    obtain ⟨x, hx, hm⟩ := atI_mem h3.1 h3.2
    exact ⟨x, hx, h4 x hm⟩⟩)
theorem we_powC {a b : Int} {m : Nat} {k : Int → NK} (hm : b.toNat = m) (h : CPow a b ∧ k (a ^ m) n Γ) : WpE K w n Γ (tOp rPowU (tC (.int a)) (tC (.int b))) tI k := by
  subst hm
  exact we_pow (we_int (we_int h))
end
end TL

/-! # TL: zip and enumerate over lists and tuples, in any mixture -/
namespace TZ
open PySem PySem.Spec PyProof.Rows L2
open PySem.W (Frag)

/-- a list, a tuple -/
inductive Sk where | l | t
def ItAt (k : Sk) (h : Heap) (it a : Addr) (i : Nat) : Prop := match k with
  | .l => h.IsListIter it a i
  | .t => h.IsTupleIter it a i
def SqAt (k : Sk) (h : Heap) (a : Addr) (xs : Array Value) : Prop := match k with
  | .l => h.IsList a xs
  | .t => h.IsTuple a xs
def itName : Sk → String
  | .l => "list_iterator"
  | .t => "tuple_iterator"
theorem ItAt.ob {k : Sk} {h : Heap} {it a : Addr} {i : Nat} (x : ItAt k h it a i) : ∃ o, h.get? it = some o ∧ o.cls = .type (itName k) ∧ o.data = .fields #[.ref a, .int i 0] := by
  cases k <;> exact x
theorem ItAt.of {k : Sk} {h : Heap} {it a : Addr} {i : Nat} {o : Obj} (e : h.get? it = some o) (c : o.cls = .type (itName k)) (d : o.data = .fields #[.ref a, .int i 0]) : ItAt k h it a i := by
  cases k <;> exact ⟨o, e, c, d⟩
theorem ItAt.go {k : Sk} {h h' : Heap} {it a : Addr} {i : Nat} (x : ItAt k h it a i) (e : ∀ o, h.get? it = some o → h'.get? it = some o) : ItAt k h' it a i := by
  obtain ⟨o, h1, h2, h3⟩ := x.ob
  exact .of (e o h1) h2 h3
theorem SqAt.ob {k : Sk} {h : Heap} {a : Addr} {xs : Array Value} (x : SqAt k h a xs) : ∃ o, h.get? a = some o := by
  cases k
  · obtain ⟨o, e, _⟩ := x; exact ⟨o, e⟩
  · obtain ⟨o, e, _⟩ := x; exact ⟨o, e⟩
theorem SqAt.go {k : Sk} {h h' : Heap} {a : Addr} {xs : Array Value} (x : SqAt k h a xs) (e : ∀ o, h.get? a = some o → h'.get? a = some o) : SqAt k h' a xs := by
  cases k
  · obtain ⟨o, h1, h2⟩ := x; exact ⟨o, e o h1, h2⟩
  · obtain ⟨o, h1, h2⟩ := x; exact ⟨o, e o h1, h2⟩
section
variable {prog : Program} {w : World} {A : Around} {E : Value → Shared → Prop} {s : Shared}
theorem nxt_item {k : Sk} {it a : Addr} {i : Nat} {xs : Array Value} {x : Value} {Q : Value → Shared → Prop} (h1 : ItAt k s.heap it a i) (h2 : SqAt k s.heap a xs) (h3 : xs[i]? = some x)
    (q : ∀ g, ItAt k g it a (i + 1) → Heap.SameBut it s.heap g → Q x { s with heap := g }) : wpAny (model prog w) A (Builtin.SmallTypes.nextOf (.ref it)) Q E s := by
  cases k
  · exact wpAny_nextOf_list_item h1 h2 h3 q
  · exact RZ.nextOf_tuple_item h1 h2 h3 q
theorem nxt_end {k : Sk} {it a : Addr} {i : Nat} {xs : Array Value} {Q : Value → Shared → Prop} (hh : A.handled = none) (h1 : ItAt k s.heap it a i) (h2 : SqAt k s.heap a xs) (h3 : xs[i]? = none)
    (q : ∀ g e, Heap.ExtBut it s.heap g → (∃ o, g.get? e = some o ∧ o.cls = .type "StopIteration") → E (.ref e) { s with heap := g }) : wpAny (model prog w) A (Builtin.SmallTypes.nextOf (.ref it)) Q E s := by
  cases k
  · exact wpAny_nextOf_list_end hh h1 h2 h3 q
  · exact RZ.nextOf_tuple_end hh h1 h2 h3 q
/-- what stands besides the iterators' own objects -/
abbrev Rest (h g : Heap) (z o i j : Addr) : Prop := ∀ c ob, c ≠ z → c ≠ o → c ≠ i → c ≠ j → h.get? c = some ob → g.get? c = some ob
theorem zip_next {k k' : Sk} {z TI TO i j a b : Addr} {m n : Nat} {xs ys : Array Value} {x y u v : Value} {Q : Value → Shared → Prop} (D : ZipApart z TI TO i j a b) (hz : IsZip s.heap z TI TO .none)
    (ti : IsPair s.heap TI (.ref i) (.ref j)) (to : IsPair s.heap TO u v) (p1 : ItAt k s.heap i a m) (p2 : ItAt k' s.heap j b n) (q1 : SqAt k s.heap a xs) (q2 : SqAt k' s.heap b ys) (hx : xs[m]? = some x) (hy : ys[n]? = some y)
    (hQ : ∀ g, IsZip g z TI TO (rawInt s.heap.objs.size) → IsPair g TO x y → ItAt k g i a (m + 1) → ItAt k' g j b (n + 1) → IsPair g s.heap.objs.size x y → g.objs.size = s.heap.objs.size + 1 → Rest s.heap g z TO i j → Q (.ref s.heap.objs.size) { s with heap := g }) :
    wpAny (model prog w) A (Builtin.«zip.__next__» ⟨[.ref z], []⟩) (fun fin s' => ∃ v, fin = .done (.ret v) ∧ Q v s') E s := by
  show wpAny _ _ (field (.ref z) 2 >>= _) _ _ _; refine wpAny_bind (wpAny_field hz rfl (x := .bool false) rfl ?_)
  show wpAny _ _ (field (.ref z) 3 >>= _) _ _ _; refine wpAny_bind (wpAny_field hz rfl (x := .ref TI) rfl (wpAny_bind (wpAny_seqItems ti rfl ?_)))
  show wpAny _ _ (Builtin.SmallTypes.ownedTupleIsFree (.ref z) >>= _) _ _ _; refine wpAny_bind ?_; unfold Builtin.SmallTypes.ownedTupleIsFree
  refine wpAny_bind (wpAny_field hz rfl (x := .none) rfl (wpAny_pure ?_)); simp only [if_true]
  refine wpAny_bind (wpAny_rule (wpAny_bind (wpAny_field hz rfl (x := .ref TO) rfl (wpAny_bind (wpAny_setField_rec hz (by simp) fun g1 z1 e1 => ?_)))))
  replace z1 : IsZip g1 z TI TO .ellipsis := z1
  refine wpAny_bind ?_; simp only [List.zipIdx_cons, List.zipIdx_nil, List.forIn_cons, List.forIn_nil]
  refine wpAny_bind (wpAny_bind (wpAny_onRaise ?_)); show wpAny _ _ (Builtin.SmallTypes.nextOf (.ref i) >>= _) _ _ _
  have E1 : ∀ c o, c ≠ z → s.heap.get? c = some o → g1.get? c = some o := fun c o h e => e1.extBut c o h e
  refine wpAny_bind (nxt_item (p1.go fun o => E1 i o D.i1z) (q1.go fun o => E1 a o D.l1z) hx fun g2 r1 e2 => wpAny_pure ?_)
  have E2 : ∀ c o, c ≠ i → g1.get? c = some o → g2.get? c = some o := fun c o h e => e2.extBut c o h e
  have to2 : IsPair g2 TO u v := E2 _ _ D.TOi1 (E1 _ _ D.TOz to)
  refine wpAny_bind (wpAny_seqItems to2 rfl (wpAny_bind (wpAny_updateSeq_pair to2 fun g3 to3 e3 => ?_)))
  replace to3 : IsPair g3 TO x v := to3
  have E3 : ∀ c o, c ≠ TO → g2.get? c = some o → g3.get? c = some o := fun c o h e => e3.extBut c o h e
  refine wpAny_bind (wpAny_letGo (wpAny_pure ?_)); refine wpAny_bind (wpAny_bind (wpAny_onRaise ?_)); show wpAny _ _ (Builtin.SmallTypes.nextOf (.ref j) >>= _) _ _ _
  refine wpAny_bind (nxt_item (p2.go fun o e => E3 j o D.TOi2.symm (E2 j o D.i12.symm (E1 j o D.i2z e))) (q2.go fun o e => E3 b o D.l2TO (E2 b o D.l2i1 (E1 b o D.l2z e))) hy fun g4 r2 e4 => wpAny_pure ?_)
  have E4 : ∀ c o, c ≠ j → g3.get? c = some o → g4.get? c = some o := fun c o h e => e4.extBut c o h e
  have to4 : IsPair g4 TO x v := E4 _ _ D.TOi2 to3
  refine wpAny_bind (wpAny_seqItems to4 rfl (wpAny_bind (wpAny_updateSeq_pair to4 fun g5 to5 e5 => ?_)))
  replace to5 : IsPair g5 TO x y := to5
  have E5 : ∀ c o, c ≠ TO → g4.get? c = some o → g5.get? c = some o := fun c o h e => e5.extBut c o h e
  refine wpAny_bind (wpAny_letGo (wpAny_pure (wpAny_pure ?_))); refine wpAny_bind (wpAny_seqItems to5 rfl (wpAny_bind (wpAny_newTuple ?_)))
  have zs : g5.objs.size = s.heap.objs.size := by rw [e5.1, e4.1, e3.1, e2.1, e1.1]
  have z5 : IsZip g5 z TI TO .ellipsis := E5 _ _ D.TOz.symm (E4 _ _ D.i2z.symm (E3 _ _ D.TOz.symm (E2 _ _ D.i1z.symm z1)))
  have K5 : Rest s.heap g5 z TO i j := fun c o c1 c2 c3 c4 e => E5 _ _ c2 (E4 _ _ c4 (E3 _ _ c2 (E2 _ _ c3 (E1 _ _ c1 e))))
  have r15 : ItAt k g5 i a (m + 1) := r1.go fun o e => E5 _ o D.TOi1.symm (E4 _ o D.i12 (E3 _ o D.TOi1.symm e))
  have r25 : ItAt k' g5 j b (n + 1) := r2.go fun o e => E5 _ o D.TOi2.symm e
  have zl : z < g5.objs.size := Heap.lt_size z5
  show wpAny _ _ (Builtin.SmallTypes.ownedTupleHandOut (.ref z) (.ref g5.objs.size) >>= _) _ _ _; refine wpAny_bind ?_; unfold Builtin.SmallTypes.ownedTupleHandOut
  have z6 : IsZip (g5.push { cls := .type "tuple", data := .seq #[x, y] }) z TI TO .ellipsis := Heap.get?_push_of_some _ z5
  refine wpAny_bind (wpAny_setField_rec z6 (by simp) fun g7 z7 e7 => ?_)
  replace z7 : IsZip g7 z TI TO (rawInt g5.objs.size) := z7
  refine wpAny_setField_rec z7 (by simp) fun g8 z8 e8 => ?_
  replace z8 : IsZip g8 z TI TO (rawInt g5.objs.size) := z8
  have up : ∀ c o, c ≠ z → g5.get? c = some o → g8.get? c = some o := fun c o c1 e => e8.extBut _ _ c1 (e7.extBut _ _ c1 (Heap.get?_push_of_some _ e))
  have t8 : IsPair g8 g5.objs.size x y := e8.extBut _ _ (Nat.ne_of_gt zl) (e7.extBut _ _ (Nat.ne_of_gt zl) (Heap.get?_push_size _ rfl))
  have s8 : g8.objs.size = g5.objs.size + 1 := by rw [e8.1, e7.1, Heap.size_push]
  rw [zs] at z8 t8 s8
  refine wpAny_pure ⟨_, rfl, ?_⟩
  show Q (.ref g5.objs.size) _
  rw [zs]
  exact hQ g8 z8 (up _ _ D.TOz to5) (r15.go fun o e => up _ o D.i1z e) (r25.go fun o e => up _ o D.i2z e) t8 s8 fun c o c1 c2 c3 c4 e => up c o c1 (K5 c o c1 c2 c3 c4 e)
theorem zip_stop {k k' : Sk} {z TI TO i j a b : Addr} {m n : Nat} {xs ys : Array Value} {u v : Value} {Q : Fin → Shared → Prop} (hh : A.handled = none) (D : ZipApart z TI TO i j a b) (hz : IsZip s.heap z TI TO .none)
    (ti : IsPair s.heap TI (.ref i) (.ref j)) (to : IsPair s.heap TO u v) (p1 : ItAt k s.heap i a m) (p2 : ItAt k' s.heap j b n) (q1 : SqAt k s.heap a xs) (q2 : SqAt k' s.heap b ys) (hend : xs[m]? = none ∨ ys[n]? = none)
    (hE : ∀ g e, Rest s.heap g z TO i j → (∃ o, g.get? e = some o ∧ o.cls = .type "StopIteration") → E (.ref e) { s with heap := g }) : wpAny (model prog w) A (Builtin.«zip.__next__» ⟨[.ref z], []⟩) Q E s := by
  show wpAny _ _ (field (.ref z) 2 >>= _) _ _ _; refine wpAny_bind (wpAny_field hz rfl (x := .bool false) rfl ?_)
  show wpAny _ _ (field (.ref z) 3 >>= _) _ _ _; refine wpAny_bind (wpAny_field hz rfl (x := .ref TI) rfl (wpAny_bind (wpAny_seqItems ti rfl ?_)))
  show wpAny _ _ (Builtin.SmallTypes.ownedTupleIsFree (.ref z) >>= _) _ _ _; refine wpAny_bind ?_; unfold Builtin.SmallTypes.ownedTupleIsFree
  refine wpAny_bind (wpAny_field hz rfl (x := .none) rfl (wpAny_pure ?_)); simp only [if_true]
  refine wpAny_bind (wpAny_rule (wpAny_bind (wpAny_field hz rfl (x := .ref TO) rfl (wpAny_bind (wpAny_setField_rec hz (by simp) fun g1 z1 e1 => ?_)))))
  replace z1 : IsZip g1 z TI TO .ellipsis := z1
  refine wpAny_bind ?_; simp only [List.zipIdx_cons, List.zipIdx_nil, List.forIn_cons, List.forIn_nil]
  refine wpAny_bind (wpAny_bind (wpAny_onRaise ?_)); show wpAny _ _ (Builtin.SmallTypes.nextOf (.ref i) >>= _) _ _ _
  have E1 : ∀ c o, c ≠ z → s.heap.get? c = some o → g1.get? c = some o := fun c o h e => e1.extBut c o h e
  cases hx : xs[m]? with
  | none =>
    refine wpAny_bind (nxt_end hh (p1.go fun o => E1 i o D.i1z) (q1.go fun o => E1 a o D.l1z) hx fun g2 e e2 he => ?_)
    obtain ⟨oe, h1, h2⟩ := he
    have z2 : IsZip g2 z TI TO .ellipsis := e2 _ _ D.i1z.symm z1
    have ne : e ≠ z := fun x => by subst x; rw [z2] at h1; cases h1; simp at h2
    exact wpAny_setField_rec z2 (by simp) fun g3 _ e3 => hE g3 e (fun c o c1 _ c3 _ x => e3.extBut _ _ c1 (e2 _ _ c3 (E1 _ _ c1 x))) ⟨oe, e3.extBut _ _ ne h1, h2⟩
  | some x =>
    have hy : ys[n]? = none := by
      rcases hend with h | h
      · rw [hx] at h; cases h
      · exact h
    refine wpAny_bind (nxt_item (p1.go fun o => E1 i o D.i1z) (q1.go fun o => E1 a o D.l1z) hx fun g2 r1 e2 => wpAny_pure ?_)
    have E2 : ∀ c o, c ≠ i → g1.get? c = some o → g2.get? c = some o := fun c o h e => e2.extBut c o h e
    have to2 : IsPair g2 TO u v := E2 _ _ D.TOi1 (E1 _ _ D.TOz to)
    refine wpAny_bind (wpAny_seqItems to2 rfl (wpAny_bind (wpAny_updateSeq_pair to2 fun g3 to3 e3 => ?_)))
    have E3 : ∀ c o, c ≠ TO → g2.get? c = some o → g3.get? c = some o := fun c o h e => e3.extBut c o h e
    refine wpAny_bind (wpAny_letGo (wpAny_pure ?_)); refine wpAny_bind (wpAny_bind (wpAny_onRaise ?_)); show wpAny _ _ (Builtin.SmallTypes.nextOf (.ref j) >>= _) _ _ _
    refine wpAny_bind (nxt_end hh (p2.go fun o e => E3 j o D.TOi2.symm (E2 j o D.i12.symm (E1 j o D.i2z e))) (q2.go fun o e => E3 b o D.l2TO (E2 b o D.l2i1 (E1 b o D.l2z e))) hy fun g4 e e4 he => ?_)
    obtain ⟨oe, h1, h2⟩ := he
    have z4 : IsZip g4 z TI TO .ellipsis := e4 _ _ D.i2z.symm (E3 _ _ D.TOz.symm (E2 _ _ D.i1z.symm z1))
    have ne : e ≠ z := fun x => by subst x; rw [z4] at h1; cases h1; simp at h2
    exact wpAny_setField_rec z4 (by simp) fun g5 _ e5 => hE g5 e (fun c o c1 c2 c3 c4 x => e5.extBut _ _ c1 (e4 _ _ c4 (E3 _ _ c2 (E2 _ _ c3 (E1 _ _ c1 x))))) ⟨oe, e5.extBut _ _ ne h1, h2⟩
theorem pyNext_zip {k k' : Sk} {z TI TO i j a b : Addr} {m n : Nat} {xs ys : Array Value} {x y u v : Value} {Q : Option Value → Shared → Prop} (D : ZipApart z TI TO i j a b) (hz : IsZip s.heap z TI TO .none)
    (ti : IsPair s.heap TI (.ref i) (.ref j)) (to : IsPair s.heap TO u v) (p1 : ItAt k s.heap i a m) (p2 : ItAt k' s.heap j b n) (q1 : SqAt k s.heap a xs) (q2 : SqAt k' s.heap b ys) (hx : xs[m]? = some x) (hy : ys[n]? = some y)
    (hQ : ∀ g, IsZip g z TI TO (rawInt s.heap.objs.size) → IsPair g TO x y → ItAt k g i a (m + 1) → ItAt k' g j b (n + 1) → IsPair g s.heap.objs.size x y → g.objs.size = s.heap.objs.size + 1 → Rest s.heap g z TO i j → Q (some (.ref s.heap.objs.size)) { s with heap := g }) :
    wpAny (model prog w) A (pyNext (.ref z)) Q E s := by
  have hT : s.TypeIs (.ref z) "zip" := ⟨_, hz, rfl⟩
  unfold pyNext
  exact wpAny_bind (wpAny_attempt (wpAny_callSpecial?_slot (name := Str.ofString "__next__") hT F.slot_zip_next (wpAny_call_entry F.slot_zip_next hT F.entry_zip_next
    (zip_next D hz ti to p1 p2 q1 q2 hx hy fun g a1 a2 a3 a4 a5 a6 a7 => wpAny_pure (hQ g a1 a2 a3 a4 a5 a6 a7)) (F.args_zip_next_1 _))))
theorem pyNext_stop {k k' : Sk} {z TI TO i j a b : Addr} {m n : Nat} {xs ys : Array Value} {u v : Value} {Q : Option Value → Shared → Prop} (hh : A.handled = none) (D : ZipApart z TI TO i j a b) (hz : IsZip s.heap z TI TO .none)
    (ti : IsPair s.heap TI (.ref i) (.ref j)) (to : IsPair s.heap TO u v) (p1 : ItAt k s.heap i a m) (p2 : ItAt k' s.heap j b n) (q1 : SqAt k s.heap a xs) (q2 : SqAt k' s.heap b ys) (hend : xs[m]? = none ∨ ys[n]? = none)
    (hQ : ∀ g, Rest s.heap g z TO i j → Q none { s with heap := g }) : wpAny (model prog w) A (pyNext (.ref z)) Q E s := by
  have hT : s.TypeIs (.ref z) "zip" := ⟨_, hz, rfl⟩
  unfold pyNext
  refine wpAny_bind (wpAny_attempt (wpAny_callSpecial?_slot (name := Str.ofString "__next__") hT F.slot_zip_next (wpAny_call_entry F.slot_zip_next hT F.entry_zip_next
    (zip_stop hh D hz ti to p1 p2 q1 q2 hend fun g e hk he => ?_) (F.args_zip_next_1 _))))
  obtain ⟨o, h1, h2⟩ := he
  exact wpAny_bind (wpAny_isInstance (T := "StopIteration") (b := true) ⟨o, h1, h2⟩ isSubtype_stop (wpAny_pure (hQ _ hk)))
/-- zip(x, y) -/
def itObj (k : Sk) (a : Addr) : Obj := { cls := .type (itName k), data := .fields #[.ref a, .int 0 0] }
theorem pyIter_sq {k : Sk} {a : Addr} {xs : Array Value} {Q : Value → Shared → Prop} (h : SqAt k s.heap a xs) (q : Q (.ref s.heap.objs.size) { s with heap := s.heap.push (itObj k a) }) : wpAny (model prog w) A (pyIter (.ref a)) Q E s := by
  cases k
  · exact wpAny_pyIter_list h q
  · exact wpAny_pyIter_tuple h q
end
abbrev zA (h : Heap) (k k' : Sk) (a b : Addr) : Heap := (h.push (itObj k a)).push (itObj k' b)
abbrev zB (h : Heap) (k k' : Sk) (a b : Addr) : Heap := (zA h k k' a b).push { cls := .type "tuple", data := .seq #[.ref h.objs.size, .ref (h.push (itObj k a)).objs.size] }
abbrev zC (h : Heap) (k k' : Sk) (a b : Addr) : Heap := (zB h k k' a b).push { cls := .type "tuple", data := .seq #[.none, .none] }
abbrev zD (h : Heap) (k k' : Sk) (a b : Addr) : Heap := (zC h k k' a b).push { cls := .type "zip", data := .fields #[.none, .bool false, .bool false, .ref (zA h k k' a b).objs.size, .ref (zB h k k' a b).objs.size] }
theorem new_zip (k k' : Sk) (a b : Addr) (xs ys : Array Value) : Meets (Builtin.«zip.__new__» ⟨[.type "zip", .ref a, .ref b], []⟩) (fun _ R s => SqAt k s.heap a xs ∧ SqAt k' s.heap b ys ∧
    R (.ok (.ret (.ref (zC s.heap k k' a b).objs.size))) { s with heap := zD s.heap k k' a b }) :=
  .of_wp fun prog w A R s h => by
    obtain ⟨hp, g, d, tk, os⟩ := s; obtain ⟨u1, u2, h⟩ := h
    have hsub := sub_zip
    have L1 : SqAt k (Shared.heap ⟨hp, g, d, tk, os⟩) a xs := u1
    have L2 : SqAt k' (Shared.heap ⟨hp.push (itObj k a), g, d, tk, os⟩) b ys := u2.go fun o e => Heap.get?_push_of_some _ e
    cases k <;> cases k'
    · have M1 : Heap.IsList (Shared.heap ⟨hp, g, d, tk, os⟩) a xs := L1
      have M2 : Heap.IsList (Shared.heap ⟨hp.push { cls := .type "list_iterator", data := .fields #[.ref a, .int 0 0] }, g, d, tk, os⟩) b ys := L2
      wp_walk using wpAny_pyIter_list M1, wpAny_pyIter_list M2
      exact ⟨_, rfl, h⟩
    · have M1 : Heap.IsList (Shared.heap ⟨hp, g, d, tk, os⟩) a xs := L1
      have M2 : Heap.IsTuple (Shared.heap ⟨hp.push { cls := .type "list_iterator", data := .fields #[.ref a, .int 0 0] }, g, d, tk, os⟩) b ys := L2
      wp_walk using wpAny_pyIter_list M1, wpAny_pyIter_tuple M2
      exact ⟨_, rfl, h⟩
    · have M1 : Heap.IsTuple (Shared.heap ⟨hp, g, d, tk, os⟩) a xs := L1
      have M2 : Heap.IsList (Shared.heap ⟨hp.push { cls := .type "tuple_iterator", data := .fields #[.ref a, .int 0 0] }, g, d, tk, os⟩) b ys := L2
      wp_walk using wpAny_pyIter_tuple M1, wpAny_pyIter_list M2
      exact ⟨_, rfl, h⟩
    · have M1 : Heap.IsTuple (Shared.heap ⟨hp, g, d, tk, os⟩) a xs := L1
      have M2 : Heap.IsTuple (Shared.heap ⟨hp.push { cls := .type "tuple_iterator", data := .fields #[.ref a, .int 0 0] }, g, d, tk, os⟩) b ys := L2
      wp_walk using wpAny_pyIter_tuple M1, wpAny_pyIter_tuple M2
      exact ⟨_, rfl, h⟩
section
variable {prog : Program} {w : World} {A : Around} {E : Value → Shared → Prop} {s : Shared}
theorem call_zip {k k' : Sk} {a b : Addr} {xs ys : Array Value} {Q : Value → Shared → Prop} (q1 : SqAt k s.heap a xs) (q2 : SqAt k' s.heap b ys)
    (h : ∀ g, IsZip g (s.heap.objs.size + 4) (s.heap.objs.size + 2) (s.heap.objs.size + 3) .none → IsPair g (s.heap.objs.size + 2) (.ref s.heap.objs.size) (.ref (s.heap.objs.size + 1)) → IsPair g (s.heap.objs.size + 3) .none .none →
      ItAt k g s.heap.objs.size a 0 → ItAt k' g (s.heap.objs.size + 1) b 0 → (∀ c o, s.heap.get? c = some o → g.get? c = some o) → Q (.ref (s.heap.objs.size + 4)) { s with heap := g }) :
    wpAny (model prog w) A (call (.type "zip") [.ref a, .ref b]) Q E s := by
  refine callType_new F.called_zip (by decide) (F.typeCall_zip_2 _ _) (F.newCall_zip_2 _ _) (fun obj => F.args_object_init_3 obj _ _) F.entry_zip_new (new_zip k k' a b xs ys) ⟨q1, q2, ?_⟩
  have n0 : (s.heap.push (itObj k a)).objs.size = s.heap.objs.size + 1 := Heap.size_push ..
  have nA : (zA s.heap k k' a b).objs.size = s.heap.objs.size + 2 := by rw [Heap.size_push, n0]
  have nB : (zB s.heap k k' a b).objs.size = s.heap.objs.size + 3 := by rw [Heap.size_push, nA]
  have nC : (zC s.heap k k' a b).objs.size = s.heap.objs.size + 4 := by rw [Heap.size_push, nB]
  have r1 : ∀ (h : Heap) (o : Obj) c ob, h.get? c = some ob → (h.push o).get? c = some ob := fun h o c ob e => Heap.get?_push_of_some _ e
  have t5 : (zD s.heap k k' a b).get? (zC s.heap k k' a b).objs.size = some _ := Heap.get?_push_size _ rfl
  have t4 : (zD s.heap k k' a b).get? (zB s.heap k k' a b).objs.size = some _ := r1 _ _ _ _ (Heap.get?_push_size _ rfl)
  have t3 : (zD s.heap k k' a b).get? (zA s.heap k k' a b).objs.size = some _ := r1 _ _ _ _ (r1 _ _ _ _ (Heap.get?_push_size _ rfl))
  have t2 : (zD s.heap k k' a b).get? (s.heap.push (itObj k a)).objs.size = some (itObj k' b) := r1 _ _ _ _ (r1 _ _ _ _ (r1 _ _ _ _ (Heap.get?_push_size _ rfl)))
  have t1 : (zD s.heap k k' a b).get? s.heap.objs.size = some (itObj k a) := r1 _ _ _ _ (r1 _ _ _ _ (r1 _ _ _ _ (r1 _ _ _ _ (Heap.get?_push_size _ rfl))))
  show _ ∧ _
  rw [nA, nB, nC] at t5
  rw [n0, nA] at t3
  rw [nB] at t4
  rw [n0] at t2
  rw [nC]
  exact ⟨⟨_, t5, rfl⟩, h _ t5 t3 t4 (.of t1 rfl rfl) (.of t2 rfl rfl) fun c o x => r1 _ _ _ _ (r1 _ _ _ _ (r1 _ _ _ _ (r1 _ _ _ _ (r1 _ _ _ _ x))))⟩
end
/-! ### over the layer -/
def SqK (k : Sk) (K : Frag) (H : Hp) (a : Addr) (xs : List V) : Prop := match k with
  | .l => SqL K H a xs
  | .t => SqT K H a xs
theorem SqK.at {k : Sk} {X : Cx} {pins : List (Addr × Obj)} {σ : L2.St} {H : Hp} {s : Shared} {a : Addr} {xs : List V} (I : Inv X pins σ H s) (h : SqK k X.K H a xs) : ∃ its : List Value, Vals xs its ∧ SqAt k s.heap a its.toArray := by
  cases k
  · obtain ⟨its, rv, p, _⟩ := I.list h; exact ⟨its, rv, p.isList⟩
  · obtain ⟨its, rv, p, _⟩ := I.tuple h; exact ⟨its, rv, p⟩
theorem SqK.inj {k : Sk} {X : Cx} {pins : List (Addr × Obj)} {σ : L2.St} {H : Hp} {s : Shared} {a : Addr} {xs ys : List V} (I : Inv X pins σ H s) (h : SqK k X.K H a xs) (h' : SqK k X.K H a ys) : xs = ys := by
  cases k
  · exact I.list_inj h h'
  · exact I.tuple_inj h h'
def ItzU (K : Frag) (k k' : Sk) (a b : Addr) : It :=
  ⟨fun i H => ∃ (xs ys : List V) (x y : V), SqK k K H a xs ∧ SqK k' K H b ys ∧ xs[i]? = some x ∧ ys[i]? = some y,
    fun i H v H' => ∃ T x y, v = .ref T ∧ H T = none ∧ H' = upd H T (.tup [x, y]) ∧ (∀ xs, SqK k K H a xs → xs[i]? = some x) ∧ ∀ ys, SqK k' K H b ys → ys[i]? = some y,
    fun i H => ∃ xs ys : List V, SqK k K H a xs ∧ SqK k' K H b ys ∧ (xs.length ≤ i ∨ ys.length ≤ i)⟩
theorem turn_zipU {P : Program} {w : World} {K : Frag} {elts : List Expr} {kk : Nat} {tpos : Pos} {k k' : Sk} {a b z TI TO i j : Addr} (D : ZipApart z TI TO i j a b) :
    Turn P w K (.Tuple elts kk tpos) (ItzU K k k' a b) [z, TI, TO, i, j] z (fun n h => IsZip h z TI TO .none ∧ IsPair h TI (.ref i) (.ref j) ∧ (∃ x y, IsPair h TO x y) ∧ ItAt k h i a n ∧ ItAt k' h j b n) where
  mem := by simp
  obj := fun n h ⟨hz, ti, ⟨x, y, to⟩, p1, p2⟩ c hc => by
    obtain ⟨o1, e1, _, d1⟩ := p1.ob
    obtain ⟨o2, e2, _, d2⟩ := p2.ob
    have e' : c = z ∨ c = TI ∨ c = TO ∨ c = i ∨ c = j := by simpa using hc
    rcases e' with q | q | q | q | q <;> subst q
    · exact ⟨_, hz, fun v q => nomatch q⟩
    · exact ⟨_, ti, fun v q => nomatch q⟩
    · exact ⟨_, to, fun v q => nomatch q⟩
    · exact ⟨o1, e1, fun v q => by rw [d1] at q; cases q⟩
    · exact ⟨o2, e2, fun v q => by rw [d2] at q; cases q⟩
  keep := fun n h h' ⟨hz, ti, ⟨x, y, to⟩, p1, p2⟩ e => ⟨e z (by simp) _ hz, e TI (by simp) _ ti, ⟨x, y, e TO (by simp) _ to⟩, p1.go fun o q => e i (by simp) o q, p2.go fun o q => e j (by simp) o q⟩
  item := by
    intro X hP hw hK hc n pins s σ H E I hf st hg
    subst hP hw hK
    obtain ⟨hz, ti, ⟨x0, y0, to⟩, p1, p2⟩ := st
    obtain ⟨xs, ys, x, y, hqx, hqy, hx, hy⟩ := hg
    obtain ⟨its, rv, q1⟩ := hqx.at I
    obtain ⟨its2, rv2, q2⟩ := hqy.at I
    obtain ⟨u, hu, ru⟩ := rv.get hx
    obtain ⟨u2, hu2, ru2⟩ := rv2.get hy
    have zl : z < s.heap.objs.size := Heap.lt_size hz
    refine pyNext_zip D hz ti to p1 p2 q1 q2 (x := u) (y := u2) (by simpa using hu) (by simpa using hu2) fun g z' to' p1' p2' tt hs rk => ?_
    refine ⟨_, rfl, wpAny_letOwnedTupleGo_zip (s := { s with heap := g }) z' fun g2 z2 sb => ?_⟩
    have tt2 : g2.get? s.heap.objs.size = some { cls := .type "tuple", data := .seq #[u, u2] } := (sb.2 _ (Nat.ne_of_gt zl)).trans tt
    have new : ObjOk X.prog X.w (upd H s.heap.objs.size (.tup [x, y])) g2 s.heap.objs.size (.tup [x, y]) := ⟨(by decide : 2 ≤ sizeLine), [u, u2], .cons ru (.cons ru2 .nil), ⟨_, tt2, rfl, _, rfl⟩⟩
    have I1 : Inv X pins σ (upd H s.heap.objs.size (.tup [x, y])) { s with heap := g2 } := I.turnedNew (t' := s.toks) (ch := [z, TI, TO, i, j])
      (fun c o hb q => (sb.2 c (fun q' => hb (by simp [q']))).trans (rk c o (fun q' => hb (by simp [q'])) (fun q' => hb (by simp [q'])) (fun q' => hb (by simp [q'])) (fun q' => hb (by simp [q'])) q)) hf (Nat.le_refl _) new
    refine ⟨.ref s.heap.objs.size, _, I1, rfl, ⟨_, x, y, rfl, I.hok.fresh (Nat.le_refl _), rfl, fun l hl => by rw [hl.inj I hqx]; exact hx, fun l hl => by rw [hl.inj I hqy]; exact hy⟩, ⟨z2, ?_, ⟨u, u2, ?_⟩, ?_, ?_⟩, fun c hcm => ?_⟩
    · exact (sb.2 _ D.TIz).trans (rk _ _ D.TIz D.TITO D.TIi1 D.TIi2 ti)
    · exact (sb.2 _ D.TOz).trans to'
    · exact p1'.go fun o q => (sb.2 _ D.i1z).trans q
    · exact p2'.go fun o q => (sb.2 _ D.i2z).trans q
    · have lt : c < s.heap.objs.size := by
        obtain ⟨_, e1, _⟩ := p1.ob
        obtain ⟨_, e2, _⟩ := p2.ob
        have e' : c = z ∨ c = TI ∨ c = TO ∨ c = i ∨ c = j := by simpa using hcm
        rcases e' with q | q | q | q | q <;> subst q
        · exact zl
        · exact Heap.lt_size ti
        · exact Heap.lt_size to
        · exact Heap.lt_size e1
        · exact Heap.lt_size e2
      rw [upd_ne (Nat.ne_of_lt lt)]
      exact (hf c hcm).1
  done := by
    intro X hP hw hK hc n pins s σ H E I hf st hg
    subst hP hw hK
    obtain ⟨hz, ti, ⟨x0, y0, to⟩, p1, p2⟩ := st
    obtain ⟨xs, ys, hqx, hqy, hend⟩ := hg
    obtain ⟨its, rv, q1⟩ := hqx.at I
    obtain ⟨its2, rv2, q2⟩ := hqy.at I
    have l1 := rv.length
    have l2 := rv2.length
    have he : its.toArray[n]? = none ∨ its2.toArray[n]? = none := by
      rcases hend with q | q
      · exact .inl (by simp; omega)
      · exact .inr (by simp; omega)
    exact pyNext_stop (I.ok.hd hc) D hz ti to p1 p2 q1 q2 he fun g rk => ⟨rfl, I.turnedL (t' := s.toks) (ch := [z, TI, TO, i, j])
      (fun c o hb q => rk c o (fun q' => hb (by simp [q'])) (fun q' => hb (by simp [q'])) (fun q' => hb (by simp [q'])) (fun q' => hb (by simp [q'])) q) hf⟩
  self := fun A n s Q E st h => wpAny_pyIter_zip st.1 h
def iZipU (K : Frag) (ta : TA) : TI := fun σ H R => ta σ H fun vs H1 => ∃ a b xs ys k k', vs = [.ref a, .ref b] ∧ SqK k K H1 a xs ∧ SqK k' K H1 b ys ∧ R (ItzU K k k' a b) H1
theorem pi_zipU {X : Cx} {e e2 : Expr} {ta : TA} {p pos tpos : Pos} {elts : List Expr} {kk : Nat} (hg : Gl X "zip") (hm : X.mg "zip" = none) (ha : PA X [e, e2] ta) (hs : starEach [e, e2] X.env = (false, eval e X.env) :: starEach [e2] X.env := by rfl)
    (hpl : (backTo pos (starEach [e2] X.env)).any (·.1) = false := by rfl) : PI X (.Tuple elts kk tpos) (.Call (.Name "zip" p) [e, e2] [] pos) (iZipU X.K ta) := by
  refine ⟨fun pins s σ H R I h => ?_⟩
  refine Call_ (ld_blt I hg hm PyProof.Rows.boot_zip (PyProof.Rows.callWith_type1 (thn (ha.run pos pins s σ H _ I h) fun us s1 ⟨vs, H1, I1, r1, q1⟩ => ?_) hs hpl))
  obtain ⟨a, b, xs, ys, k, k', ex, hqx, hqy, q⟩ := q1
  subst ex
  cases r1 with
  | cons r rr =>
    cases rr with
    | cons r' rr =>
      cases rr
      cases r
      cases r'
      have fresh : ∀ c, c ∈ [s1.heap.objs.size + 4, s1.heap.objs.size + 2, s1.heap.objs.size + 3, s1.heap.objs.size, s1.heap.objs.size + 1] → FpOk X pins H1 c := fun c hcm => by
        have hle : s1.heap.objs.size ≤ c := by
          simp only [List.mem_cons, List.not_mem_nil, or_false] at hcm
          omega
        exact I1.fpOk hle (I1.hok.fresh hle)
      obtain ⟨its, rv, q1⟩ := hqx.at I1
      obtain ⟨its2, rv2, q2⟩ := hqy.at I1
      obtain ⟨o1, ho1⟩ := q1.ob
      obtain ⟨o2, ho2⟩ := q2.ob
      refine call_zip q1 q2 fun g hz ti to p1 p2 rk => wpAny_pyIter_zip hz ?_
      have I2 : Inv X pins σ H1 { s1 with heap := g } := I1.kept (t' := s1.toks) rk
      exact ⟨s1.heap.objs.size + 4, _, _, _, H1, rfl, I2, turn_zipU (PySem.W.ktu_apart s1.heap.objs.size a b (Heap.lt_size ho1) (Heap.lt_size ho2)), ⟨hz, ti, ⟨_, _, to⟩, p1, p2⟩, fresh, q⟩
end TZ

/-! # TL: enumerate over a list or a tuple -/
namespace TZ
open PySem PySem.Spec PyProof.Rows L2
open PySem.W (Frag)
open AutoSeq1 (wpAny_loadPart')
section
variable {prog : Program} {w : World} {A : Around} {E : Value → Shared → Prop} {s : Shared}
theorem enum_next {k : Sk} {e it a : Addr} {i : Nat} {xs : Array Value} {x old : Value} {Q : Value → Shared → Prop} (he : IsEnum s.heap e it i old) (p : ItAt k s.heap it a i) (q : SqAt k s.heap a xs) (hx : xs[i]? = some x) (hne : e ≠ it)
    (hQ : ∀ g, IsEnumOut g e it ((i : Int) + 1) x s.heap.objs.size → ItAt k g it a (i + 1) → g.get? s.heap.objs.size = some { cls := .type "tuple", data := .seq #[.int i s.toks, x] } → g.objs.size = s.heap.objs.size + 1 →
      (∀ b o, b ≠ e → b ≠ it → s.heap.get? b = some o → g.get? b = some o) → Q (.ref s.heap.objs.size) { s with heap := g, toks := s.toks + 1 }) :
    wpAny (model prog w) A (Builtin.«enumerate.__next__» ⟨[.ref e], []⟩) (fun fin s' => ∃ v, fin = .done (.ret v) ∧ Q v s') E s := by
  obtain ⟨hp, gg, d, tk, os⟩ := s
  show wpAny _ _ (field (.ref e) 2 >>= _) _ _ _; refine wpAny_bind (wpAny_field he rfl (x := .ref it) rfl ?_)
  refine wpAny_bind (nxt_item p q hx fun g1 p1 e1 => ?_)
  replace e1 : Heap.SameBut it hp g1 := e1
  have he1 : IsEnum g1 e it i old := (e1.2 e hne).trans he
  show wpAny _ _ (field (.ref e) 3 >>= _) _ _ ⟨g1, gg, d, tk, os⟩; refine wpAny_bind (wpAny_field he1 rfl (x := rawInt i) rfl ?_)
  show wpAny _ _ (field (.ref e) 4 >>= _) _ _ ⟨g1, gg, d, tk, os⟩; refine wpAny_bind (wpAny_field he1 rfl (x := .none) rfl ?_)
  show wpAny _ _ (mkInt i >>= _) _ _ ⟨g1, gg, d, tk, os⟩; refine wpAny_bind (wpAny_mkInt ?_)
  show wpAny _ _ (setField (.ref e) 3 (rawInt ((i : Int) + 1)) >>= _) _ _ ⟨g1, gg, d, tk + 1, os⟩; refine wpAny_bind (wpAny_setField_rec he1 (by simp) fun g2 he2 e2 => ?_)
  replace e2 : Heap.SameBut e g1 g2 := e2
  replace he2 : IsEnum g2 e it ((i : Int) + 1) old := he2
  show wpAny _ _ (setField (.ref e) 4 .none >>= _) _ _ ⟨g2, gg, d, tk + 1, os⟩; refine wpAny_bind (wpAny_setField_rec he2 (by simp) fun g3 he3 e3 => ?_)
  replace e3 : Heap.SameBut e g2 g3 := e3
  replace he3 : IsEnum g3 e it ((i : Int) + 1) old := he3
  show wpAny _ _ (newTuple [.int i tk, x] >>= _) _ _ ⟨g3, gg, d, tk + 1, os⟩; refine wpAny_bind (wpAny_newTuple ?_)
  have he4 : IsEnum (g3.push { cls := .type "tuple", data := .seq #[.int i tk, x] }) e it ((i : Int) + 1) old := Heap.get?_push_of_some _ he3
  generalize hg4 : g3.push { cls := .type "tuple", data := .seq #[.int i tk, x] } = g4 at he4
  have sz3 : g3.objs.size = hp.objs.size := by rw [e3.1, e2.1, e1.1]
  have el : e < hp.objs.size := Heap.lt_size he
  have t4 : g4.get? hp.objs.size = some { cls := .type "tuple", data := .seq #[.int i tk, x] } := by rw [← hg4, ← sz3]; exact Heap.get?_push_size _ rfl
  have z4 : g4.objs.size = hp.objs.size + 1 := by rw [← hg4, Heap.size_push, sz3]
  have k4 : ∀ b o, b ≠ e → b ≠ it → hp.get? b = some o → g4.get? b = some o := fun b o h1 h2 hb => by
    rw [← hg4]; exact Heap.get?_push_of_some _ (e3.extBut b o h1 (e2.extBut b o h1 (e1.extBut b o h2 hb)))
  have p4 : ItAt k g4 it a (i + 1) := by
    rw [← hg4]; exact p1.go fun o q => Heap.get?_push_of_some _ (e3.extBut it o hne.symm (e2.extBut it o hne.symm q))
  show wpAny _ _ (Builtin.SmallTypes.ownedTupleIsFree (.ref e) >>= _) _ _ ⟨g4, gg, d, tk + 1, os⟩
  rw [sz3]
  clear hg4 he3 e3 he2 e2 he1 e1 p1 sz3 g3 g2 g1
  refine wpAny_bind ?_; unfold Builtin.SmallTypes.ownedTupleIsFree
  refine wpAny_bind (wpAny_field he4 rfl (x := .none) rfl (wpAny_pure ?_)); simp only [if_true]
  refine wpAny_bind (wpAny_rule (wpAny_bind (wpAny_field he4 rfl (x := old) rfl (wpAny_bind (wpAny_setField_rec he4 (by simp) fun g5 he5 e5 => ?_)))))
  replace e5 : Heap.SameBut e g4 g5 := e5
  replace he5 : IsEnum g5 e it ((i : Int) + 1) x := he5
  show wpAny _ _ (Builtin.SmallTypes.ownedTupleHandOut (.ref e) (.ref hp.objs.size) >>= _) _ _ ⟨g5, gg, d, tk + 1, os⟩; refine wpAny_bind ?_; unfold Builtin.SmallTypes.ownedTupleHandOut
  refine wpAny_bind (wpAny_setField_rec he5 (by simp) fun g6 he6 e6 => ?_)
  replace e6 : Heap.SameBut e g5 g6 := e6
  replace he6 : IsEnumOut g6 e it ((i : Int) + 1) x hp.objs.size := he6
  refine wpAny_setField_rec he6 (by simp) fun g7 he7 e7 => ?_
  replace e7 : Heap.SameBut e g6 g7 := e7
  replace he7 : IsEnumOut g7 e it ((i : Int) + 1) x hp.objs.size := he7
  have up : ∀ b o, b ≠ e → g4.get? b = some o → g7.get? b = some o := fun b o h1 q => e7.extBut b o h1 (e6.extBut b o h1 (e5.extBut b o h1 q))
  exact wpAny_bind (wpAny_letGo (wpAny_pure ⟨_, rfl, hQ g7 he7 (p4.go fun o q => up it o hne.symm q) (up _ _ (Nat.ne_of_gt el) t4) (by rw [e7.1, e6.1, e5.1, z4]) fun b o h1 h2 hb => up b o h1 (k4 b o h1 h2 hb)⟩))
theorem pyNext_enum {k : Sk} {e it a : Addr} {i : Nat} {xs : Array Value} {x old : Value} {Q : Option Value → Shared → Prop} (he : IsEnum s.heap e it i old) (p : ItAt k s.heap it a i) (q : SqAt k s.heap a xs) (hx : xs[i]? = some x) (hne : e ≠ it)
    (hQ : ∀ g, IsEnumOut g e it ((i : Int) + 1) x s.heap.objs.size → ItAt k g it a (i + 1) → g.get? s.heap.objs.size = some { cls := .type "tuple", data := .seq #[.int i s.toks, x] } → g.objs.size = s.heap.objs.size + 1 →
      (∀ b o, b ≠ e → b ≠ it → s.heap.get? b = some o → g.get? b = some o) → Q (some (.ref s.heap.objs.size)) { s with heap := g, toks := s.toks + 1 }) : wpAny (model prog w) A (pyNext (.ref e)) Q E s := by
  have hT : s.TypeIs (.ref e) "enumerate" := ⟨_, he, rfl⟩
  unfold pyNext
  exact wpAny_bind (wpAny_attempt (wpAny_callSpecial?_slot (name := Str.ofString "__next__") hT F.slot_enumerate_next (wpAny_call_entry F.slot_enumerate_next hT F.entry_enumerate_next
    (enum_next he p q hx hne fun g a1 a2 a3 a4 a5 => wpAny_pure (hQ g a1 a2 a3 a4 a5)) (F.args_enumerate_next_1 _))))
theorem pyNext_enumStop {k : Sk} {e it a : Addr} {i : Nat} {xs : Array Value} {old : Value} {Q : Option Value → Shared → Prop} (hh : A.handled = none) (he : IsEnum s.heap e it i old) (p : ItAt k s.heap it a i) (q : SqAt k s.heap a xs) (hx : xs[i]? = none)
    (hQ : ∀ g, Heap.ExtBut it s.heap g → Q none { s with heap := g }) : wpAny (model prog w) A (pyNext (.ref e)) Q E s := by
  have hT : s.TypeIs (.ref e) "enumerate" := ⟨_, he, rfl⟩
  unfold pyNext
  refine wpAny_bind (wpAny_attempt (wpAny_callSpecial?_slot (name := Str.ofString "__next__") hT F.slot_enumerate_next (wpAny_call_entry F.slot_enumerate_next hT F.entry_enumerate_next ?_ (F.args_enumerate_next_1 _))))
  show wpAny _ _ (field (.ref e) 2 >>= _) _ _ _; refine wpAny_bind (wpAny_field he rfl (x := .ref it) rfl ?_)
  refine wpAny_bind (nxt_end hh p q hx fun g x hk hs => ?_)
  obtain ⟨o, h1, h2⟩ := hs
  exact wpAny_bind (wpAny_isInstance (T := "StopIteration") (b := true) ⟨o, h1, h2⟩ isSubtype_stop (wpAny_pure (hQ _ hk)))
end
theorem new_enumT (a : Addr) (xs : Array Value) (n : Nat) (dct : Option Addr) (sl : Array (Option Value)) :
    Meets (Builtin.«enumerate.__new__» ⟨[.type "enumerate", .ref a], []⟩) (fun _ R s => s.heap.get? a = some { cls := .type "tuple", dict := dct, data := .seq xs n, slots := sl } ∧
      R (.ok (.ret (.ref (s.heap.push (itObj .t a)).objs.size))) { s with heap := (s.heap.push (itObj .t a)).push { cls := .type "enumerate", data := .fields #[.none, .bool false, .ref s.heap.objs.size, rawInt 0, .none, .none] } }) :=
  .of_wp fun prog w A R s h => by
    obtain ⟨hp, g, d, tk, os⟩ := s; obtain ⟨hl, h⟩ := h
    have hsub := sub_enumerate
    have hL : Heap.IsTuple (Shared.heap ⟨hp, g, d, tk, os⟩) a xs := ⟨_, hl, rfl, n, rfl⟩
    wp_walk using wpAny_loadPart' hl
    refine wpAny_stack_any fun st => wpAny_pure ?_
    split
    · rename_i c _ _ _ _ _
      cases (c == Value.type "enumerate")
      · wp_walk using wpAny_loadPart' hl, wpAny_pyIter_tuple hL
        exact ⟨_, rfl, h⟩
      · wp_walk using wpAny_loadPart' hl, wpAny_pyIter_tuple hL
        exact ⟨_, rfl, h⟩
    · wp_walk using wpAny_loadPart' hl, wpAny_pyIter_tuple hL
      exact ⟨_, rfl, h⟩
section
variable {prog : Program} {w : World} {A : Around} {E : Value → Shared → Prop} {s : Shared}
theorem call_enumU {k : Sk} {a : Addr} {xs : Array Value} {Q : Value → Shared → Prop} (q : SqAt k s.heap a xs)
    (h : ∀ g, IsEnum g (s.heap.objs.size + 1) s.heap.objs.size 0 .none → ItAt k g s.heap.objs.size a 0 → (∀ b o, s.heap.get? b = some o → g.get? b = some o) → Q (.ref (s.heap.objs.size + 1)) { s with heap := g }) :
    wpAny (model prog w) A (call (.type "enumerate") [.ref a]) Q E s := by
  cases k
  · exact call_enumerate_list q fun g h1 h2 _ h3 => h g h1 h2 h3
  · obtain ⟨⟨c, dct, dt, sl⟩, hl, hc, n, hd⟩ := q
    replace hc : c = .type "tuple" := hc
    replace hd : dt = .seq xs n := hd
    subst hc hd
    refine callType_new F.called_enumerate (by decide) (F.typeCall_enumerate_1 _) (F.newCall_enumerate_1 _) (fun obj => F.args_object_init_2 obj _) F.entry_enumerate_new (new_enumT a xs n dct sl) ⟨hl, ?_⟩
    have hz : (s.heap.push (itObj .t a)).objs.size = s.heap.objs.size + 1 := Heap.size_push ..
    show _ ∧ _
    rw [hz]
    have he : IsEnum ((s.heap.push (itObj .t a)).push { cls := .type "enumerate", data := .fields #[.none, .bool false, .ref s.heap.objs.size, rawInt 0, .none, .none] }) (s.heap.objs.size + 1) s.heap.objs.size 0 .none := by
      have q := Heap.get?_push_size (s.heap.push (itObj .t a)) (o := { cls := .type "enumerate", data := .fields #[.none, .bool false, .ref s.heap.objs.size, rawInt 0, .none, .none] }) rfl
      rw [hz] at q; exact q
    exact ⟨⟨_, he, rfl⟩, h _ he (.of (Heap.get?_push_of_some _ (Heap.get?_push_size _ rfl)) rfl rfl) fun b o x => Heap.get?_push_of_some _ (Heap.get?_push_of_some _ x)⟩
end
def IteU (K : Frag) (k : Sk) (a : Addr) : It :=
  ⟨fun i H => ∃ (xs : List V) (x : V), SqK k K H a xs ∧ xs[i]? = some x, fun i H v H' => ∃ T x, v = .ref T ∧ H T = none ∧ H' = upd H T (.tup [.int (i : Nat), x]) ∧ ∀ xs, SqK k K H a xs → xs[i]? = some x, fun i H => ∃ xs : List V, SqK k K H a xs ∧ xs.length ≤ i⟩
theorem turn_enumU {P : Program} {w : World} {K : Frag} {elts : List Expr} {kk : Nat} {tpos : Pos} {k : Sk} (a e it : Addr) :
    Turn P w K (.Tuple elts kk tpos) (IteU K k a) [e, it] e (fun i h => (∃ old, IsEnum h e it ((i : Nat) : Int) old) ∧ ItAt k h it a i ∧ e ≠ it) where
  mem := by simp
  obj := fun i h ⟨⟨old, he⟩, p, _⟩ b hb => by
    obtain ⟨o, e1, _, d1⟩ := p.ob
    have e' : b = e ∨ b = it := by simpa using hb
    rcases e' with q | q <;> subst q
    · exact ⟨_, he, fun v q => nomatch q⟩
    · exact ⟨o, e1, fun v q => by rw [d1] at q; cases q⟩
  keep := fun i h h' ⟨⟨old, he⟩, p, ne⟩ q => ⟨⟨old, q e (by simp) _ he⟩, p.go fun o z => q it (by simp) o z, ne⟩
  item := by
    intro X hP hw hK hc i pins s σ H E I hf st hg
    subst hP hw hK
    obtain ⟨⟨old, he⟩, p, ne⟩ := st
    obtain ⟨xs, x, hq, hx⟩ := hg
    obtain ⟨its, rv, q1⟩ := hq.at I
    obtain ⟨u, hu, ru⟩ := rv.get hx
    have el : e < s.heap.objs.size := Heap.lt_size he
    obtain ⟨o1, e1, _⟩ := p.ob
    refine pyNext_enum he p q1 (x := u) (by simpa using hu) ne fun g ho p' hT hs rk => ?_
    refine ⟨_, rfl, wpAny_letOwnedTupleGo_enum (s := { s with heap := g, toks := s.toks + 1 }) ho fun g2 he' sb => ?_⟩
    have t2 : g2.get? s.heap.objs.size = some { cls := .type "tuple", data := .seq #[.int i s.toks, u] } := (sb.2 _ (Nat.ne_of_gt el)).trans hT
    have new : ObjOk X.prog X.w (upd H s.heap.objs.size (.tup [.int (i : Nat), x])) g2 s.heap.objs.size (.tup [.int (i : Nat), x]) := ⟨(by decide : 2 ≤ sizeLine), [.int i s.toks, u], .cons ⟨_, rfl⟩ (.cons ru .nil), ⟨_, t2, rfl, _, rfl⟩⟩
    have I1 : Inv X pins σ (upd H s.heap.objs.size (.tup [.int (i : Nat), x])) { s with heap := g2, toks := s.toks + 1 } := I.turnedNew (ch := [e, it])
      (fun b ob hb q => (sb.2 b (fun z => hb (by simp [z]))).trans (rk b ob (fun z => hb (by simp [z])) (fun z => hb (by simp [z])) q)) hf (Nat.le_refl _) new
    refine ⟨.ref s.heap.objs.size, _, I1, rfl, ⟨_, x, rfl, I.hok.fresh (Nat.le_refl _), rfl, fun ys hy => by rw [hy.inj I hq]; exact hx⟩, ⟨⟨u, ?_⟩, p'.go fun o q => (sb.2 it ne.symm).trans q, ne⟩, fun b hb => ?_⟩
    · have e1 : ((i + 1 : Nat) : Int) = (i : Int) + 1 := by omega
      rw [e1]; exact he'
    · have lt : b < s.heap.objs.size := by
        have e' : b = e ∨ b = it := by simpa using hb
        rcases e' with q | q <;> subst q
        · exact el
        · exact Heap.lt_size e1
      rw [upd_ne (Nat.ne_of_lt lt)]
      exact (hf b hb).1
  done := by
    intro X hP hw hK hc i pins s σ H E I hf st hg
    subst hP hw hK
    obtain ⟨⟨old, he⟩, p, ne⟩ := st
    obtain ⟨xs, hq, hx⟩ := hg
    obtain ⟨its, rv, q1⟩ := hq.at I
    obtain ⟨f0, f1, f2, f3, f4, f5⟩ := hf it (by simp)
    have l1 := rv.length
    exact pyNext_enumStop (I.ok.hd hc) he p q1 (by simp; omega) fun g rk => ⟨rfl, I.turned (t' := s.toks) (fun b o hb q => rk b o hb q) f0 f1 f3 f4 f5⟩
  self := fun A i s Q E st h => let ⟨⟨_, he⟩, _⟩ := st; wpAny_pyIter_enum he h
def iEnumU (K : Frag) (ta : TA) : TI := fun σ H R => ta σ H fun vs H1 => ∃ a xs k, vs = [.ref a] ∧ SqK k K H1 a xs ∧ R (IteU K k a) H1
theorem pi_enumU {X : Cx} {e : Expr} {ta : TA} {p pos tpos : Pos} {elts : List Expr} {kk : Nat} (hg : Gl X "enumerate") (hm : X.mg "enumerate" = none) (ha : PA X [e] ta) (hs : starEach [e] X.env = [(false, eval e X.env)] := by rfl) :
    PI X (.Tuple elts kk tpos) (.Call (.Name "enumerate" p) [e] [] pos) (iEnumU X.K ta) := by
  refine ⟨fun pins s σ H R I h => ?_⟩
  refine Call_ (ld_blt I hg hm boot_enumerate (PyProof.Rows.callWith_type1 (thn (ha.run pos pins s σ H _ I h) fun us s1 ⟨vs, H1, I1, r1, q1⟩ => ?_) hs rfl))
  obtain ⟨a, xs, k, ex, hq, q⟩ := q1
  subst ex
  cases r1 with
  | cons r rr =>
    cases rr
    cases r
    obtain ⟨its, rv, q1⟩ := hq.at I1
    refine call_enumU q1 fun g he p rk => wpAny_pyIter_enum he ?_
    have I2 : Inv X pins σ H1 { s1 with heap := g } := I1.kept (t' := s1.toks) rk
    refine ⟨s1.heap.objs.size + 1, [s1.heap.objs.size + 1, s1.heap.objs.size], _, _, H1, rfl, I2, turn_enumU a (s1.heap.objs.size + 1) s1.heap.objs.size, ⟨⟨.none, he⟩, p, Nat.succ_ne_self _⟩, fun b hb => ?_, q⟩
    have hle : s1.heap.objs.size ≤ b := by
      have e' : b = s1.heap.objs.size + 1 ∨ b = s1.heap.objs.size := by simpa using hb
      rcases e' with z | z <;> rw [z] <;> simp
    exact I1.fpOk hle (I1.hok.fresh hle)
end TZ
namespace TL
open PySem L2
open PySem.W (Frag)
section
variable {K : Frag} {w : Wd} {n : Option Nat} {Γ : Env} {α β : Type} {t : Ty α} {u : Ty β} {ta tb : TE}
/-- a sequence of the kind k -/
def tQ (k : TZ.Sk) (t : Ty α) : Ty (List α) := match k with
  | .l => tL t
  | .t => tU t
theorem tQ_at {k : TZ.Sk} {B H : Hp} {v : V} {xs : List α} (h : (tQ k t).rep B v xs) (e : Ex B H) : ∃ a vs, v = .ref a ∧ TZ.SqK k K H a vs ∧ Paired (t.rep B) vs xs := by
  cases k
  · obtain ⟨a, vs, h1, h2, h3⟩ := h; exact ⟨a, vs, h1, SqL.of (e _ _ h2), h3⟩
  · obtain ⟨a, vs, h1, h2, h3⟩ := h; exact ⟨a, vs, h1, SqT.of (e _ _ h2), h3⟩
theorem SqKmono {k : TZ.Sk} {B H : Hp} {a : Addr} {vs : List V} (e : Ex B H) (h : TZ.SqK k K B a vs) : TZ.SqK k K H a vs := by
  cases k
  · exact e.l h
  · exact e.t h
theorem iter_zip {k k' : TZ.Sk} {B : Hp} {a b : Addr} {vs us : List V} {xs : List α} {ys : List β} (h1 : TZ.SqK k K B a vs) (h2 : TZ.SqK k' K B b us) (p : Paired (t.rep B) vs xs) (q : Paired (u.rep B) us ys) : Iter (tP t u) (xs.zip ys) (TZ.ItzU K k k' a b) B := by
  have l1 := pw_len p
  have l2 := pw_len q
  refine ⟨fun H1 e => ⟨vs, us, SqKmono e h1, SqKmono e h2, ?_⟩, fun i H1 e hi => ?_, fun i x H1 B1 v H' hx e1 e2 hy => ?_⟩
  · rw [List.length_zip]; omega
  · rw [List.length_zip] at hi
    exact ⟨vs, us, vs[i]'(by omega), us[i]'(by omega), SqKmono e h1, SqKmono e h2, by simp, by simp⟩
  · obtain ⟨T, x1, y1, rfl, hT, rfl, r1, r2⟩ := hy
    have g1 := r1 vs (SqKmono (e1.trans e2) h1)
    have g2 := r2 us (SqKmono (e1.trans e2) h2)
    have hx' : xs[i]? = some x.1 ∧ ys[i]? = some x.2 := by
      rw [List.getElem?_zip_eq_some] at hx; exact hx
    obtain ⟨v1, k1, f1⟩ := pw_getR p hx'.1
    obtain ⟨v2, k2, f2⟩ := pw_getR q hx'.2
    rw [g1] at k1; cases k1
    rw [g2] at k2; cases k2
    have gr := Grow.new (o := .tup [x1, y1]) e2 hT
    exact ⟨_, gr, T, x1, y1, rfl, upd_same, t.mono (e1.trans gr.b) f1, u.mono (e1.trans gr.b) f2⟩
theorem wi_zip {k k' : TZ.Sk} {kk : List (α × β) → NK} (h : WpE K w n Γ ta (tQ k t) (fun xs n Γ => WpE K w n Γ tb (tQ k' u) (fun ys n Γ => kk (xs.zip ys) n Γ))) : WpI K w n Γ (TZ.iZipU K (tCons ta (tCons tb tNil))) (tP t u) kk := fun σ B H ok R c =>
  h σ B H ok _ fun xs v n1 Γ1 B1 H1 q1 e1 o1 r1 => q1 σ B1 H1 o1 _ fun ys v2 n2 Γ2 B2 H2 q e2 o2 r2 => by
    obtain ⟨a, vs, rfl, s1, p⟩ := tQ_at (K := K) ((tQ k t).mono e2 r1) (Ex.refl B2)
    obtain ⟨b, us, rfl, s2, p'⟩ := tQ_at (K := K) r2 (Ex.refl B2)
    exact ⟨a, b, vs, us, k, k', rfl, SqKmono o2.ex s1, SqKmono o2.ex s2, c _ _ n2 Γ2 B2 H2 q (e1.trans e2) o2 (iter_zip s1 s2 p p')⟩
def enumL (xs : List α) : List (Int × α) := (List.range xs.length).map (fun (i : Nat) => (i : Int)) |>.zip xs
theorem enumL_get {xs : List α} {i : Nat} {x : Int × α} (h : (enumL xs)[i]? = some x) : x.1 = i ∧ xs[i]? = some x.2 := by
  unfold enumL at h
  rw [List.getElem?_zip_eq_some] at h
  obtain ⟨h1, h2⟩ := h
  rw [List.getElem?_map] at h1
  cases z : (List.range xs.length)[i]? with
  | none => rw [z] at h1; cases h1
  | some c =>
    rw [z] at h1
    obtain ⟨q1, q2⟩ := List.getElem?_eq_some_iff.mp z
    have hc : c = i := by rw [← q2]; simp
    have e := Option.some.inj h1
    exact ⟨by rw [← e, hc], h2⟩
theorem enumL_length {xs : List α} : (enumL xs).length = xs.length := by unfold enumL; simp
theorem iter_enum {k : TZ.Sk} {B : Hp} {a : Addr} {vs : List V} {xs : List α} (h1 : TZ.SqK k K B a vs) (p : Paired (t.rep B) vs xs) : Iter (tP tI t) (enumL xs) (TZ.IteU K k a) B := by
  have l1 := pw_len p
  refine ⟨fun H1 e => ⟨vs, SqKmono e h1, by rw [enumL_length]; omega⟩, fun i H1 e hi => ?_, fun i x H1 B1 v H' hx e1 e2 hy => ?_⟩
  · rw [enumL_length] at hi
    exact ⟨vs, vs[i]'(by omega), SqKmono e h1, by simp⟩
  · obtain ⟨T, x1, rfl, hT, rfl, r1⟩ := hy
    have g1 := r1 vs (SqKmono (e1.trans e2) h1)
    obtain ⟨hi, hx'⟩ := enumL_get hx
    obtain ⟨v1, k1, f1⟩ := pw_getR p hx'
    rw [g1] at k1; cases k1
    have gr := Grow.new (o := .tup [.int (i : Nat), x1]) e2 hT
    exact ⟨_, gr, T, .int (i : Nat), x1, rfl, upd_same, by show V.int _ = V.int _; rw [hi], t.mono (e1.trans gr.b) f1⟩
theorem wi_enum {k : TZ.Sk} {kk : List (Int × α) → NK} (h : WpE K w n Γ ta (tQ k t) (fun xs n Γ => kk (enumL xs) n Γ)) : WpI K w n Γ (TZ.iEnumU K (tCons ta tNil)) (tP tI t) kk := fun σ B H ok R c =>
  h σ B H ok _ fun xs v n1 Γ1 B1 H1 q e o r => by
    obtain ⟨a, vs, rfl, s1, p⟩ := tQ_at (K := K) r (Ex.refl B1)
    exact ⟨a, vs, k, rfl, SqKmono o.ex s1, c _ _ n1 Γ1 B1 H1 q e o (iter_enum s1 p)⟩
/-! sequences whose kind is open -/
theorem we_ixVQ {q : TZ.Sk} {i : Nat} {xs : List α} {k : α → NK} (h : Γ[i]? = some (.im (tQ q t) xs)) (z : WpE K w n Γ tb tI (fun j n Γ => ∃ x, atI xs j = some x ∧ k x n Γ)) : WpE K w n Γ (tOp (rIx K) (tVar i) tb) t k :=
  we_ixS (s := tQ q t) (fun {B v xs} r => by
    obtain ⟨a, vs, h1, h2, h3⟩ := tQ_at (K := K) r (Ex.refl B)
    refine ⟨a, vs, h1, ?_, h3⟩
    cases q
    · exact .inl h2
    · exact .inr h2) (we_var h z)
theorem we_lenVQ {q : TZ.Sk} {i : Nat} {xs : List α} {k : Int → NK} (h : Γ[i]? = some (.im (tQ q t) xs)) (z : k (xs.length : Int) n Γ) : WpE K w n Γ (tCB (rLenU K) (tCons (tVar i) tNil)) tI k :=
  we_len (s := tQ q t) (fun {B v x H} r e => by
    obtain ⟨a, vs, rfl, h2, h3⟩ := tQ_at (K := K) r e
    cases q
    · exact .inl ⟨vs, h2, (pw_len h3).symm⟩
    · exact .inr ⟨vs, h2, (pw_len h3).symm⟩) (we_var h z)
theorem wi_seqQ {q : TZ.Sk} {k : List α → NK} (h : WpE K w n Γ ta (tQ q t) k) : WpI K w n Γ (iSeq K ta) t k := by
  cases q
  · exact wi_list h
  · exact wi_tup h
theorem wm_listQ {q : TZ.Sk} {k : Rs → NK} (h : WpE K w n Γ ta (tQ q t) (fun xs n Γ => k (rL t xs) n Γ)) : WpM K w n Γ (tCB (rListU K) (tCons ta tNil)) k := by
  cases q
  · exact wm_listL h
  · exact wm_listU h
/-! ghosts: what the caller knows and the callee may lean on -/
def aGh {A γ : Type} (T : TyA A) : TyA (A × γ) := ⟨fun d B vs a => T.rep d B vs a.1, fun e h => T.mono e h⟩
instance {A γ : Type} {T : TyA A} [E : Ents T] : Ents (aGh (γ := γ) T) := ⟨E.len, fun a => E.ents a.1, fun h => E.ok h⟩
theorem wa_gh {A γ : Type} {T : TyA A} {ta : TA} {k : A × γ → NK} (g : γ) (h : WpA K w n Γ ta T (fun a n Γ => k (a, g) n Γ)) : WpA K w n Γ ta (aGh T) k := fun σ B H ok Q c => h σ B H ok Q fun a vs n' Γ' B' H' q => c (a, g) vs n' Γ' B' H' q
/-- one of several promises -/
def SpEx {ι : Type} (f : ι → Sp) : Sp := fun vs H Q E => ∃ i, f i vs H Q E
theorem fn_ex {ι : Type} {f : ι → Sp} {P : Program} {ww : World} {mg : Str → Option Value} {base : Heap} {CX : CXT} {kk : Nat} {a : Addr} {fd : FuncData} {ps : List Str} (h : ∀ i, FnOk P ww K mg base CX kk a fd ps (f i)) : FnOk P ww K mg base CX kk a fd ps (SpEx f) :=
  ⟨fun vs H Q E ⟨i, q⟩ => (h i).len vs H Q E q, fun A outer s H args us vs Q E hr he hb hv ⟨i, q⟩ => (h i).run A outer s H args us vs Q E hr he hb hv q⟩
theorem we_callX {ι : Type} {S : ι → FS K} (i : ι) {E : XK} {ta : TA} {t : Ty (S i).ρ} {k : (S i).ρ → NK} (hres : (S i).res = fun x => .im t x) (hc : (S i).cost = 0) (h : WpA K w n Γ ta (S i).args (fun a n Γ => (S i).pre a ∧ ∀ x, (S i).post a x → k x n Γ)) :
    WpE K w n Γ (tCall (SpEx fun i => (S i).sp) [] E ta) t k := fun σ B H ok Q c =>
  h σ B H ok _ fun a vs n1 Γ1 B1 H1 ⟨hp, q⟩ e o r => by
    rw [List.append_nil]
    refine ⟨i, w.d, w.ca, w.cs, n1, B1, a, o.entry, r, hp, .inl hc, fun x v n' B' H' hx hcc e' o' s => ?_⟩
    rw [hres] at s
    obtain ⟨v', h1, h2⟩ := s
    cases h1
    rcases hcc with ⟨_, rfl⟩ | ⟨m, rfl, rfl⟩
    · exact c x v _ Γ1 B' H' (q x hx) (e.trans e') (o.back o') h2
    · rw [hc] at o'; exact c x v _ Γ1 B' H' (q x hx) (e.trans e') (o.back o') h2
theorem wm_callX {ι : Type} {S : ι → FS K} (i : ι) {E : XK} {ta : TA} {rs : (S i).ρ → Rs} {k : Rs → NK} (hres : (S i).res = fun x => .mu (rs x)) (hc : (S i).cost = 0) (h : WpA K w n Γ ta (S i).args (fun a n Γ => (S i).pre a ∧ ∀ x, (S i).post a x → k (rs x) n Γ)) :
    WpM K w n Γ (tCall (SpEx fun i => (S i).sp) [] E ta) k := fun σ B H ok Q c =>
  h σ B H ok _ fun a vs n1 Γ1 B1 H1 ⟨hp, q⟩ e o r => by
    rw [List.append_nil]
    refine ⟨i, w.d, w.ca, w.cs, n1, B1, a, o.entry, r, hp, .inl hc, fun x v n' B' H' hx hcc e' o' s => ?_⟩
    rw [hres] at s
    obtain ⟨l, ob, h1, h2, h3, h4, h5⟩ := s
    cases h1
    have ow : Own w Γ1 σ B' H' (rs x) l := by
      refine ⟨⟨ob, h2, h5⟩, h3, ?_, fun i e' hi z => ?_⟩
      · cases q : w.H0 l with
        | none => rfl
        | some u =>
          have h4' : H1 l = none := h4
          have ne : l ≠ w.d := fun z => noS h4' (z ▸ o.hh)
          rw [o.kp l u q ne] at h4'; cases h4'
      · obtain ⟨o', k2, _⟩ := (o.sl i _ hi).owned z
        have h4' : H1 l = none := h4
        rw [h4'] at k2; cases k2
    rcases hcc with ⟨_, rfl⟩ | ⟨m, rfl, rfl⟩
    · exact c (rs x) l _ Γ1 B' H' (q x hx) (e.trans e') (o.back o') ow
    · rw [hc] at o'; exact c (rs x) l _ Γ1 B' H' (q x hx) (e.trans e') (o.back o') ow
end
end TL

/-! # TL: rules of derivations with the written part named (so that a comprehension's block reads as its def does) -/
namespace TL
open PySem L2
open PySem.W (Frag)
section
variable {X : Cx} (K : Frag) (hK : X.K = K)
include hK
theorem op_eqK (hu : X.A.units + 64 < cLine) : OpR X (compareOp .Eq) (rEqU K) := hK ▸ op_eqU hu
theorem op_neK (hu : X.A.units + 64 < cLine) : OpR X (compareOp .NotEq) (rNeU K) := hK ▸ op_neU hu
theorem ix_seqK : IxR X (rIx K) := hK ▸ ix_seq
theorem sl_listK : SlR X (rSlL K) := hK ▸ sl_list
theorem call_lenK : CallR X (.builtin "len") (rLenU K) := hK ▸ call_lenU
theorem call_listK : CallR X (.type "list") (rListU K) := hK ▸ call_listU
theorem call_tupleK : CallR X (.type "tuple") (rTupleU K) := hK ▸ call_tupleU
theorem call_isiK' : CallR X (.builtin "isinstance") (rIsi K) := hK ▸ call_isi
theorem cr_sumK (hc : X.calm = true) : CallR X (.builtin "sum") (rSum K) := hK ▸ cr_sum hc
/-- a value's truth -/
def tTru (K : Frag) (ta : TE) : TT := fun σ H Q => ta σ H fun x H' => ∃ k, TruV K x H' k ∧ Q k H'
theorem pt_truthK {a : Expr} {ta : TE} (ha : PE X a ta) (he : ∀ whole, isTrue a X.env whole = (do let v ← whole; standAt a.pos; holding [v] (truthy v))) : PT X a (tTru K ta) := by
  subst hK; exact pt_truth ha he
theorem pi_seqK {tg l : Expr} {tl : TE} (h : PE X l tl) : PI X tg l (iSeq K tl) := by
  subst hK; exact piOr (pi_list h) (pi_tup h)
theorem pi_zipK {e e2 : Expr} {ta : TA} {p pos tpos : Pos} {elts : List Expr} {kk : Nat} (hg : Gl X "zip") (hm : X.mg "zip" = none) (ha : PA X [e, e2] ta) (hs : starEach [e, e2] X.env = (false, eval e X.env) :: starEach [e2] X.env := by rfl)
    (hpl : (backTo pos (starEach [e2] X.env)).any (·.1) = false := by rfl) : PI X (.Tuple elts kk tpos) (.Call (.Name "zip" p) [e, e2] [] pos) (TZ.iZipU K ta) := by
  subst hK; exact TZ.pi_zipU hg hm ha hs hpl
theorem pi_enumK {e : Expr} {ta : TA} {p pos tpos : Pos} {elts : List Expr} {kk : Nat} (hg : Gl X "enumerate") (hm : X.mg "enumerate" = none) (ha : PA X [e] ta) (hs : starEach [e] X.env = [(false, eval e X.env)] := by rfl) :
    PI X (.Tuple elts kk tpos) (.Call (.Name "enumerate" p) [e] [] pos) (TZ.iEnumU K ta) := by
  subst hK; exact TZ.pi_enumU hg hm ha hs
theorem pg_tupK {es : List Expr} {k : Nat} {t : TGs} {n : Nat} {pos : Pos} (hc : X.calm = true) (h : PGs X es t) (hn : (assignEach es X.env).length = n := by rfl) (hst : (assignEach es X.env).findIdx? (·.1) = none := by rfl) : PG X (.Tuple es k pos) (gTup K n t) := by
  subst hK; exact pg_tup hc h hn hst
end
section
variable {K : Frag} {w : Wd} {n : Option Nat} {Γ : Env} {α : Type} {t : Ty α} {ta : TE} {kt kf : NK}
theorem wt_truB (h : WpE K w n Γ ta tBo (fun b n Γ => (b = true → kt n Γ) ∧ (b = false → kf n Γ))) : WpT K w n Γ (tTru K ta) kt kf := fun σ B H ok Q ct cf =>
  h σ B H ok _ fun b v n1 Γ1 B1 H1 ⟨h1, h2⟩ e o r => by
    cases r
    refine ⟨b, rfl, ?_⟩
    cases b with
    | true => exact ct n1 Γ1 B1 H1 (h1 rfl) e o
    | false => exact cf n1 Γ1 B1 H1 (h2 rfl) e o
theorem wt_truLs (h : WpE K w n Γ ta (tL t) (fun xs n Γ => (xs ≠ [] → kt n Γ) ∧ (xs = [] → kf n Γ))) : WpT K w n Γ (tTru K ta) kt kf := wt_truL (xs := []) (t := t) h
/-- isinstance, the kinds known -/
theorem we_isiI_int {k : Bool → NK} (h : WpE K w n Γ ta tI (fun _ n Γ => k true n Γ)) : WpE K w n Γ (tCB (rIsi K) (tCons ta (tCons (tC (.ty "int")) tNil))) tBo k := we_isi (t := tI) (tn := "int") tyI rfl h
theorem we_isiI_bool {k : Bool → NK} (h : WpE K w n Γ ta tI (fun _ n Γ => k false n Γ)) : WpE K w n Γ (tCB (rIsi K) (tCons ta (tCons (tC (.ty "bool")) tNil))) tBo k := we_isi (t := tI) (tn := "int") tyI rfl h
theorem we_isiL_list {k : Bool → NK} (h : WpE K w n Γ ta (tL t) (fun _ n Γ => k true n Γ)) : WpE K w n Γ (tCB (rIsi K) (tCons ta (tCons (tC (.ty "list")) tNil))) tBo k := we_isi (t := tL t) (tn := "list") tyL rfl h
theorem true2 {A B : Prop} (h : A) : (true = true → A) ∧ (true = false → B) := ⟨fun _ => h, (fun q => nomatch q)⟩
theorem false2 {A B : Prop} (h : B) : (false = true → A) ∧ (false = false → B) := ⟨(fun q => nomatch q), fun _ => h⟩
end
end TL

/-! # TL: own lists lent out; comprehensions in short -/
namespace TL
open PySem L2
open PySem.W (Frag)
section
variable {K : Frag} {w : Wd} {n : Option Nat} {Γ : Env} {α β γ δ ρ A : Type} {t : Ty α} {u : Ty β} {ta tb te : TE} {ts ts' : TS} {res : ρ → Ent} {nx bk ct : NK} {rt : ρ → Option Nat → Prop}
theorem Ok.lend {σ : L2.St} {B H : Hp} {i : Nat} {xs : List α} (ok : Ok K w n Γ σ B H) (h : Γ[i]? = some (.ml t xs)) : ∃ B1, Ex B B1 ∧ Ok K ⟨w.d, w.ca, w.cs, B1, H⟩ n (hideE (Γ.set i (.im (tL t) xs)) []) σ B1 H := by
  obtain ⟨B1, e1, o1⟩ := ok.freezeL h
  exact ⟨B1, e1, o1.inner []⟩
theorem Ok.unlend {σ : L2.St} {B H B1 B' H' : Hp} (ok : Ok K w n Γ σ B H) (e : Ex B B1) (c : Ok K ⟨w.d, w.ca, w.cs, B1, H⟩ n [] [] B' H') : Ok K w n Γ σ B H' := by
  have eb : Ex B B' := e.trans c.ex0
  refine ⟨eb.trans c.ex, ok.ex0, ok.nw, fun a o q ne => c.kp a o (ok.kp a o q ne) ne, ok.hd, c.hh, fun m q => ?_, ok.ln, fun i en q => ?_, ok.ds⟩
  · obtain ⟨fr, a, l, h1, h2, h3, h4, h5, h6⟩ := c.pn m q
    obtain ⟨fr', a', l', k1, k2, _⟩ := ok.pn m q
    exact ⟨fr', a, l, h1, k2, h3, h4, h5, h6⟩
  · have s := ok.sl i en q
    refine s.keep (Ex.refl _) rfl fun a ha => ?_
    obtain ⟨o, h2, h3, h4⟩ := s.owned ha
    have ne : a ≠ w.d := fun z => noS h4 (z ▸ ok.hd)
    exact ⟨by rw [h2]; exact c.kp a o h2 ne, h3, h4⟩
/-- a test that reads one's own list, which stays one's own -/
theorem wt_borrow {tt : TT} {kt kf : NK} (i : Nat) {xs : List α} (hi : Γ[i]? = some (.ml t xs))
    (h : ∀ w' : Wd, SetE (hideE (Γ.set i (.im (tL t) xs)) []) fun Γ' => WpT K w' n Γ' tt (fun n' _ => n' = n ∧ kt n Γ) (fun n' _ => n' = n ∧ kf n Γ)) : WpT K w n Γ tt kt kf := fun σ B H ok Q ct cf => by
  obtain ⟨B1, e1, o1⟩ := ok.lend hi
  exact h _ σ B1 H o1 Q (fun n' Γ' B' H' ⟨hn, q⟩ e o => by subst hn; exact ct _ Γ B H' q (Ex.refl _) (ok.unlend e1 o.nil)) (fun n' Γ' B' H' ⟨hn, q⟩ e o => by subst hn; exact cf _ Γ B H' q (Ex.refl _) (ok.unlend e1 o.nil))
/-- nothing of the store -/
def Flat (t : Ty α) : Prop := ∀ B B' v x, t.rep B v x → t.rep B' v x
theorem flatI : Flat tI := fun _ _ _ _ h => h
theorem flatB : Flat tBo := fun _ _ _ _ h => h
theorem flatS : Flat tS := fun _ _ _ _ h => h
theorem flatN : Flat tN := fun _ _ _ _ h => h
theorem we_borrow {k : β → NK} (i : Nat) (hf : Flat u) {xs : List α} (hi : Γ[i]? = some (.ml t xs)) (h : ∀ w' : Wd, SetE (hideE (Γ.set i (.im (tL t) xs)) []) fun Γ' => WpE K w' n Γ' te u (fun x n' _ => n' = n ∧ k x n Γ)) : WpE K w n Γ te u k := fun σ B H ok Q c => by
  obtain ⟨B1, e1, o1⟩ := ok.lend hi
  exact h _ σ B1 H o1 Q fun x v n' Γ' B' H' ⟨hn, q⟩ e o r => by subst hn; exact c x v _ Γ B H' q (Ex.refl _) (ok.unlend e1 o.nil) (hf _ _ _ _ r)

/-! ### comprehensions in short -/
structure Map3 (a b c : Prop) : Prop where
  h0 : a
  hs : b
  he : c
theorem wg_mono {g : TG} {x : α} {k k' : NK} (h : WpG K w n Γ g t x k) (m : ∀ n Γ, k n Γ → k' n Γ) : WpG K w n Γ g t x k' := fun σ B H ok v r Q c =>
  h σ B H ok v r Q fun n' Γ' σ' B' H' q => c n' Γ' σ' B' H' (m _ _ q)
theorem wi_mono {wi : TI} {k k' : List α → NK} (h : WpI K w n Γ wi t k) (m : ∀ xs n Γ, k xs n Γ → k' xs n Γ) : WpI K w n Γ wi t k' := fun σ B H ok R c =>
  h σ B H ok R fun xs J n' Γ' B' H' q => c xs J n' Γ' B' H' (m _ _ _ q)
theorem wm_mono {k k' : Rs → NK} (h : WpM K w n Γ te k) (m : ∀ r n Γ, k r n Γ → k' r n Γ) : WpM K w n Γ te k' := fun σ B H ok R c =>
  h σ B H ok R fun xs J n' Γ' B' H' q => c xs J n' Γ' B' H' (m _ _ _ q)
/-- each item's image -/
theorem wm_map {wi : TI} {g : TG} {vs : List Nat} {kk : Rs → NK} (u : Ty β) (f : α → β) (hg : GSl g vs)
    (h : WpI K w n Γ wi t (fun xs n1 Γ => n1 = n ∧ Map3 (xs.length ≤ 100000) (∀ (w' : Wd) (i : Nat) x, xs[i]? = some x → SetE (hideE Γ vs) fun Γh => WpG K w' n Γh g t x (fun n1 Γ => WpE K w' n1 Γ te u (fun y n2 _ => y = f x ∧ n2 = n))) (kk (rL u (xs.map f)) n Γ))) :
    WpM K w n Γ (tLc wi g tYes te vs) kk := by
  refine wm_lc u (fun xs i ys n' => ys = (xs.take i).map f ∧ n' = n) hg (wi_mono h ?_)
  rintro xs n1 Γ1 ⟨rfl, hl, hs, he⟩
  refine ⟨⟨by simp, rfl⟩, ?_, ?_⟩
  · rintro w' i x ys n2 _ _ _ hx ⟨rfl, rfl⟩
    refine wg_mono (hs w' i x hx) fun n3 Γ3 q => wt_yes (we_mono q ?_)
    rintro y n4 Γ4 ⟨rfl, rfl⟩
    have hi := get_lt hx
    refine ⟨by simp; omega, ?_, rfl⟩
    rw [List.take_add_one, hx]; simp
  · rintro ys n2 ⟨rfl, rfl⟩
    rw [List.take_length]; exact he
theorem pw_unmap {F : α → β → Prop} : ∀ {xs : List α} {ys : List β}, Paired F xs ys → ∀ (i : Nat) x y, xs[i]? = some x → ys[i]? = some y → F x y := fun p i x y hx hy => by
  obtain ⟨b, h1, h2⟩ := pw_getL p hx
  rw [hy] at h1; cases h1; exact h2
/-- each item's image is drawn: c draws each -/
theorem wm_mapN {wi : TI} {g : TG} {vs : List Nat} {kk : Rs → NK} (u : Ty β) (P : α → β → Prop) (c m : Nat) (hn : n = some m) (hg : GSl g vs)
    (h : WpI K w n Γ wi t (fun xs n1 Γ => n1 = n ∧ Map3 (xs.length ≤ 100000) (∀ (w' : Wd) (i : Nat) x, xs[i]? = some x → SetE (hideE Γ vs) fun Γh => WpG K w' (some (m + c * i)) Γh g t x (fun n1 Γ => WpE K w' n1 Γ te u (fun y n2 _ => P x y ∧ n2 = some (m + c * i + c))))
      (∀ ys, Paired P xs ys → kk (rL u ys) (some (m + c * xs.length)) Γ))) :
    WpM K w n Γ (tLc wi g tYes te vs) kk := by
  subst hn
  refine wm_lc u (fun xs i ys n' => Paired P (xs.take i) ys ∧ n' = some (m + c * i)) hg (wi_mono h ?_)
  rintro xs n1 Γ1 ⟨rfl, hl, hs, he⟩
  refine ⟨⟨by simp; exact .nil, rfl⟩, ?_, ?_⟩
  · rintro w' i x ys n2 _ _ _ hx ⟨hp, rfl⟩
    refine wg_mono (hs w' i x hx) fun n3 Γ3 q => wt_yes (we_mono q ?_)
    rintro y n4 Γ4 ⟨hy, rfl⟩
    have hi := get_lt hx
    have hlen := pw_len hp
    rw [List.length_take] at hlen
    refine ⟨by omega, ?_, by rw [Nat.mul_succ, Nat.add_assoc]⟩
    rw [List.take_add_one, hx]; exact pw_snoc hp hy
  · rintro ys n2 ⟨hp, rfl⟩
    rw [List.take_length] at hp; exact he ys hp
end
end TL

/-! # TL: more rules -/
namespace TL
open PySem L2
open PySem.W (Frag)
section
variable {K : Frag} {w : Wd} {n : Option Nat} {Γ : Env} {α β γ δ ρ A : Type} {t : Ty α} {u : Ty β} {ta tb te : TE} {ts ts' : TS} {res : ρ → Ent} {nx bk ct : NK} {rt : ρ → Option Nat → Prop}
/-- a, b = x, y -/
theorem ws_par2 {i j : Nat} (h : WpE K w n Γ ta t (fun x n Γ => WpE K w n Γ tb u (fun y n Γ => SetE ((Γ.set i (.im t x)).set j (.im u y)) (nx n)))) : WpS K w n Γ (tPar i j (tCons ta (tCons tb tNil))) res nx bk ct rt := fun σ B H ok D a b c d =>
  h σ B H ok _ fun x v n1 Γ1 B1 H1 q1 e1 o1 r1 => q1 σ B1 H1 o1 _ fun y v2 n2 Γ2 B2 H2 q e2 o2 r2 => ⟨v, v2, rfl, a n2 _ _ B2 H2 q (e1.trans e2) ((o2.setIm (t.mono e2 r1)).setIm r2)⟩
theorem ws_par3 {s : Ty γ} {tc : TE} {i j l : Nat} (h : WpE K w n Γ ta t (fun x n Γ => WpE K w n Γ tb u (fun y n Γ => WpE K w n Γ tc s (fun z n Γ => SetE (((Γ.set i (.im t x)).set j (.im u y)).set l (.im s z)) (nx n))))) : WpS K w n Γ (tPar3 i j l (tCons ta (tCons tb (tCons tc tNil)))) res nx bk ct rt := fun σ B H ok D a b c d =>
  h σ B H ok _ fun x v n1 Γ1 B1 H1 q1 e1 o1 r1 => q1 σ B1 H1 o1 _ fun y v2 n2 Γ2 B2 H2 q2 e2 o2 r2 => q2 σ B2 H2 o2 _ fun z v3 n3 Γ3 B3 H3 q e3 o3 r3 =>
    ⟨v, v2, v3, rfl, a n3 _ _ B3 H3 q ((e1.trans e2).trans e3) (((o3.setIm (t.mono (e2.trans e3) r1)).setIm (u.mono e3 r2)).setIm r3)⟩
theorem we_neLI {k : Bool → NK} (h : WpE K w n Γ ta (tL tI) (fun a n Γ => WpE K w n Γ tb (tL tI) (fun b n Γ => k (!decide (a = b)) n Γ))) : WpE K w n Γ (tOp (rNeU K) ta tb) tBo k :=
  we_neD (iL iI) (Nat.le_of_ble_eq_true rfl) (we_mono h fun x _ _ q => we_mono q fun y _ _ z => ⟨⟨layLI x, layLI y⟩, z⟩)
theorem we_neLLI {k : Bool → NK} (h : WpE K w n Γ ta (tL (tL tI)) (fun a n Γ => WpE K w n Γ tb (tL (tL tI)) (fun b n Γ => k (!decide (a = b)) n Γ))) : WpE K w n Γ (tOp (rNeU K) ta tb) tBo k :=
  we_neD (iL (iL iI)) (Nat.le_of_ble_eq_true rfl) (we_mono h fun x _ _ q => we_mono q fun y _ _ z => ⟨⟨layLLI x, layLLI y⟩, z⟩)
theorem we_eqLI {k : Bool → NK} (h : WpE K w n Γ ta (tL tI) (fun a n Γ => WpE K w n Γ tb (tL tI) (fun b n Γ => k (decide (a = b)) n Γ))) : WpE K w n Γ (tOp (rEqU K) ta tb) tBo k :=
  we_eqD (iL iI) (Nat.le_of_ble_eq_true rfl) (we_mono h fun x _ _ q => we_mono q fun y _ _ z => ⟨⟨layLI x, layLI y⟩, z⟩)
theorem we_eqLLI {k : Bool → NK} (h : WpE K w n Γ ta (tL (tL tI)) (fun a n Γ => WpE K w n Γ tb (tL (tL tI)) (fun b n Γ => k (decide (a = b)) n Γ))) : WpE K w n Γ (tOp (rEqU K) ta tb) tBo k :=
  we_eqD (iL (iL iI)) (Nat.le_of_ble_eq_true rfl) (we_mono h fun x _ _ q => we_mono q fun y _ _ z => ⟨⟨layLLI x, layLLI y⟩, z⟩)
def dropE (l : List Nat) (Γ : Env) : Env := l.foldl (fun Γ i => Γ.set i .no) Γ
theorem Up.drops {I : NK} : ∀ (l : List Nat) {Γ : Env}, I n (dropE l Γ) → Up K w I n Γ
  | [], Γ, h => Up.of h
  | i :: l, Γ, h => by
    obtain ⟨n0, Γ0, v, q⟩ := Up.drops l (Γ := Γ.set i .no) h
    exact ⟨n0, Γ0, (View.drop i).trans v, q⟩
/-- a new thing, used as a datum -/
theorem we_ofM' {k : List α → NK} (h : WpM K w n Γ te (fun r n Γ => ∃ ys, r = rL t ys ∧ k ys n Γ)) : WpE K w n Γ te (tL t) k := we_ofM (xs := fun _ => True) h
/-- [e] * j -/
theorem we_repI {k : List Int → NK} {c : Int} (h : WpE K w n Γ tb tI (fun j n Γ => (-(2 ^ 63) ≤ j ∧ j ≤ 100000) ∧ k (List.replicate j.toNat c) n Γ)) : WpE K w n Γ (tOp rMulU (tLst (tCons (tC (.int c)) tNil)) tb) (tL tI) k :=
  we_ofM' (wm_rep (t := tI) (we_lst (wal_cons (we_int (wal_nil ⟨by simp, we_mono h fun j _ _ ⟨q1, q2⟩ => ⟨⟨by omega, by omega, by simp; omega⟩, _, rfl, by rw [flat_one]; exact q2⟩⟩)))))
end
end TL

/-! # TL: texts -/
namespace TL
open PySem L2
open C8 (cutS_slice rSlX sl_txt)
open PySem.W (Frag)
section
variable {X : Cx}
def rInStr : R2 := fun x y H Q => ∃ i j, x = .str i ∧ y = .str j ∧ Q (.bl (!(Builtin.Str.occurrences j i 0 j.length 1).isEmpty)) H
theorem op_inStr : OpR X (compareOp .In) rInStr := op_in_str
def rNotInStr : R2 := fun x y H Q => ∃ i j, x = .str i ∧ y = .str j ∧ Q (.bl (!(!(Builtin.Str.occurrences j i 0 j.length 1).isEmpty))) H
theorem op_notInStr : OpR X (compareOp .NotIn) rNotInStr := op_notin_str
theorem op_inSeqK (K : Frag) (hK : X.K = K) : OpR X (compareOp .In) (rIn K false) := hK ▸ op_in_seq
theorem op_notInSeqK (K : Frag) (hK : X.K = K) : OpR X (compareOp .NotIn) (rIn K true) := hK ▸ op_notIn_seq
def rMulS : R2 := fun x y H Q => ∃ z i, x = .str z ∧ y = .int i ∧ z.length ≤ 16 ∧ -(2 ^ 63) ≤ i ∧ i ≤ 1048576 ∧ Q (.str (Txt.mul z i)) H
theorem op_mulS : OpR X (binaryOp .Mult) rMulS := by
  intro pins s σ H x y u v Q I rx ry h
  obtain ⟨z, i, rfl, rfl, h1, h2, h3, q⟩ := h
  obtain ⟨t, rfl⟩ := rx
  obtain ⟨t', rfl⟩ := ry
  exact PySem.W.KXi.mul rfl h1 h2 h3 fun t2 k _ _ => ⟨.str _, H, I.tok k, ⟨t2, rfl⟩, q⟩
def rJoinS (K : Frag) : V → List V → Hp → VK → Prop := fun x xs H Q => ∃ a p, ∃ ys : List Str, x = .str a ∧ xs = [.ref p] ∧ (SqL K H p (ys.map V.str) ∨ SqT K H p (ys.map V.str)) ∧ (ys.map (·.length)).sum + ys.length * a.length ≤ 16777216 ∧ Q (.str (Txt.join a ys)) H
theorem mt_joinK (K : Frag) (hK : X.K = K) : MtR X "str.join" (rJoinS K) := hK ▸ mt_join
def rSplitS : V → List V → Hp → VK → Prop := fun x xs H Q => ∃ a b, x = .str a ∧ xs = [.str b] ∧ (b.length == 0) = false ∧ a.length + 2 ≤ sizeLine ∧ rNewStrs (Txt.split a b) H Q
theorem mt_splitS : MtR X "str.split" rSplitS := mt_split
end
/-- a text, by its signs -/
def tX : Ty (List Nat) := ⟨fun _ v x => v = .str (SX.S x), fun _ h => h⟩
theorem flatX : Flat tX := fun _ _ _ _ h => h
def iX {K : Frag} : IsD K tX := ⟨fun x => .str (SX.S x), fun h => by cases h; exact .str _, 0, fun x => Nat.le_refl _, fun x y => by
  show (SX.S x == SX.S y) = true ↔ _
  rw [SX.S_beq_eq]; simp⟩
section
variable {K : Frag} {w : Wd} {n : Option Nat} {Γ : Env} {α β γ δ ρ A : Type} {t : Ty α} {u : Ty β} {r : Ty γ} {ta tb te : TE} {ts ts' : TS} {res : ρ → Ent} {nx bk ct : NK} {rt : ρ → Option Nat → Prop}
theorem we_X {s : Str} {k : List Nat → NK} (q : k s.cps.toList n Γ) : WpE K w n Γ (tC (.str s)) tX k := fun σ B H ok Q c => c _ _ n Γ B H q (Ex.refl _) ok (by show V.str s = V.str (SX.S _); rw [SX.S_tl])
theorem we_addX {k : List Nat → NK} (h : WpE K w n Γ ta tX (fun a n Γ => WpE K w n Γ tb tX (fun b n Γ => a.length + b.length ≤ 100000 ∧ k (a ++ b) n Γ))) : WpE K w n Γ (tOp rAddU ta tb) tX k :=
  we_op2 (s := tX) (fun a b => a ++ b) (fun a b => a.length + b.length ≤ 100000) (fun B x y a b H Q h1 h2 e hc q => .inr (.inl ⟨_, _, h1, h2, by rw [SX.S_len, SX.S_len]; exact sz hc, by rw [SX.S_cat]; exact q _ rfl⟩)) h
theorem we_lenX {k : Int → NK} (h : WpE K w n Γ ta tX (fun a n Γ => a.length ≤ 100000 ∧ k (a.length : Int) n Γ)) : WpE K w n Γ (tCB (rLenU K) (tCons ta tNil)) tI k := fun σ B H ok Q c =>
  h σ B H ok _ fun a v n1 Γ1 B1 H1 ⟨hz, q⟩ e o r => ⟨v, a.length, rfl, by cases r; show _ ∧ _; rw [SX.S_len]; exact ⟨sz hz, rfl⟩, c _ _ n1 Γ1 B1 H1 q e o rfl⟩
theorem we_ixX {k : List Nat → NK} (h : WpE K w n Γ ta tX (fun a n Γ => WpE K w n Γ tb tI (fun i n Γ => a.length ≤ 100000 ∧ ∃ c, atI a i = some c ∧ k [c] n Γ))) : WpE K w n Γ (tOp (rIx K) ta tb) tX k := fun σ B H ok Q c =>
  h σ B H ok _ fun a v n1 Γ1 B1 H1 q1 e1 o1 r1 => q1 σ B1 H1 o1 _ fun i v2 n2 Γ2 B2 H2 ⟨hz, x, hx, q⟩ e2 o2 r2 => .inr (.inr ⟨_, i, x, r1, r2, by rw [SX.S_len]; exact sz hz, by simpa using hx, c [x] _ n2 Γ2 B2 H2 q (e1.trans e2) o2 rfl⟩)
def cutX (a : List Nat) (lo hi : Option Int) : List Nat := (Txt.slice (SX.S a) lo hi).cps.toList
theorem we_slX {tl th : TO} {k : List Nat → NK} (h : WpE K w n Γ te tX (fun a n Γ => a.length ≤ 100000 ∧ WpO K w n Γ tl (fun lo n Γ => WpO K w n Γ th (fun hi n Γ => k (cutX a lo hi) n Γ)))) : WpE K w n Γ (tSl rSlX te tl th) tX k := fun σ B H ok Q c =>
  h σ B H ok _ fun a v n1 Γ1 B1 H1 ⟨hz, q1⟩ e1 o1 r => q1 σ B1 H1 o1 _ fun lo n2 Γ2 B2 H2 q2 e2 o2 => q2 σ B2 H2 o2 _ fun hi n3 Γ3 B3 H3 q e3 o3 =>
    ⟨_, r, by rw [SX.S_len]; exact sz hz, c _ _ n3 Γ3 B3 H3 q ((e1.trans e2).trans e3) o3 (by show V.str _ = V.str (SX.S _); unfold cutX; rw [SX.S_tl])⟩
theorem cutX_from {a : List Nat} {i : Int} (h : 0 ≤ i) : cutX a (some i) none = a.drop i.toNat := by unfold cutX; rw [SX.slice_from h]
theorem cutX_to {a : List Nat} {i : Int} (h : 0 ≤ i) : cutX a none (some i) = a.take i.toNat := by unfold cutX; rw [SX.slice_to h]
theorem cutX_mid {a : List Nat} {i j : Nat} (h1 : i ≤ j) (h2 : j ≤ a.length) : cutX a (some (i : Int)) (some (j : Int)) = (a.drop i).take (j - i) := by
  unfold cutX
  rw [← cutS_slice]
  unfold cutS
  have e1 : HT.sIx a.length 0 (some (i : Int)) = i := by rw [HT.sIx_nat]; omega
  have e2 : HT.sIx a.length a.length (some (j : Int)) = j := by rw [HT.sIx_nat]; omega
  simp only [SX.S_len, e1, e2]
  try simp
theorem we_inX {k : Bool → NK} (h : WpE K w n Γ ta tX (fun a n Γ => WpE K w n Γ tb tX (fun b n Γ => ∃ c, a = [c] ∧ k (decide (c ∈ b)) n Γ))) : WpE K w n Γ (tOp rInStr ta tb) tBo k := fun σ B H ok Q c =>
  h σ B H ok _ fun a v n1 Γ1 B1 H1 q1 e1 o1 r1 => q1 σ B1 H1 o1 _ fun b v2 n2 Γ2 B2 H2 ⟨x, hx, q⟩ e2 o2 r2 => by
    subst hx
    exact ⟨_, _, r1, r2, by rw [SX.in_one]; exact c _ _ n2 Γ2 B2 H2 q (e1.trans e2) o2 rfl⟩
/-- a text among texts -/
theorem inV_X : ∀ {vs : List V} {xs : List (List Nat)} {B : Hp} {a : List Nat}, Paired (tX.rep B) vs xs → vs.all flatV = true ∧ inV (.str (SX.S a)) vs = decide (a ∈ xs)
  | _, _, B, a, .nil => ⟨rfl, by unfold inV; simp⟩
  | _, _, B, a, .cons (b := x) h r => by
    obtain ⟨q1, q2⟩ := inV_X (a := a) r
    cases h
    refine ⟨by rw [List.all_cons, q1]; rfl, ?_⟩
    unfold inV at q2 ⊢
    rw [List.any_cons, q2]
    show ((SX.S x == SX.S a) || _) = _
    rw [SX.S_beq_eq]
    by_cases c : a = x
    · subst c; simp
    · have c' : ¬ x = a := fun z => c z.symm
      simp [c, c']
theorem we_inLX {k : Bool → NK} (h : WpE K w n Γ ta tX (fun a n Γ => WpE K w n Γ tb (tL tX) (fun b n Γ => k (decide (a ∈ b)) n Γ))) : WpE K w n Γ (tOp (rIn K false) ta tb) tBo k := fun σ B H ok Q c =>
  h σ B H ok _ fun a v n1 Γ1 B1 H1 q1 e1 o1 r1 => q1 σ B1 H1 o1 _ fun b v2 n2 Γ2 B2 H2 q e2 o2 ⟨l, vs, hv, hs, p⟩ => by
    obtain ⟨p1, p2⟩ := inV_X (a := a) p
    cases r1
    exact ⟨l, vs, hv, .inl (SqL.of (o2.ex _ _ hs)), rfl, p1, by rw [p2]; exact c _ _ n2 Γ2 B2 H2 q (e1.trans e2) o2 rfl⟩
theorem we_eqX {k : Bool → NK} (h : WpE K w n Γ ta tX (fun a n Γ => WpE K w n Γ tb tX (fun b n Γ => k (decide (a = b)) n Γ))) : WpE K w n Γ (tOp (rEqU K) ta tb) tBo k :=
  we_op2 (s := tBo) (fun a b => decide (a = b)) (fun _ _ => True) (fun B x y a b H Q h1 h2 e _ q => by
    cases h1; cases h2
    refine .inl ⟨rfl, ?_⟩
    have e : decide (V.str (SX.S a) = V.str (SX.S b)) = decide (a = b) := by
      by_cases c : a = b
      · subst c; simp
      · rw [decide_eq_false c, decide_eq_false (fun z => c (SX.S_inj (V.str.inj z)))]
    rw [e]; exact q _ rfl) (we_mono h fun x _ _ q => we_mono q fun y _ _ z => ⟨trivial, z⟩)
theorem we_neX {k : Bool → NK} (h : WpE K w n Γ ta tX (fun a n Γ => WpE K w n Γ tb tX (fun b n Γ => k (!decide (a = b)) n Γ))) : WpE K w n Γ (tOp (rNeU K) ta tb) tBo k :=
  we_op2 (s := tBo) (fun a b => !decide (a = b)) (fun _ _ => True) (fun B x y a b H Q h1 h2 e _ q => by
    cases h1; cases h2
    refine .inl ⟨rfl, ?_⟩
    have e : decide (V.str (SX.S a) = V.str (SX.S b)) = decide (a = b) := by
      by_cases c : a = b
      · subst c; simp
      · rw [decide_eq_false c, decide_eq_false (fun z => c (SX.S_inj (V.str.inj z)))]
    rw [e]; exact q _ rfl) (we_mono h fun x _ _ q => we_mono q fun y _ _ z => ⟨trivial, z⟩)
theorem mul_one {c : Nat} {i : Int} : Txt.mul (SX.S [c]) i = SX.S (List.replicate i.toNat c) := by
  unfold Txt.mul
  by_cases h : i < 1
  · rw [if_pos h, show i.toNat = 0 by omega]; rfl
  · rw [if_neg h]
    by_cases h1 : (i == 1 || (SX.S [c]).length == 0) = true
    · rw [if_pos h1]
      have : i = 1 := by
        have z : ((SX.S [c]).length == 0) = false := by rw [SX.S_len]; rfl
        rw [z, Bool.or_false] at h1
        exact eq_of_beq h1
      subst this; rfl
    · rw [if_neg h1]
      have gen : ∀ (m : Nat) (acc : Array Nat), (List.replicate m (#[c] : Array Nat)).foldl (· ++ ·) acc = acc ++ (List.replicate m c).toArray := fun m => by
        induction m with
        | zero => intro acc; simp
        | succ m ih =>
          intro acc
          rw [List.replicate_succ, List.foldl_cons, ih, List.replicate_succ]
          apply Array.toList_inj.mp
          simp
      show (⟨(List.replicate i.toNat (#[c] : Array Nat)).foldl (· ++ ·) #[]⟩ : Str) = _
      rw [gen]
      simp
theorem we_mulX {s : Str} {c : Nat} (hs : s = SX.S [c]) {k : List Nat → NK} (h : WpE K w n Γ tb tI (fun i n Γ => (-(2 ^ 63) ≤ i ∧ i ≤ 100000) ∧ k (List.replicate i.toNat c) n Γ)) : WpE K w n Γ (tOp rMulS (tC (.str s)) tb) tX k := fun σ B H ok Q cc =>
  h σ B H ok _ fun i v n1 Γ1 B1 H1 ⟨hz, q⟩ e1 o1 r1 => ⟨s, i, rfl, r1, by rw [hs, SX.S_len]; exact (Nat.le_of_ble_eq_true rfl : 1 ≤ 16), hz.1, by omega, by rw [hs, mul_one]; exact cc _ _ n1 Γ1 B1 H1 q e1 o1 rfl⟩
theorem joinL_nil : ∀ ys : List (List Nat), joinL [] ys = ys.flatten
  | [] => rfl
  | [p] => by simp [joinL]
  | p :: q :: r => by
    show p ++ ([] ++ joinL [] (q :: r)) = _
    rw [joinL_nil (q :: r)]; simp
theorem pw_strs : ∀ {vs : List V} {xs : List (List Nat)} {B : Hp}, Paired (tX.rep B) vs xs → vs = (xs.map SX.S).map V.str
  | _, _, _, .nil => rfl
  | _, _, _, .cons h r => by rw [List.map_cons, List.map_cons, ← pw_strs r, h]
/-- ''.join(texts) -/
theorem we_joinX {s : Str} (hs : s = SX.S []) {k : List Nat → NK} (h : WpE K w n Γ te (tL tX) (fun ys n Γ => (ys.map List.length).sum ≤ 100000 ∧ k ys.flatten n Γ)) : WpE K w n Γ (tM1 (rJoinS K) (tC (.str s)) te) tX k := fun σ B H ok Q c =>
  ⟨⟨s, rfl⟩, h σ B H ok _ fun ys v n1 Γ1 B1 H1 ⟨hz, q⟩ e o ⟨a, vs, hv, hl, p⟩ => by
    refine ⟨s, a, ys.map SX.S, rfl, by rw [hv], .inl (by rw [← pw_strs p]; exact SqL.of (o.ex _ _ hl)), ?_, ?_⟩
    · have e1 : ((ys.map SX.S).map (·.length)).sum = (ys.map List.length).sum := congrArg List.sum (SX.lens ys)
      rw [e1, hs, SX.S_len, List.length_nil, Nat.mul_zero]; omega
    · rw [hs, SX.join_S, joinL_nil]
      exact c _ _ n1 Γ1 B1 H1 q e o rfl⟩
theorem pw_newX {B : Hp} : ∀ xs : List (List Nat), Paired (tX.rep B) ((xs.map SX.S).map V.str) xs
  | [] => .nil
  | x :: r => .cons rfl (pw_newX r)
/-- a.split(b), b of small signs -/
theorem wm_splitX {s : Str} {b : List Nat} (hs : s = SX.S b) (hb : b ≠ []) (hk : b.all (· < 256) = true) {k : Rs → NK} (h : WpE K w n Γ ta tX (fun a n Γ => a.length ≤ 100000 ∧ k (rL tX (spl b 0 [] a)) n Γ)) : WpM K w n Γ (tM1 rSplitS ta (tC (.str s))) k := fun σ B H ok Q c =>
  h σ B H ok _ fun a v n1 Γ1 B1 H1 ⟨hz, q⟩ e o r => by
    refine ⟨⟨_, r⟩, SX.S a, s, r, rfl, ?_, ?_, ?_⟩
    · rw [hs, SX.S_len]
      cases b with
      | nil => exact absurd rfl hb
      | cons x y => rfl
    · rw [SX.S_len]; have : (100002 : Nat) ≤ sizeLine := by decide
      omega
    · intro p hp
      rw [hs, SX.split_S hb hk]
      have g := Grow.open (o := .lst (((spl b 0 [] a).map SX.S).map V.str)) o.ex hp
      exact c _ p n1 Γ1 B1 _ q e (o.grow g) (Own.new o hp ⟨_, rfl, pw_newX _⟩)
/-! tests as values, chains -/
theorem we_andV {k : Bool → NK} (h : WpE K w n Γ ta tBo (fun b n Γ => (b = true → WpE K w n Γ tb tBo k) ∧ (b = false → k false n Γ))) : WpE K w n Γ (tAndV ta tb) tBo k := fun σ B H ok Q c =>
  h σ B H ok _ fun b v n1 Γ1 B1 H1 ⟨h1, h2⟩ e o r => ⟨b, r, by
    cases b with
    | true => exact h1 rfl σ B1 H1 o Q fun x v n2 Γ2 B2 H2 q e2 => c x v n2 Γ2 B2 H2 q (e.trans e2)
    | false => exact c false _ n1 Γ1 B1 H1 (h2 rfl) e o rfl⟩
theorem we_orV {k : Bool → NK} (h : WpE K w n Γ ta tBo (fun b n Γ => (b = true → k true n Γ) ∧ (b = false → WpE K w n Γ tb tBo k))) : WpE K w n Γ (tOrV ta tb) tBo k := fun σ B H ok Q c =>
  h σ B H ok _ fun b v n1 Γ1 B1 H1 ⟨h1, h2⟩ e o r => ⟨b, r, by
    cases b with
    | false => exact h2 rfl σ B1 H1 o Q fun x v n2 Γ2 B2 H2 q e2 => c x v n2 Γ2 B2 H2 q (e.trans e2)
    | true => exact c true _ n1 Γ1 B1 H1 (h1 rfl) e o rfl⟩
theorem we_notV {k : Bool → NK} (h : WpE K w n Γ ta tBo (fun b n Γ => k (!b) n Γ)) : WpE K w n Γ (tNotV ta) tBo k := fun σ B H ok Q c =>
  h σ B H ok _ fun b v n1 Γ1 B1 H1 q e o r => ⟨b, r, c _ _ n1 Γ1 B1 H1 q e o rfl⟩
/-- a ≤ b < c -/
theorem we_chainLeLt {tc : TE} {k : Bool → NK} (h : WpE K w n Γ ta tI (fun a n Γ => WpE K w n Γ tb tI (fun b n Γ => (a ≤ b → WpE K w n Γ tc tI (fun c n Γ => k (decide (b < c)) n Γ)) ∧ (¬ a ≤ b → k false n Γ)))) : WpE K w n Γ (tChain rLeI rLtI ta tb tc) tBo k := fun σ B H ok Q c =>
  h σ B H ok _ fun a v n1 Γ1 B1 H1 q1 e1 o1 r1 => q1 σ B1 H1 o1 _ fun b v2 n2 Γ2 B2 H2 ⟨h1, h2⟩ e2 o2 r2 => by
    refine ⟨a, b, r1, r2, decide (a ≤ b), rfl, ?_⟩
    by_cases z : a ≤ b
    · rw [if_pos (decide_eq_true z)]
      exact h1 z σ B2 H2 o2 _ fun x v3 n3 Γ3 B3 H3 q e3 o3 r3 => ⟨b, x, r2, r3, c _ _ n3 Γ3 B3 H3 q ((e1.trans e2).trans e3) o3 rfl⟩
    · rw [if_neg (by rw [decide_eq_false z]; exact Bool.false_ne_true)]
      exact c false _ n2 Γ2 B2 H2 (h2 z) (e1.trans e2) o2 rfl
/-- name += e -/
theorem ws_augI {i : Nat} {f : Int → Int → Int} {x : Int} (hi : Γ[i]? = some (.im tI x)) (h : WpE K w n Γ te tI (fun y n Γ => SetE (Γ.set i (.im tI (f x y))) (nx n))) : WpS K w n Γ (tAug i te (ipI f)) res nx bk ct rt := fun σ B H ok D a b c d => by
  obtain ⟨v, h1, h2⟩ := ok.sl i _ hi
  cases h2
  exact ⟨_, h1, h σ B H ok _ fun y v n' Γ' B' H' q e o r => ⟨x, y, rfl, r, a n' _ _ B' H' q e (o.setIm rfl)⟩⟩
/-! items of tuples of several kinds -/
theorem we_ixT {s : Ty δ} {j : Int} {f : α → δ} {k : δ → NK} (hr : ∀ {B v x}, t.rep B v x → ∃ a vs y, v = .ref a ∧ B a = some (.tup vs) ∧ atI vs j = some y ∧ s.rep B y (f x)) (h : WpE K w n Γ ta t (fun x n Γ => k (f x) n Γ)) : WpE K w n Γ (tOp (rIx K) ta (tC (.int j))) s k := fun σ B H ok Q c =>
  h σ B H ok _ fun x v n1 Γ1 B1 H1 q e o r => by
    obtain ⟨a, vs, y, h1, h2, h3, h4⟩ := hr r
    exact .inr (.inl ⟨a, vs, j, y, h1, rfl, SqT.of (o.ex _ _ h2), h3, c _ _ n1 Γ1 B1 H1 q e o h4⟩)
theorem we_ix20 {k : α → NK} (h : WpE K w n Γ ta (tP t u) (fun x n Γ => k x.1 n Γ)) : WpE K w n Γ (tOp (rIx K) ta (tC (.int 0))) t k := we_ixT (t := tP t u) (f := fun (x : α × β) => x.1) (fun {B v x} ⟨a, p, q, h1, h2, h3, h4⟩ => ⟨a, _, p, h1, h2, rfl, h3⟩) h
theorem we_ix21 {k : β → NK} (h : WpE K w n Γ ta (tP t u) (fun x n Γ => k x.2 n Γ)) : WpE K w n Γ (tOp (rIx K) ta (tC (.int 1))) u k := we_ixT (t := tP t u) (f := fun (x : α × β) => x.2) (fun {B v x} ⟨a, p, q, h1, h2, h3, h4⟩ => ⟨a, _, q, h1, h2, rfl, h4⟩) h
theorem we_ix30 {k : α → NK} (h : WpE K w n Γ ta (tP3 t u r) (fun x n Γ => k x.1 n Γ)) : WpE K w n Γ (tOp (rIx K) ta (tC (.int 0))) t k := we_ixT (t := tP3 t u r) (f := fun (x : α × β × γ) => x.1) (fun {B v x} ⟨a, p, q, z, h1, h2, h3, h4, h5⟩ => ⟨a, _, p, h1, h2, rfl, h3⟩) h
theorem we_ix31 {k : β → NK} (h : WpE K w n Γ ta (tP3 t u r) (fun x n Γ => k x.2.1 n Γ)) : WpE K w n Γ (tOp (rIx K) ta (tC (.int 1))) u k := we_ixT (t := tP3 t u r) (f := fun (x : α × β × γ) => x.2.1) (fun {B v x} ⟨a, p, q, z, h1, h2, h3, h4, h5⟩ => ⟨a, _, q, h1, h2, rfl, h4⟩) h
theorem we_ix32 {k : γ → NK} (h : WpE K w n Γ ta (tP3 t u r) (fun x n Γ => k x.2.2 n Γ)) : WpE K w n Γ (tOp (rIx K) ta (tC (.int 2))) r k := we_ixT (t := tP3 t u r) (f := fun (x : α × β × γ) => x.2.2) (fun {B v x} ⟨a, p, q, z, h1, h2, h3, h4, h5⟩ => ⟨a, _, z, h1, h2, rfl, h5⟩) h
theorem tyP3 {B : Hp} {v : V} {x : α × β × γ} {H : Hp} (h : (tP3 t u r).rep B v x) (e : Ex B H) : TyX K H v (.type "tuple") := by obtain ⟨a, p, q, z, rfl, s, _⟩ := h; exact .base (.tup (e _ _ s))
def iP3 (D : IsD K t) (E : IsD K u) (F : IsD K r) : IsD K (tP3 t u r) := ⟨fun x => .tuple [D.enc x.1, E.enc x.2.1, F.enc x.2.2], fun ⟨a, p, q, z, h, s, h1, h2, h3⟩ => by subst h; exact .tup (SqT.of s) (.cons (D.dp h1) (.cons (E.dp h2) (.cons (F.dp h3) .nil))), max D.dep (max E.dep F.dep) + 1,
  fun x => by
    have h1 := D.dp_le x.1
    have h2 := E.dp_le x.2.1
    have h3 := F.dp_le x.2.2
    simp only [PyData.depth, PyData.depthAll]; omega, fun x y => by
    simp only [PyData.eqv, PyData.eqvAll, Bool.and_eq_true, D.inj, E.inj, F.inj, and_true]
    exact ⟨fun ⟨a, b, c⟩ => Prod.ext a (Prod.ext b c), fun h => by subst h; exact ⟨rfl, rfl, rfl⟩⟩⟩
/-- None or a datum: is it None? -/
theorem we_isNone {k : Bool → NK} (hn : ∀ {B v x}, t.rep B v x → ¬ v = .non) (h : WpE K w n Γ ta (tO t) (fun x n Γ => k x.isNone n Γ)) : WpE K w n Γ (tOp (fun x y H Q => y = .non ∧ Q (.bl (decide (x = .non))) H) ta (tC .non)) tBo k := fun σ B H ok Q c =>
  h σ B H ok _ fun x v n1 Γ1 B1 H1 q e o r => ⟨rfl, by
    cases x with
    | none =>
      have r' : v = .non := r
      exact c _ _ n1 Γ1 B1 H1 q e o (by show V.bl _ = V.bl _; rw [r']; rfl)
    | some y => exact c _ _ n1 Γ1 B1 H1 q e o (by show V.bl _ = V.bl _; rw [decide_eq_false (hn r)]; rfl)⟩
theorem View.some {i : Nat} {x : α} (h : Γ[i]? = Option.some (.im (tO t) (Option.some x))) : View K w n Γ n (Γ.set i (.im t x)) := fun σ B H ok => by
  obtain ⟨v, h1, h2⟩ := ok.sl i _ h
  have o2 := ok.setIm (i := i) (t := t) (x := x) (v := v) h2
  rw [slot_same h1] at o2
  exact ⟨B, Ex.refl _, o2⟩
theorem we_lenVX {i : Nat} {xs : List Nat} {k : Int → NK} (h : Γ[i]? = some (.im tX xs)) (hz : xs.length ≤ 100000) (q : k (xs.length : Int) n Γ) : WpE K w n Γ (tCB (rLenU K) (tCons (tVar i) tNil)) tI k := we_lenX (we_var h ⟨hz, q⟩)
/-- each item's image is drawn, c draws each; the iterable may draw, too -/
theorem wm_mapM {wi : TI} {g : TG} {vs : List Nat} {kk : Rs → NK} (u : Ty β) (P : α → β → Prop) (c m : Nat) (hg : GSl g vs)
    (h : WpI K w n Γ wi t (fun xs n1 Γ => n1 = some m ∧ Map3 (xs.length ≤ 100000) (∀ (w' : Wd) (i : Nat) x, xs[i]? = some x → SetE (hideE Γ vs) fun Γh => WpG K w' (some (m + c * i)) Γh g t x (fun n1 Γ => WpE K w' n1 Γ te u (fun y n2 _ => P x y ∧ n2 = some (m + c * i + c))))
      (∀ ys, Paired P xs ys → kk (rL u ys) (some (m + c * xs.length)) Γ))) :
    WpM K w n Γ (tLc wi g tYes te vs) kk := by
  refine wm_lc u (fun xs i ys n' => Paired P (xs.take i) ys ∧ n' = some (m + c * i)) hg (wi_mono h ?_)
  rintro xs n1 Γ1 ⟨rfl, hl, hs, he⟩
  refine ⟨⟨by simp; exact .nil, rfl⟩, ?_, ?_⟩
  · rintro w' i x ys n2 _ _ _ hx ⟨hp, rfl⟩
    refine wg_mono (hs w' i x hx) fun n3 Γ3 q => wt_yes (we_mono q ?_)
    rintro y n4 Γ4 ⟨hy, rfl⟩
    have hi := get_lt hx
    have hlen := pw_len hp
    rw [List.length_take] at hlen
    refine ⟨by omega, ?_, by rw [Nat.mul_succ, Nat.add_assoc]⟩
    rw [List.take_add_one, hx]; exact pw_snoc hp hy
  · rintro ys n2 ⟨hp, rfl⟩
    rw [List.take_length] at hp; exact he ys hp
/-- a, b = x, (a new thing of one's own) -/
theorem ws_par2M {i j : Nat} (h : WpE K w n Γ ta t (fun x n Γ => WpM K w n Γ tb (fun r n Γ => SetE ((Γ.set i (.im t x)).set j (.mu r)) (nx n)))) : WpS K w n Γ (tPar i j (tCons ta (tCons tb tNil))) res nx bk ct rt := fun σ B H ok D a b c d =>
  h σ B H ok _ fun x v n1 Γ1 B1 H1 q1 e1 o1 r1 => q1 σ B1 H1 o1 _ fun r l n2 Γ2 B2 H2 q e2 o2 ow => by
    refine ⟨v, .ref l, rfl, a n2 _ _ B2 H2 q (e1.trans e2) ((o2.setIm (t.mono e2 r1)).setMu ⟨ow.ob, ow.b, ow.h0, fun i' e' hi z => ?_⟩)⟩
    rw [List.getElem?_set] at hi z
    by_cases c : i = i'
    · subst c
      rw [if_pos rfl] at hi
      split at hi
      · cases hi; exact z
      · cases hi
    · rw [if_neg c] at hi z
      exact ow.df i' e' hi z
/-- a call of one of several promises, c draws -/
theorem we_callXN {ι : Type} {S : ι → FS K} (i : ι) {E : XK} {ta : TA} {t : Ty (S i).ρ} {k : (S i).ρ → NK} {c : Nat} (hres : (S i).res = fun x => .im t x) (hc : (S i).cost = c) (h : WpA K w n Γ ta (S i).args (fun a n Γ => (S i).pre a ∧ ∃ m, n = some m ∧ m + c ≤ 2 ^ 60 ∧ ∀ x, (S i).post a x → k x (some (m + c)) Γ)) :
    WpE K w n Γ (tCall (SpEx fun i => (S i).sp) [] E ta) t k := fun σ B H ok Q cc =>
  h σ B H ok _ fun a vs n1 Γ1 B1 H1 ⟨hp, m, hn, hm, q⟩ e o r => by
    rw [List.append_nil]
    subst hn
    refine ⟨i, w.d, w.ca, w.cs, some m, B1, a, o.entry, r, hp, .inr ⟨m, rfl, by rw [hc]; exact hm⟩, fun x v n' B' H' hx hcc e' o' s => ?_⟩
    rw [hres] at s
    obtain ⟨v', h1, h2⟩ := s
    cases h1
    rcases hcc with ⟨z, rfl⟩ | ⟨m', e2, rfl⟩
    · rw [hc] at z; subst z; exact cc x v _ Γ1 B' H' (q x hx) (e.trans e') (o.back o') h2
    · cases e2
      rw [hc] at o'; exact cc x v _ Γ1 B' H' (q x hx) (e.trans e') (o.back o') h2
end
section
variable {X : Cx} {k : Nat} {x : Str} {ps : List Str} {sp : Sp} {p pos : Pos}
theorem pe_callC0 (c : Callee X.prog X.w X.K X.mg X.base CX0 k x ps sp) (hr : Room k X.A) (hg : Gl X x) (hdb : (x == ("__debug__" : Str)) = false := by decide) :
    PE X (.Call (.Name x p) [] [] pos) (tCall sp [] E0 tNil) := by
  obtain ⟨f, fd, h1, h2, h3, h4⟩ := c.ex
  exact pe_call0 h3 hr hg h1 h2 h4 .nil pass0 hdb
end
end TL

/-! # TL: lists of own lists, and other names for them -/
namespace TL
open PySem L2
open PySem.W (Frag)
section
variable {K : Frag} {w : Wd} {n : Option Nat} {Γ Γ' : Env} {α β γ δ ρ A : Type} {t : Ty α} {u : Ty β} {ta tb te : TE} {ts ts' : TS} {res : ρ → Ent} {nx bk ct : NK} {rt : ρ → Option Nat → Prop}
/-- lists of one's own within a list of one's own, new -/
structure OwnF (w : Wd) (Γ : Env) (σ : L2.St) (B H : Hp) (t : Ty α) (l : Addr) (as : List Addr) (xss : List (List α)) : Prop where
  ob : H l = some (.lst (as.map V.ref))
  b : B l = none
  h0 : w.H0 l = none
  nd : (l :: as).Nodup
  kids : Paired (Kid w B H t) as xss
  df : ∀ a ∈ l :: as, ∀ (i : Nat) e, Γ[i]? = some e → ¬ e.owns σ[i]? a
def WpMM (K : Frag) (w : Wd) (n : Option Nat) (Γ : Env) (te : TE) (t : Ty α) (k : List (List α) → NK) : Prop := ∀ σ B H, Ok K w n Γ σ B H → ∀ Q : VK,
  (∀ xss l as n' Γ' B' H', k xss n' Γ' → Ex B B' → Ok K w n' Γ' σ B' H' → OwnF w Γ' σ B' H' t l as xss → Q (.ref l) H') → te σ H Q
theorem ws_setMM {i : Nat} (h : WpMM K w n Γ te t (fun xss n Γ => ∀ as, as.length = xss.length → SetE (Γ.set i (.mm t as xss)) (nx n))) : WpS K w n Γ (tAsg te (gName i)) res nx bk ct rt := fun σ B H ok D a b c d =>
  h σ B H ok _ fun xss l as n' Γ' B' H' q e o ow => by
    refine a n' _ _ B' H' (q as (pw_len ow.kids)) e (o.setO (e0 := .mm t as xss) ⟨l, rfl, ow.ob, ow.b, ow.h0, ow.nd, ow.kids⟩ fun x hx => ?_)
    rcases hx with hx | hx
    · have : some (some (V.ref l)) = some (some (V.ref x)) := hx
      cases this
      exact ow.df l List.mem_cons_self
    · exact ow.df x (List.mem_cons_of_mem _ hx)
/-- the family is frozen -/
theorem Ok.frzM {σ : L2.St} {B H : Hp} {i : Nat} {as : List Addr} {xss : List (List α)} (k : Ok K w n Γ σ B H) (hi : Γ[i]? = some (.mm t as xss)) :
    ∃ B' l, Ex B B' ∧ σ[i]? = some (some (.ref l)) ∧ (tL (tL t)).rep B' (.ref l) xss ∧ Paired (fun a xs => (tL t).rep B' (.ref a) xs) as xss ∧ Ok K w n (Γ.set i .no) σ B' H := by
  obtain ⟨l, h1, h2, h3, h4, h5, p⟩ := k.sl i _ hi
  have kid := pw_kid p
  have own : ∀ a ∈ l :: as, B a = none ∧ w.H0 a = none ∧ ∃ o, H a = some o := fun a ha => by
    rcases List.mem_cons.mp ha with rfl | ha
    · exact ⟨h3, h4, _, h2⟩
    · obtain ⟨vs, q1, q2, q3⟩ := kid a ha
      exact ⟨q2, q3, _, q1⟩
  let B' : Hp := fun a => if a ∈ l :: as then H a else B a
  have bin : ∀ a ∈ l :: as, B' a = H a := fun a ha => if_pos ha
  have bout : ∀ a, a ∉ l :: as → B' a = B a := fun a ha => if_neg ha
  have eb : Ex B B' := fun a o q => by
    by_cases z : a ∈ l :: as
    · have := (own a z).1; rw [q] at this; cases this
    · rw [bout a z]; exact q
  have kids : Paired (fun a xs => (tL t).rep B' (.ref a) xs) as xss := by
    have gen : ∀ {as' : List Addr} {xss' : List (List α)}, (∀ a ∈ as', a ∈ l :: as) → Paired (Kid w B H t) as' xss' → Paired (fun a xs => (tL t).rep B' (.ref a) xs) as' xss' := fun {as' xss'} hm pp => by
      induction pp with
      | nil => exact .nil
      | cons k r ih =>
        obtain ⟨vs, q1, q2, _⟩ := k
        exact .cons ⟨_, vs, rfl, by rw [bin _ (hm _ List.mem_cons_self)]; exact q1, pw_mono (fun _ _ => t.mono eb) q2⟩ (ih fun a ha => hm a (List.mem_cons_of_mem _ ha))
    exact gen (fun a ha => List.mem_cons_of_mem _ ha) p
  have reps : Paired ((tL t).rep B') (as.map V.ref) xss := by
    have gen : ∀ {as' : List Addr} {xss' : List (List α)}, Paired (fun a xs => (tL t).rep B' (.ref a) xs) as' xss' → Paired ((tL t).rep B') (as'.map V.ref) xss' := fun {as' xss'} pp => by
      induction pp with
      | nil => exact .nil
      | cons k r ih => exact .cons k ih
    exact gen kids
  refine ⟨B', l, eb, h1, ⟨l, _, rfl, by rw [bin l List.mem_cons_self]; exact h2, reps⟩, kids, k.frz eb (fun a o q => ?_) (by rw [List.length_set]) fun j e he => ?_⟩
  · by_cases z : a ∈ l :: as
    · rw [bin a z] at q; exact .inr ⟨q, (own a z).2.1⟩
    · rw [bout a z] at q; exact .inl q
  · rw [List.getElem?_set] at he
    by_cases z : i = j
    · subst z
      rw [if_pos rfl] at he
      split at he
      · cases he; exact .inl rfl
      · cases he
    · rw [if_neg z] at he
      refine .inr ⟨he, fun a ha => ?_⟩
      have nin : a ∉ l :: as := fun q => by
        refine k.ds i j _ _ a z hi he ?_ ha
        rcases List.mem_cons.mp q with rfl | q
        · exact .inl h1
        · exact .inr q
      rw [bout a nin]
      obtain ⟨_, _, hb, _⟩ := (k.sl j e he).owned ha
      exact hb
theorem Ok.imSlot {σ : L2.St} {B H : Hp} {i : Nat} {v : V} {x : α} (k : Ok K w n Γ σ B H) (hs : σ[i]? = some (some v)) (h : t.rep B v x) : Ok K w n (Γ.set i (.im t x)) σ B H := by
  have o2 := k.setIm (i := i) h
  rw [slot_same hs] at o2
  exact o2
/-- a family, and another name for one of it, seen as data -/
theorem view_mm {i : Nat} {as : List Addr} {xss : List (List α)} (hi : Γ[i]? = some (.mm t as xss)) : View K w n Γ n (Γ.set i (.im (tL (tL t)) xss)) := fun σ B H ok => by
  obtain ⟨B', l, eb, hs, rp, _, o⟩ := ok.frzM hi
  have o2 := o.imSlot (i := i) hs rp
  rw [List.set_set] at o2
  exact ⟨B', eb, o2⟩
theorem view_mmAl {i j p : Nat} {a : Addr} {as : List Addr} {xss : List (List α)} {xs : List α} (hi : Γ[i]? = some (.mm t as xss)) (hj : Γ[j]? = some (.al a)) (ha : as[p]? = some a) (hx : xss[p]? = some xs) : View K w n Γ n ((Γ.set i (.im (tL (tL t)) xss)).set j (.im (tL t) xs)) := fun σ B H ok => by
  have hsj : σ[j]? = some (some (.ref a)) := ok.sl j _ hj
  obtain ⟨B', l, eb, hs, rp, kids, o⟩ := ok.frzM hi
  obtain ⟨a', h1, h2⟩ := pw_getR kids hx
  rw [ha] at h1; cases h1
  have o2 := o.imSlot (i := i) hs rp
  rw [List.set_set] at o2
  exact ⟨B', eb, o2.imSlot (i := j) hsj h2⟩
/-- what is read while things of one's own are lent -/
theorem Ok.lendV {σ : L2.St} {B H : Hp} (v : View K w n Γ n Γ') (ok : Ok K w n Γ σ B H) : ∃ B1, Ex B B1 ∧ Ok K ⟨w.d, w.ca, w.cs, B1, H⟩ n (hideE Γ' []) σ B1 H := by
  obtain ⟨B1, e1, o1⟩ := v σ B H ok
  exact ⟨B1, e1, o1.inner []⟩
theorem we_lendV {k : β → NK} (v : View K w n Γ n Γ') (hf : Flat u) (h : ∀ w' : Wd, SetE (hideE Γ' []) fun Γ2 => WpE K w' n Γ2 te u (fun x n' _ => n' = n ∧ k x n Γ)) : WpE K w n Γ te u k := fun σ B H ok Q c => by
  obtain ⟨B1, e1, o1⟩ := Ok.lendV v ok
  exact h _ σ B1 H o1 Q fun x vv n' Γ2 B' H' ⟨hn, q⟩ e o r => by subst hn; exact c x vv _ Γ B H' q (Ex.refl _) (ok.unlend e1 o.nil) (hf _ _ _ _ r)
theorem wt_lendV {tt : TT} {kt kf : NK} (v : View K w n Γ n Γ') (h : ∀ w' : Wd, SetE (hideE Γ' []) fun Γ2 => WpT K w' n Γ2 tt (fun n' _ => n' = n ∧ kt n Γ) (fun n' _ => n' = n ∧ kf n Γ)) : WpT K w n Γ tt kt kf := fun σ B H ok Q ct cf => by
  obtain ⟨B1, e1, o1⟩ := Ok.lendV v ok
  exact h _ σ B1 H o1 Q (fun n' Γ' B' H' ⟨hn, q⟩ e o => by subst hn; exact ct _ Γ B H' q (Ex.refl _) (ok.unlend e1 o.nil)) (fun n' Γ' B' H' ⟨hn, q⟩ e o => by subst hn; exact cf _ Γ B H' q (Ex.refl _) (ok.unlend e1 o.nil))
/-! ### another name for one of the family -/
/-- row = rows[p] -/
theorem ws_alias {i j : Nat} {as : List Addr} {xss : List (List α)} (hi : Γ[i]? = some (.mm t as xss)) (h : WpE K w n Γ tb tI (fun p n Γ' => Γ'[i]? = some (.mm t as xss) ∧ (0 ≤ p ∧ p < xss.length) ∧ ∀ a, as[p.toNat]? = some a → SetE (Γ'.set j (.al a)) (nx n))) :
    WpS K w n Γ (tAsg (tOp (rIx K) (tVar i) tb) (gName j)) res nx bk ct rt := fun σ B H ok D a b c d => by
  obtain ⟨l, h1, _⟩ := ok.sl i _ hi
  refine ⟨_, h1, h σ B H ok _ fun p v n' Γ' B' H' ⟨g, hp, q⟩ e o r => ?_⟩
  obtain ⟨l', k1, k2, k3, k4, k5, kp⟩ := o.sl i _ g
  rw [h1] at k1; cases k1
  have hl : as.length = xss.length := pw_len kp
  have hlt : p.toNat < as.length := by omega
  have ha : as[p.toNat]? = some as[p.toNat] := List.getElem?_eq_getElem hlt
  refine .inl ⟨l, as.map V.ref, p, .ref as[p.toNat], rfl, r, SqL.of k2, ?_, a n' _ _ B' H' (q _ ha) e o.setAl⟩
  rw [atI_int hp.1 (by simpa using hlt)]
  simp
/-- what is one of the family changes -/
theorem Ok.kid {σ : L2.St} {B H : Hp} {i p : Nat} {a : Addr} {as : List Addr} {xss : List (List α)} {vs : List V} {ys : List α} (k : Ok K w n Γ σ B H) (hi : Γ[i]? = some (.mm t as xss)) (ha : as[p]? = some a) (hr : Paired (t.rep B) vs ys) :
    Ok K w n (Γ.set i (.mm t as (xss.set p ys))) σ B (upd H a (.lst vs)) := by
  obtain ⟨l, h1, h2, h3, h4, h5, kp⟩ := k.sl i _ hi
  have il : i < Γ.length := (List.getElem?_eq_some_iff.mp hi).1
  have ham : a ∈ as := List.mem_of_getElem? ha
  obtain ⟨vs0, q1, q2, q3⟩ := pw_kid kp a ham
  have nd := List.nodup_cons.mp h5
  refine k.chg q2 q3 (by rw [List.length_set]) (fun j e he => ?_) (fun x e hx => ?_)
  · rw [List.getElem?_set] at he
    by_cases z : i = j
    · subst z
      rw [if_pos rfl, if_pos il] at he
      cases he
      have la : l ≠ a := fun q => nd.1 (q ▸ ham)
      refine .inl ⟨l, h1, by rw [upd_ne la]; exact h2, h3, h4, h5, ?_⟩
      -- each kid
      have gen : ∀ {as' : List Addr} {xss' : List (List α)} (p' : Nat), as'.Nodup → as'[p']? = some a → Paired (Kid w B H t) as' xss' → Paired (Kid w B (upd H a (.lst vs)) t) as' (xss'.set p' ys) := fun {as' xss'} p' nd' ha' pp => by
        induction pp generalizing p' with
        | nil => simp at ha'
        | @cons b xs as2 xss2 kd r ih =>
          have nd2 := List.nodup_cons.mp nd'
          cases p' with
          | zero =>
            simp at ha'; subst ha'
            refine .cons ⟨vs, upd_same, hr, q2, q3⟩ (pw_kids r (Ex.refl _) fun c hc => ?_)
            obtain ⟨_, _, g2, g3⟩ := pw_kid r c hc
            have cb : c ≠ b := fun q => nd2.1 (by rw [← q]; exact hc)
            exact ⟨by rw [upd_ne cb], g2, g3⟩
          | succ p' =>
            obtain ⟨us, g1, g2, g3, g4⟩ := kd
            have hb : b ≠ a := fun q => nd2.1 (q ▸ List.mem_of_getElem? (by simpa using ha'))
            exact .cons ⟨us, by rw [upd_ne hb]; exact g1, g2, g3, g4⟩ (ih p' nd2.2 (by simpa using ha'))
      exact gen p nd.2 ha kp
    · rw [if_neg z] at he
      exact .inr ⟨he, k.ds i j _ _ a z hi he (.inr ham)⟩
  · rw [List.getElem?_set] at hx
    by_cases z : i = x
    · subst z
      rw [if_pos rfl, if_pos il] at hx
      cases hx
      exact .inr ⟨_, hi, fun a ha => ha⟩
    · rw [if_neg z] at hx
      exact .inr ⟨e, hx, fun a ha => ha⟩
/-- row[k] = e, row another name for the p-th of the family -/
theorem ws_setIxA {i j p : Nat} {a : Addr} {as : List Addr} {xss : List (List α)} {xs : List α} {ti : TE} (hj : Γ[j]? = some (.al a)) (ha : as[p]? = some a) (hx : xss[p]? = some xs)
    (h : WpE K w n Γ te t (fun x n Γ => WpE K w n Γ ti tI (fun k n Γ => Γ[i]? = some (.mm t as xss) ∧ (0 ≤ k ∧ k < xs.length) ∧ SetE (Γ.set i (.mm t as (xss.set p (xs.set k.toNat x)))) (nx n)))) :
    WpS K w n Γ (tAsg te (gSub (tVar j) ti rSetL)) res nx bk ct rt := fun σ B H ok D a' b c d => by
  have hs : σ[j]? = some (some (.ref a)) := ok.sl j _ hj
  refine h σ B H ok _ fun x v n1 Γ1 B1 H1 q1 e1 o1 r1 => ⟨.ref a, hs, ?_⟩
  refine q1 σ B1 H1 o1 _ fun k kv n2 Γ2 B2 H2 ⟨g, hk, q⟩ e2 o2 r2 => ?_
  obtain ⟨l, k1, k2, k3, k4, k5, kp⟩ := o2.sl i _ g
  obtain ⟨a2, g1, vs, g2, g3, _⟩ := pw_getR kp hx
  rw [ha] at g1; cases g1
  refine ⟨a, vs, k, k.toNat, rfl, r2, g2, ?_, a' n2 _ _ B2 _ q (e1.trans e2) (o2.kid g ha (pw_set (t.mono e2 r1) _ g3))⟩
  rw [pw_len g3]
  exact ixN_int hk.1 hk.2
/-- row.append(e) -/
theorem ws_appendA {i j p : Nat} {a : Addr} {as : List Addr} {xss : List (List α)} {xs : List α} (hj : Γ[j]? = some (.al a)) (hi0 : Γ[i]? = some (.mm t as xss)) (ha : as[p]? = some a) (hx : xss[p]? = some xs)
    (h : WpE K w n Γ te t (fun x n' Γ' => Γ'[i]? = some (.mm t as xss) ∧ xs.length < 100000 ∧ SetE (Γ'.set i (.mm t as (xss.set p (xs ++ [x])))) (nx n'))) :
    WpS K w n Γ (tDrop (tBM K "list" rAppend (tVar j) (tCons te tNil))) res nx bk ct rt := fun σ B H ok D a' b c d => by
  have hs : σ[j]? = some (some (.ref a)) := ok.sl j _ hj
  obtain ⟨l0, _, _, _, _, _, kp0⟩ := ok.sl i _ hi0
  obtain ⟨a0, g10, vs0, g20, _⟩ := pw_getR kp0 hx
  rw [ha] at g10; cases g10
  refine ⟨.ref a, hs, .inl ⟨rfl, vs0, .inl (.inl g20)⟩, h σ B H ok _ fun x v n' Γ' B' H' ⟨g, hz, q⟩ e o r => ?_⟩
  obtain ⟨l, k1, k2, k3, k4, k5, kp⟩ := o.sl i _ g
  obtain ⟨a2, g1, vs, g2, g3, _⟩ := pw_getR kp hx
  rw [ha] at g1; cases g1
  exact ⟨a, vs, v, rfl, rfl, g2, by rw [pw_len g3]; exact szl hz, a' n' _ _ B' _ q e (o.kid g ha (pw_snoc g3 r))⟩
/-- an assignment of one of two -/
theorem ws_asgIf {tt : TT} {g : TG} (h : WpT K w n Γ tt (fun n Γ => WpS K w n Γ (tAsg ta g) res nx bk ct rt) (fun n Γ => WpS K w n Γ (tAsg tb g) res nx bk ct rt)) : WpS K w n Γ (tAsg (tIf tt ta tb) g) res nx bk ct rt := fun σ B H ok D a b c d =>
  h σ B H ok _ (fun n1 Γ1 B1 H1 q e o => by
    show ta σ H1 _
    exact q σ B1 H1 o D (fun n' Γ' σ' B' H' q e' => a n' Γ' σ' B' H' q (e.trans e')) (fun n' Γ' σ' B' H' q e' => b n' Γ' σ' B' H' q (e.trans e'))
      (fun n' Γ' σ' B' H' q e' => c n' Γ' σ' B' H' q (e.trans e')) (fun x v n' B' H' q e' => d x v n' B' H' q (e.trans e'))) fun n1 Γ1 B1 H1 q e o => by
    show tb σ H1 _
    exact q σ B1 H1 o D (fun n' Γ' σ' B' H' q e' => a n' Γ' σ' B' H' q (e.trans e')) (fun n' Γ' σ' B' H' q e' => b n' Γ' σ' B' H' q (e.trans e'))
      (fun n' Γ' σ' B' H' q e' => c n' Γ' σ' B' H' q (e.trans e')) (fun x v n' B' H' q e' => d x v n' B' H' q (e.trans e'))
/-- [own lists for ..]: a family of one's own -/
theorem wm_lcM {wi : TI} {g : TG} {vs : List Nat} {kk : List (List β) → NK} (u : Ty β) (I : List α → Nat → List (List β) → Option Nat → Prop) (hg : GSl g vs)
    (h : WpI K w n Γ wi t (fun xs n Γ => For3 (I xs 0 [] n) (∀ (w' : Wd) (i : Nat) x yss n, w'.d = w.d → w'.ca = w.ca → w'.cs = w.cs → xs[i]? = some x → I xs i yss n →
      SetE (hideE Γ vs) fun Γh => WpG K w' n Γh g t x (fun n Γ => WpM K w' n Γ te (fun r n _ => ∃ ys, r = rL u ys ∧ yss.length < 100000 ∧ I xs (i + 1) (yss ++ [ys]) n)))
      (∀ yss n, I xs xs.length yss n → kk yss n Γ))) : WpMM K w n Γ (tLc wi g tYes te vs) u kk := fun σ B H ok Q c =>
  h σ B H ok _ fun xs J n0 Γ0 B0 H0 ⟨hu, hs, he⟩ e0 o0 it => by
    intro D hD
    have ownD := Own.new (r := rL u []) (o := .lst []) o0 hD ⟨[], rfl, .nil⟩
    refine ⟨fun i m H => m + i = xs.length ∧ ∃ yss n B1 as, I xs i yss n ∧ Ex B0 B1 ∧ Ok K w n Γ0 σ B1 H ∧ OwnF w Γ0 σ B1 H u D as yss, ?_, ?_⟩
    · refine ⟨xs.length, rfl, [], n0, B0, [], hu, Ex.refl _, o0.grow (Grow.open o0.ex hD), ⟨upd_same, ownD.b, ownD.h0, by simp, .nil, fun a ha i e hi z => ?_⟩⟩
      rw [List.mem_singleton.mp ha] at z
      exact ownD.df i e hi z
    · rintro i m H1 ⟨hm, yss, n1, B1, as, hI, e1, o1, ow⟩
      by_cases hi : i < xs.length
      · refine .inr ⟨it.go i H1 (e1.trans o1.ex) hi, fun H' => ∃ yss n B1 as, I xs (i + 1) yss n ∧ Ex B0 B1 ∧ Ok K w n Γ0 σ B1 H' ∧ OwnF w Γ0 σ B1 H' u D as yss, ?_, ?_⟩
        · rintro H' hN
          exact ⟨m - 1, by omega, by omega, hN⟩
        · intro v H' hy
          obtain ⟨B2, gr, rp⟩ := it.yld i _ H1 B1 v H' (List.getElem?_eq_getElem hi) e1 o1.ex hy
          have o2 := o1.grow gr
          have kid1 := pw_kid ow.kids
          have all1 : ∀ a ∈ D :: as, ∃ o, H1 a = some o ∧ B1 a = none ∧ w.H0 a = none := fun a ha => by
            rcases List.mem_cons.mp ha with rfl | ha
            · exact ⟨_, ow.ob, ow.b, ow.h0⟩
            · obtain ⟨us, q1, q2, q3⟩ := kid1 a ha
              exact ⟨_, q1, q2, q3⟩
          have all2 : ∀ a ∈ D :: as, ∃ o, H' a = some o ∧ B2 a = none ∧ w.H0 a = none ∧ H1 a = some o := fun a ha => by
            obtain ⟨o, q1, q2, q3⟩ := all1 a ha
            exact ⟨o, gr.h _ _ q1, gr.none q2 q1, q3, q1⟩
          have ned : ∀ a ∈ D :: as, a ≠ w.d := fun a ha z => by
            obtain ⟨_, _, _, q3, _⟩ := all2 a ha
            exact noS q3 (z ▸ o1.hd)
          have key := hs ⟨w.d, w.ca, w.cs, B2, H'⟩ i _ yss n1 rfl rfl rfl (List.getElem?_eq_getElem hi) hI (wipe σ vs) B2 H' (o2.inner vs) v rp _ fun n3 Γ3 σ3 B3 H3 q3 e3 o3 => (by
            show (fun (b : Bool) H3 => if b = true then te σ3 H3 (fun y H4 => ∃ acc, H4 D = some (.lst acc) ∧ acc.length < sizeLine ∧ ∃ yss n B1 as, I xs (i + 1) yss n ∧ Ex B0 B1 ∧ Ok K w n Γ0 σ B1 (upd H4 D (.lst (acc ++ [y]))) ∧ OwnF w Γ0 σ B1 (upd H4 D (.lst (acc ++ [y]))) u D as yss) else ∃ yss n B1 as, I xs (i + 1) yss n ∧ Ex B0 B1 ∧ Ok K w n Γ0 σ B1 H3 ∧ OwnF w Γ0 σ B1 H3 u D as yss) true H3
            show if true = true then _ else _
            rw [if_pos rfl]
            refine q3 σ3 B3 H3 o3 _ fun r l n5 Γ5 B5 H5 ⟨ys, hr, hz, hI5⟩ e5 o5 own5 => ?_
            subst hr
            have c5 := o5.nil
            have ok5 : Ok K w n5 Γ0 σ B5 H5 := o2.back c5
            have ex25 : Ex B2 B5 := e3.trans e5
            have all5 : ∀ a ∈ D :: as, H5 a = H1 a ∧ B5 a = none ∧ w.H0 a = none := fun a ha => by
              obtain ⟨o, q1, q2, q3, q4⟩ := all2 a ha
              refine ⟨by rw [q4]; exact c5.kp a o q1 (ned a ha), ?_, q3⟩
              cases q : B5 a with
              | none => rfl
              | some z =>
                rcases c5.nw a z q with r | r
                · have r' : B2 a = some z := r
                  rw [q2] at r'; cases r'
                · have r' : H' a = none := r
                  rw [q1] at r'; cases r'
            obtain ⟨⟨ob, p1, us, rfl, pu⟩, p2, p3, p4⟩ := own5
            have p3' : H' l = none := p3
            have nl : l ∉ D :: as := fun q => by
              obtain ⟨_, q1, _⟩ := all2 l q
              rw [p3'] at q1; cases q1
            have l0 : w.H0 l = none := by
              cases q : w.H0 l with
              | none => rfl
              | some z =>
                have ne : l ≠ w.d := fun zz => noS p3' (zz ▸ o2.hh)
                rw [o2.kp l z q ne] at p3'; cases p3'
            have hD5 := all5 D List.mem_cons_self
            have lD : l ≠ D := fun q => nl (q ▸ List.mem_cons_self)
            refine ⟨as.map V.ref, by rw [hD5.1]; exact ow.ob, by rw [List.length_map, pw_len ow.kids]; exact szl hz, yss ++ [ys], n5, B5, as ++ [l], hI5, (e1.trans gr.b).trans ex25, ?_, ?_⟩
            · exact ok5.chg hD5.2.1 hD5.2.2 rfl (fun j e q => .inr ⟨q, ow.df D List.mem_cons_self j e q⟩) (fun x e q => .inr ⟨e, q, fun a ha => ha⟩)
            · refine ⟨by rw [upd_same, List.map_append]; rfl, hD5.2.1, hD5.2.2, ?_, ?_, ?_⟩
              · have nd := ow.nd
                rw [← List.cons_append, List.nodup_append]
                exact ⟨nd, by simp, fun a ha b hb z => nl (by rw [List.mem_singleton.mp hb] at z; rw [← z]; exact ha)⟩
              · refine pw_snoc (pw_kids ow.kids ((gr.b).trans ex25) fun a ha => ?_) ⟨us, by rw [upd_ne lD]; exact p1, pu, p2, l0⟩
                obtain ⟨q1, q2, q3⟩ := all5 a (List.mem_cons_of_mem _ ha)
                have aD : a ≠ D := fun q => (List.nodup_cons.mp ow.nd).1 (by rw [← q]; exact ha)
                exact ⟨by rw [upd_ne aD]; exact q1, q2, q3⟩
              · intro a ha j e hj z
                rw [← List.cons_append] at ha
                rcases List.mem_append.mp ha with q | q
                · exact ow.df a q j e hj z
                · rw [List.mem_singleton.mp q] at z
                  obtain ⟨o', q1, _⟩ := (o2.sl j e hj).owned z
                  rw [p3'] at q1; cases q1)
          have key2 := hg v (wipe σ vs) H' _ key
          have ww : wipe (wipe σ vs) vs = wipe σ vs := by
            have gen : ∀ (us : List Nat) (τ : L2.St), (∀ i ∈ us, ∀ x, τ[i]? = some x → x = none) → wipe τ us = τ := fun us => by
              induction us with
              | nil => intro τ _; rfl
              | cons a us ih =>
                intro τ hτ
                unfold wipe
                rw [ih τ fun i hi => hτ i (by simp [hi])]
                apply List.ext_getElem?
                intro j
                rw [List.getElem?_set]
                split
                · rename_i z; subst z
                  split
                  · rename_i z
                    have := hτ a (by simp) τ[a] (List.getElem?_eq_getElem z)
                    rw [List.getElem?_eq_getElem z, this]
                  · rename_i z; exact (List.getElem?_eq_none_iff.mpr (by omega)).symm
                · rfl
            refine gen vs _ fun i hi x hx => ?_
            cases x with
            | none => rfl
            | some y => exact absurd hi (wipe_some hx).2
          rw [ww] at key2
          exact key2
      · have hi2 : i = xs.length := by omega
        subst hi2
        exact .inl ⟨it.stop H1 (e1.trans o1.ex), c _ D as n1 Γ0 B1 H1 (he yss n1 hI) (e0.trans e1) o1 ow⟩
end
end TL

/-! # TL: pops; instances that stay as they are made -/
namespace TL
open PySem L2
open PySem.W (Frag)
section
variable {K : Frag} {w : Wd} {n : Option Nat} {Γ Γ' : Env} {α β γ δ ρ A : Type} {t : Ty α} {u : Ty β} {ta tb te : TE} {ts ts' : TS} {res : ρ → Ent} {nx bk ct : NK} {rt : ρ → Option Nat → Prop}
theorem last_get {vs : List α} (h : vs ≠ []) : ∃ y, vs[vs.length - 1]? = some y := by
  have := List.length_pos_iff.mpr h
  exact ⟨_, List.getElem?_eq_getElem (by omega)⟩
/-- xs.pop() -/
theorem ws_pop {i : Nat} {xs : List α} (hi : Γ[i]? = some (.ml t xs)) (hne : xs ≠ []) (h : SetE (Γ.set i (.ml t xs.dropLast)) (nx n)) : WpS K w n Γ (tDrop (tBM0 K "list" rPop (tVar i))) res nx bk ct rt := fun σ B H ok D a b c d => by
  obtain ⟨l, o, h1, h2, h3, h4, vs, rfl, p⟩ := ok.sl i _ hi
  have hv : vs ≠ [] := fun z => by
    have := pw_len p
    rw [z] at this
    exact hne (List.length_eq_zero_iff.mp this.symm)
  obtain ⟨y, hy⟩ := last_get hv
  exact ⟨.ref l, h1, .inl ⟨rfl, vs, .inl (.inl h2)⟩, l, vs, y, rfl, rfl, h2, hy, a n _ _ B _ h (Ex.refl _) (ok.put (r' := rL t xs.dropLast) hi h1 ⟨vs.dropLast, rfl, pw_dropLast p⟩)⟩
/-- row.pop(), row another name -/
theorem ws_popA {i j p : Nat} {a : Addr} {as : List Addr} {xss : List (List α)} {xs : List α} (hj : Γ[j]? = some (.al a)) (hi : Γ[i]? = some (.mm t as xss)) (ha : as[p]? = some a) (hx : xss[p]? = some xs) (hne : xs ≠ [])
    (h : SetE (Γ.set i (.mm t as (xss.set p xs.dropLast))) (nx n)) : WpS K w n Γ (tDrop (tBM0 K "list" rPop (tVar j))) res nx bk ct rt := fun σ B H ok D a' b c d => by
  have hs : σ[j]? = some (some (.ref a)) := ok.sl j _ hj
  obtain ⟨l, k1, k2, k3, k4, k5, kp⟩ := ok.sl i _ hi
  obtain ⟨a2, g1, vs, g2, g3, _⟩ := pw_getR kp hx
  rw [ha] at g1; cases g1
  have hv : vs ≠ [] := fun z => by
    have := pw_len g3
    rw [z] at this
    exact hne (List.length_eq_zero_iff.mp this.symm)
  obtain ⟨y, hy⟩ := last_get hv
  exact ⟨.ref a, hs, .inl ⟨rfl, vs, .inl (.inl g2)⟩, a, vs, y, rfl, rfl, g2, hy, a' n _ _ B _ h (Ex.refl _) (ok.kid hi ha (pw_dropLast g3))⟩
/-- rows.pop() -/
theorem ws_popM {i : Nat} {as : List Addr} {xss : List (List α)} (hi : Γ[i]? = some (.mm t as xss)) (hne : xss ≠ []) (h : SetE (Γ.set i (.mm t as.dropLast xss.dropLast)) (nx n)) : WpS K w n Γ (tDrop (tBM0 K "list" rPop (tVar i))) res nx bk ct rt := fun σ B H ok D a b c d => by
  obtain ⟨l, h1, h2, h3, h4, h5, kp⟩ := ok.sl i _ hi
  have il : i < Γ.length := (List.getElem?_eq_some_iff.mp hi).1
  have hv : as.map V.ref ≠ [] := fun z => by
    have := pw_len kp
    rw [List.map_eq_nil_iff.mp z] at this
    exact hne (List.length_eq_zero_iff.mp this.symm)
  obtain ⟨y, hy⟩ := last_get hv
  have sub : ∀ x ∈ as.dropLast, x ∈ as := fun x hx => List.dropLast_subset as hx
  have nd := List.nodup_cons.mp h5
  have nd2 : (l :: as.dropLast).Nodup := List.nodup_cons.mpr ⟨fun q => nd.1 (sub _ q), nd.2.sublist (List.dropLast_sublist as)⟩
  refine ⟨.ref l, h1, .inl ⟨rfl, _, .inl (.inl h2)⟩, l, _, y, rfl, rfl, h2, hy, a n _ _ B _ h (Ex.refl _) (ok.chg h3 h4 (by rw [List.length_set]) (fun j e he => ?_) (fun x e hx => ?_))⟩
  · rw [List.getElem?_set] at he
    by_cases z : i = j
    · subst z
      rw [if_pos rfl, if_pos il] at he
      cases he
      refine .inl ⟨l, h1, by rw [upd_same, List.map_dropLast], h3, h4, nd2, pw_kids (pw_dropLast kp) (Ex.refl _) fun x hx => ?_⟩
      obtain ⟨_, _, g2, g3⟩ := pw_kid kp x (sub x hx)
      have xl : x ≠ l := fun q => nd.1 (by rw [← q]; exact sub x hx)
      exact ⟨by rw [upd_ne xl], g2, g3⟩
    · rw [if_neg z] at he
      exact .inr ⟨he, ok.ds i j _ _ l z hi he (.inl h1)⟩
  · rw [List.getElem?_set] at hx
    by_cases z : i = x
    · subst z
      rw [if_pos rfl, if_pos il] at hx
      cases hx
      refine .inr ⟨_, hi, fun a ha => ?_⟩
      rcases ha with ha | ha
      · exact .inl ha
      · exact .inr (sub a ha)
    · rw [if_neg z] at hx
      exact .inr ⟨e, hx, fun a ha => ha⟩
/-! ### instances -/
/-- an instance of C that nobody changes any more; F: its fields -/
def tIns (C : Addr) (F : Hp → List (Str × V) → α → Prop) (mono : ∀ {B B' : Hp} {fs : List (Str × V)} {x : α}, Ex B B' → F B fs x → F B' fs x) : Ty α := ⟨fun B v x => ∃ a dx fs, v = .ref a ∧ B a = some (.ins C dx fs) ∧ F B fs x,
  fun e ⟨a, dx, fs, h, s, f⟩ => ⟨a, dx, fs, h, e _ _ s, mono e f⟩⟩
/-- x.f -/
theorem we_fld {C : Addr} {F : Hp → List (Str × V) → α → Prop} {mono : ∀ {B B' : Hp} {fs : List (Str × V)} {x : α}, Ex B B' → F B fs x → F B' fs x} {f : Str} {g : α → β} {k : β → NK} (cl : Cls K C) (na : NoAttr K C f) (hf : ∀ B fs x, F B fs x → ∃ y, fs.lookup f = some y ∧ u.rep B y (g x))
    (h : WpE K w n Γ ta (tIns C F mono) (fun x n Γ => k (g x) n Γ)) : WpE K w n Γ (tFld K ta f) u k := fun σ B H ok Q c =>
  h σ B H ok _ fun x v n1 Γ1 B1 H1 q e o ⟨a, dx, fs, h1, h2, h3⟩ => by
    obtain ⟨y, h4, h5⟩ := hf _ _ _ h3
    exact ⟨a, C, dx, fs, y, h1, o.ex _ _ h2, cl, na, h4, c _ y n1 Γ1 B1 H1 q e o h5⟩
/-- x.m(..), a promise over the instance and the arguments; nothing is drawn -/
theorem we_meth {C : Addr} {F : Hp → List (Str × V) → α → Prop} {mono : ∀ {B B' : Hp} {fs : List (Str × V)} {x : α}, Ex B B' → F B fs x → F B' fs x} {m : Str} {S : FS K} {R : TyA A} {E : XK} {tr : TA} {s : Ty S.ρ} {k : S.ρ → NK}
    (hS : S.A = (α × A)) (hargs : HEq S.args (aCons (tIns C F mono) R)) (hres : S.res = fun x => .im s x) (hc : S.cost = 0) (hno : ∀ B fs x, F B fs x → fs.lookup m = none)
    (h : WpE K w n Γ ta (tIns C F mono) (fun x n Γ => WpA K w n Γ tr R (fun a n Γ => S.pre (cast hS.symm (x, a)) ∧ ∀ r, S.post (cast hS.symm (x, a)) r → k r n Γ))) : WpE K w n Γ (tMeth C m S.sp [] E ta tr) s k := by
  obtain ⟨SA, Sargs, Sρ, Sres, Scost, Spre, Spost⟩ := S
  dsimp only at hS hargs hres hc h s k
  subst hS
  cases hargs
  subst hres; subst hc
  exact fun σ B H ok Q c => h σ B H ok _ fun x v n1 Γ1 B1 H1 q1 e1 o1 r1 => by
    obtain ⟨a, dx, fs, h1, h2, h3⟩ := r1
    subst h1
    refine ⟨a, dx, fs, rfl, o1.ex _ _ h2, hno _ _ _ h3, q1 σ B1 H1 o1 _ fun y vs n2 Γ2 B2 H2 ⟨hp, q⟩ e2 o2 r2 => ?_⟩
    rw [List.append_nil]
    refine ⟨w.d, w.ca, w.cs, n2, B2, (x, y), o2.entry, ⟨.ref a, vs, rfl, ⟨a, dx, fs, rfl, e2 _ _ h2, mono e2 h3⟩, r2⟩, hp, .inl rfl, fun r v' n' B' H' hx hcc e' o' sl => ?_⟩
    obtain ⟨v2, g1, g2⟩ := sl
    cases g1
    rcases hcc with ⟨_, rfl⟩ | ⟨mm, rfl, rfl⟩
    · exact c r v' _ Γ2 B' H' (q r hx) ((e1.trans e2).trans e') (o2.back o') g2
    · exact c r v' _ Γ2 B' H' (q r hx) ((e1.trans e2).trans e') (o2.back o') g2
end
/-! ### classes of the text, by their promises -/
/-- C(..) -/
structure MadeBy (P : Program) (w : World) (K : Frag) (mg : Str → Option Value) (base : Heap) (CX : CXT) (k : Nat) (C : Addr) (x : Str) (ps : List Str) (sp : Sp) : Prop where
  ex : ∃ f fd, Mk K C f ∧ mg x = some (.ref C) ∧ FnOk P w K mg base CX k f fd ps sp ∧ Binds K fd ps []
/-- o.m(..) -/
structure MethBy (P : Program) (w : World) (K : Frag) (mg : Str → Option Value) (base : Heap) (CX : CXT) (k : Nat) (C : Addr) (m : Str) (ps : List Str) (sp : Sp) : Prop where
  cl : Cls K C
  ex : ∃ f fd, Meth K C m f ∧ FnOk P w K mg base CX k f fd ps sp ∧ Binds K fd ps []
section
variable {X : Cx} {k : Nat} {C : Addr} {x m : Str} {ps : List Str} {sp : Sp} {p pos apos : Pos} {o e : Expr} {es : List Expr} {t : TA} {ta : TE}
theorem pe_makeC (c : MadeBy X.prog X.w X.K X.mg X.base CX0 k C x ps sp) (hr : Room (k + 1) X.A) (hg : Gl X x) (ha : PA X (e :: es) t) (hdb : (x == ("__debug__" : Str)) = false := by decide) (he : starEach (e :: es) X.env = (false, eval e X.env) :: starEach es X.env := by rfl) (hpl : (backTo pos (starEach es X.env)).any (·.1) = false := by rfl) :
    PE X (.Call (.Name x p) (e :: es) [] pos) (tMake C sp [] E0 t) := by
  obtain ⟨f, fd, h1, h2, h3, h4⟩ := c.ex
  exact pe_make h1 h3 hr hg h2 h4 .nil pass0 ha hdb he hpl
theorem pe_methC {pl : Sem Bool} (he : PE X o ta) (c : MethBy X.prog X.w X.K X.mg X.base CX0 k C m ps sp) (hr : Room k X.A) (ha : PA X (e :: es) t)
    (hst : starEach (e :: es) X.env = (false, eval e X.env) :: starEach es X.env := by rfl) (hpl : (backTo pos (starEach es X.env)).any (·.1) = false := by rfl)
    (ht : eval (.Call (.Attribute o m apos) (e :: es) [] pos) X.env = (do
      let ov ← eval o X.env
      standAt apos.atName
      let (f, first) ← holding [ov] (getMethod ov m pl)
      callWith pos f first (backTo pos (starEach (e :: es) X.env)) (backToKw pos (keywordEach [] X.env))) := by rfl) :
    PE X (.Call (.Attribute o m apos) (e :: es) [] pos) (tMeth C m sp [] E0 ta t) := by
  obtain ⟨f, fd, h1, h2, h3⟩ := c.ex
  exact pe_meth (pl := pl) he c.cl h1 h2 hr h3 .nil pass0 ha hst hpl ht
end
end TL

/-! # TL: four at once -/
namespace TL
open PySem L2
open PySem.W (Frag)
section
variable {K : Frag} {w : Wd} {n : Option Nat} {Γ Γ' : Env} {α β γ δ ρ A : Type} {t : Ty α} {u : Ty β} {s : Ty γ} {r : Ty δ} {ta tb tc td te : TE} {ts ts' : TS} {res : ρ → Ent} {nx bk ct : NK} {rt : ρ → Option Nat → Prop}
theorem we_tup4 {k : α × β × γ × δ → NK} (h : WpE K w n Γ ta t (fun x n Γ => WpE K w n Γ tb u (fun y n Γ => WpE K w n Γ tc s (fun z n Γ => WpE K w n Γ td r (fun q n Γ => k (x, y, z, q) n Γ))))) : WpE K w n Γ (tTup (tCons ta (tCons tb (tCons tc (tCons td tNil))))) (tP4 t u s r) k :=
  we_tupN (A := α × β × γ × δ) (T := ⟨fun d B vs a => ∃ v v' v2 v3, vs = [v, v', v2, v3] ∧ t.rep B v a.1 ∧ u.rep B v' a.2.1 ∧ s.rep B v2 a.2.2.1 ∧ r.rep B v3 a.2.2.2, fun e ⟨v, v', v2, v3, h, h1, h2, h3, h4⟩ => ⟨v, v', v2, v3, h, t.mono e h1, u.mono e h2, s.mono e h3, r.mono e h4⟩⟩)
    (fun d B vs a p ⟨v, v', v2, v3, h, h1, h2, h3, h4⟩ hp => by subst h; exact ⟨p, v, v', v2, v3, rfl, upd_same, t.mono (Ex.new hp) h1, u.mono (Ex.new hp) h2, s.mono (Ex.new hp) h3, r.mono (Ex.new hp) h4⟩) (fun d B vs a ⟨v, v', v2, v3, h, _⟩ => by subst h; exact (by decide : 4 ≤ 100000))
    (fun σ B H ok Q c => h σ B H ok _ fun x v n1 Γ1 B1 H1 q1 e1 o1 r1 => q1 σ B1 H1 o1 _ fun y v' n2 Γ2 B2 H2 q2 e2 o2 r2 => q2 σ B2 H2 o2 _ fun z v2 n3 Γ3 B3 H3 q3 e3 o3 r3 => q3 σ B3 H3 o3 _ fun q v3 n4 Γ4 B4 H4 q4 e4 o4 r4 =>
      c (x, y, z, q) _ n4 Γ4 B4 H4 q4 (((e1.trans e2).trans e3).trans e4) o4 ⟨v, v', v2, v3, rfl, t.mono ((e2.trans e3).trans e4) r1, u.mono (e3.trans e4) r2, s.mono e4 r3, r4⟩)
/-- one's own family, used as a datum from here on -/
theorem we_varMM {i : Nat} {as : List Addr} {xss : List (List α)} {k : List (List α) → NK} (h : Γ[i]? = some (.mm t as xss)) (q : SetE (Γ.set i (.im (tL (tL t)) xss)) (k xss n)) : WpE K w n Γ (tVar i) (tL (tL t)) k := fun σ B H ok Q c => by
  obtain ⟨B', l, eb, hs, rp, _, o⟩ := ok.frzM h
  have o2 := o.imSlot (i := i) hs rp
  rw [List.set_set] at o2
  exact ⟨_, hs, c xss _ n _ _ H q eb o2 rp⟩
/-! ### what is made while something new stands nowhere yet: in a world of its own -/
theorem Own.back {σ : L2.St} {B H B' H' : Hp} {r : Rs} {l : Addr} {n' : Option Nat} (h : Own w Γ σ B H r l) (o : Ok K w n Γ σ B H) (c : Ok K ⟨w.d, w.ca, w.cs, B, H⟩ n' [] [] B' H') : Own w Γ σ B' H' r l := by
  have ned := h.ned o
  obtain ⟨⟨ob, h1, h2⟩, h3, h4, h5⟩ := h
  refine ⟨⟨ob, c.kp l ob h1 ned, r.mono c.ex0 h2⟩, ?_, h4, h5⟩
  cases q : B' l with
  | none => rfl
  | some u =>
    rcases c.nw l u q with z | z
    · have z' : B l = some u := z
      rw [h3] at z'; cases z'
    · have z' : H l = none := z
      rw [h1] at z'; cases z'
theorem new_h0 {σ : L2.St} {B H : Hp} {l : Addr} (o : Ok K w n Γ σ B H) (hl : H l = none) : w.H0 l = none := by
  cases q : w.H0 l with
  | none => rfl
  | some z =>
    have ne : l ≠ w.d := fun zz => noS hl (zz ▸ o.hh)
    rw [o.kp l z q ne] at hl; cases hl
theorem Own.out {Γi : Env} {σ σi : L2.St} {B H B' H' : Hp} {r : Rs} {l : Addr} (h : Own ⟨w.d, w.ca, w.cs, B, H⟩ Γi σi B' H' r l) (o : Ok K w n Γ σ B H) : Own w Γ σ B' H' r l := by
  obtain ⟨h1, h3, h4, _⟩ := h
  have h4' : H l = none := h4
  refine ⟨h1, h3, new_h0 o h4', fun i e he z => ?_⟩
  obtain ⟨o', q1, _⟩ := (o.sl i e he).owned z
  rw [h4'] at q1; cases q1
theorem OwnF.out {Γi : Env} {σ σi : L2.St} {B H B' H' : Hp} {l : Addr} {as : List Addr} {xss : List (List α)} (h : OwnF ⟨w.d, w.ca, w.cs, B, H⟩ Γi σi B' H' t l as xss) (o : Ok K w n Γ σ B H) : OwnF w Γ σ B' H' t l as xss ∧ ∀ a ∈ l :: as, H a = none := by
  have new : ∀ a ∈ l :: as, H a = none := fun a ha => by
    rcases List.mem_cons.mp ha with rfl | ha
    · exact h.h0
    · obtain ⟨_, _, _, q⟩ := pw_kid h.kids a ha
      exact q
  refine ⟨⟨h.ob, h.b, new_h0 o (new l List.mem_cons_self), h.nd, pw_kids h.kids (Ex.refl _) fun a ha => ?_, fun a ha i e he z => ?_⟩, new⟩
  · obtain ⟨_, _, q2, _⟩ := pw_kid h.kids a ha
    exact ⟨rfl, q2, new_h0 o (new a (List.mem_cons_of_mem _ ha))⟩
  · obtain ⟨o', q1, _⟩ := (o.sl i e he).owned z
    rw [new a ha] at q1; cases q1
theorem OwnF.back {σ : L2.St} {B H B' H' : Hp} {l : Addr} {as : List Addr} {xss : List (List α)} {n' : Option Nat} (h : OwnF w Γ σ B H t l as xss) (o : Ok K w n Γ σ B H) (c : Ok K ⟨w.d, w.ca, w.cs, B, H⟩ n' [] [] B' H') : OwnF w Γ σ B' H' t l as xss := by
  have all : ∀ a ∈ l :: as, ∃ ob, H a = some ob ∧ B a = none ∧ w.H0 a = none := fun a ha => by
    rcases List.mem_cons.mp ha with rfl | ha
    · exact ⟨_, h.ob, h.b, h.h0⟩
    · obtain ⟨_, q1, q2, q3⟩ := pw_kid h.kids a ha
      exact ⟨_, q1, q2, q3⟩
  have all2 : ∀ a ∈ l :: as, H' a = H a ∧ B' a = none ∧ w.H0 a = none := fun a ha => by
    obtain ⟨ob, q1, q2, q3⟩ := all a ha
    have ned : a ≠ w.d := fun z => noS q3 (z ▸ o.hd)
    refine ⟨by rw [q1]; exact c.kp a ob q1 ned, ?_, q3⟩
    cases q : B' a with
    | none => rfl
    | some u =>
      rcases c.nw a u q with z | z
      · have z' : B a = some u := z
        rw [q2] at z'; cases z'
      · have z' : H a = none := z
        rw [q1] at z'; cases z'
  have hl := all2 l List.mem_cons_self
  exact ⟨by rw [hl.1]; exact h.ob, hl.2.1, h.h0, h.nd, pw_kids h.kids c.ex0 fun a ha => all2 a (List.mem_cons_of_mem _ ha), h.df⟩
theorem get_set.{v} {β : Type v} {l : List β} {i j : Nat} {x y : β} (h : (l.set i x)[j]? = some y) : (i = j ∧ y = x ∧ i < l.length) ∨ (i ≠ j ∧ l[j]? = some y) := by
  rw [List.getElem?_set] at h
  by_cases z : i = j
  · subst z
    rw [if_pos rfl] at h
    split at h
    · rename_i il; cases h; exact .inl ⟨rfl, rfl, il⟩
    · cases h
  · rw [if_neg z] at h; exact .inr ⟨z, h⟩
/-- a, b, c = (own list), (own family), (own list); nothing is drawn, and what is one's own is not read -/
theorem ws_par3M {i j l : Nat} (h : WpM K w n Γ ta (fun r1 n1 Γ1 => n1 = n ∧ Γ1 = Γ ∧ ∀ w' : Wd, SetE (hideE Γ []) fun Γh => WpMM K w' n Γh tb u (fun xss n2 _ => n2 = n ∧ ∀ w2 : Wd, SetE (hideE Γ []) fun Γh => WpM K w2 n Γh tc (fun r2 n3 _ => n3 = n ∧ ∀ as, as.length = xss.length → SetE (((Γ.set i (.mu r1)).set j (.mm u as xss)).set l (.mu r2)) (nx n))))) :
    WpS K w n Γ (tPar3 i j l (tCons ta (tCons tb (tCons tc tNil)))) res nx bk ct rt := fun σ B H ok D a b c d =>
  h σ B H ok _ fun r1 l1 n1 Γ1 B1 H1 ⟨hn1, hg1, q1⟩ e1 o1 ow1 => by
    subst hn1; subst hg1
    refine q1 ⟨w.d, w.ca, w.cs, B1, H1⟩ σ B1 H1 (o1.inner []) _ fun xss l2 as n2 Γ2 B2 H2 ⟨hn2, q2⟩ e2 o2 ow2 => ?_
    subst hn2
    have ok2 := o1.back o2.nil
    have ow1b := ow1.back o1 o2.nil
    obtain ⟨ow2b, new2⟩ := ow2.out o1
    refine q2 ⟨w.d, w.ca, w.cs, B2, H2⟩ σ B2 H2 (ok2.inner []) _ fun r2 l3 n3 Γ3 B3 H3 ⟨hn3, q3⟩ e3 o3 ow3 => ?_
    subst hn3
    have ok3 := ok2.back o3.nil
    have ow1c := ow1b.back ok2 o3.nil
    have ow2c := ow2b.back ok2 o3.nil
    have ow3c := ow3.out ok2
    have h3n : H2 l3 = none := ow3.h0
    have i1 : ∃ ob, H1 l1 = some ob := ⟨_, ow1.ob.choose_spec.1⟩
    have i2 : ∃ ob, H2 l1 = some ob := ⟨_, ow1b.ob.choose_spec.1⟩
    have ne1 : ∀ x ∈ l2 :: as, x ≠ l1 := fun x hx z => by
      obtain ⟨ob, q⟩ := i1
      rw [← z, new2 x hx] at q; cases q
    have ne3 : l3 ≠ l1 := fun z => by
      obtain ⟨ob, q⟩ := i2
      rw [← z, h3n] at q; cases q
    have ne23 : ∀ x ∈ l2 :: as, x ≠ l3 := fun x hx z => by
      have : ∃ ob, H2 x = some ob := by
        rcases List.mem_cons.mp hx with rfl | hx
        · exact ⟨_, ow2b.ob⟩
        · obtain ⟨_, q, _⟩ := pw_kid ow2b.kids x hx
          exact ⟨_, q⟩
      obtain ⟨ob, q⟩ := this
      rw [z, h3n] at q; cases q
    refine ⟨.ref l1, .ref l2, .ref l3, rfl, a _ _ _ B3 H3 (q3 as (pw_len ow2.kids)) ((e1.trans e2).trans e3) ?_⟩
    have a1 := ok3.setMu (i := i) ow1c
    have a2 := a1.setO (i := j) (v := .ref l2) (e0 := .mm u as xss) ⟨l2, rfl, ow2c.ob, ow2c.b, ow2c.h0, ow2c.nd, ow2c.kids⟩ fun x hx m e hm z => by
      have hx' : x ∈ l2 :: as := by
        rcases hx with hx | hx
        · have : some (some (V.ref l2)) = some (some (V.ref x)) := hx
          cases this; exact List.mem_cons_self
        · exact List.mem_cons_of_mem _ hx
      rcases get_set hm with ⟨rfl, rfl, il⟩ | ⟨nm, hm⟩
      · have z' : (σ.set i (some (V.ref l1)))[i]? = some (some (V.ref x)) := z
        rw [List.getElem?_set, if_pos rfl, if_pos (by rw [← ok3.ln]; exact il)] at z'
        cases z'
        exact ne1 l1 hx' rfl
      · rw [List.getElem?_set, if_neg nm] at z
        exact ow2c.df x hx' m e hm z
    refine a2.setMu (i := l) ⟨ow3c.ob, ow3c.b, ow3c.h0, fun m e hm z => ?_⟩
    rcases get_set hm with ⟨rfl, rfl, il⟩ | ⟨nm, hm⟩
    · rcases z with z | z
      · rw [List.getElem?_set, if_pos rfl] at z
        split at z
        · cases z; exact ne23 l2 List.mem_cons_self rfl
        · cases z
      · exact ne23 l3 (List.mem_cons_of_mem _ z) rfl
    · rw [List.getElem?_set, if_neg nm] at z
      rcases get_set hm with ⟨rfl, rfl, il⟩ | ⟨nm2, hm⟩
      · have z' : (σ.set i (some (V.ref l1)))[i]? = some (some (V.ref l3)) := z
        rw [List.getElem?_set, if_pos rfl, if_pos (by rw [← ok3.ln]; exact il)] at z'
        cases z'
        exact ne3 rfl
      · rw [List.getElem?_set, if_neg nm2] at z
        exact ow3c.df m e hm z
end
end TL

/-! # TL: is of bools, methods by one of several promises, all that is new frozen -/
namespace TL
open PySem L2
open PySem.W (Frag)
section
variable {K : Frag} {w : Wd} {n : Option Nat} {Γ Γ' : Env} {α β γ δ ρ A : Type} {t : Ty α} {u : Ty β} {ta tb te : TE}
theorem we_isB {k : Bool → NK} (h : WpE K w n Γ ta tBo (fun a n Γ => WpE K w n Γ tb tBo (fun b n Γ => k (decide (a = b)) n Γ))) : WpE K w n Γ (tOp rIsB ta tb) tBo k :=
  we_op2 (s := tBo) (fun a b => decide (a = b)) (fun _ _ => True) (fun B x y a b H Q h1 h2 e _ q => ⟨a, b, h1, h2, q _ rfl⟩) (we_mono h fun x _ _ q => we_mono q fun y _ _ z => ⟨trivial, z⟩)
theorem we_notB {k : Bool → NK} (h : WpE K w n Γ ta tBo (fun a n Γ => WpE K w n Γ tb tBo (fun b n Γ => k (!decide (a = b)) n Γ))) : WpE K w n Γ (tOp rNotB ta tb) tBo k :=
  we_op2 (s := tBo) (fun a b => !decide (a = b)) (fun _ _ => True) (fun B x y a b H Q h1 h2 e _ q => ⟨a, b, h1, h2, q _ rfl⟩) (we_mono h fun x _ _ q => we_mono q fun y _ _ z => ⟨trivial, z⟩)
theorem layB (x : Bool) : ((iB (K := K)).enc x).canLay0 = true := by show PyData.canLay0 (.bool x) = true; simp [PyData.canLay0]
theorem we_eqB {k : Bool → NK} (h : WpE K w n Γ ta tBo (fun a n Γ => WpE K w n Γ tb tBo (fun b n Γ => k (decide (a = b)) n Γ))) : WpE K w n Γ (tOp (rEqU K) ta tb) tBo k :=
  we_eqD iB (Nat.zero_le _) (we_mono h fun x _ _ q => we_mono q fun y _ _ z => ⟨⟨layB x, layB y⟩, z⟩)
theorem we_neB {k : Bool → NK} (h : WpE K w n Γ ta tBo (fun a n Γ => WpE K w n Γ tb tBo (fun b n Γ => k (!decide (a = b)) n Γ))) : WpE K w n Γ (tOp (rNeU K) ta tb) tBo k :=
  we_neD iB (Nat.zero_le _) (we_mono h fun x _ _ q => we_mono q fun y _ _ z => ⟨⟨layB x, layB y⟩, z⟩)
theorem we_neUI {k : Bool → NK} (h : WpE K w n Γ ta (tU tI) (fun a n Γ => WpE K w n Γ tb (tU tI) (fun b n Γ => k (!decide (a = b)) n Γ))) : WpE K w n Γ (tOp (rNeU K) ta tb) tBo k :=
  we_neD (iU iI) (by show 1 ≤ 64; decide) (we_mono h fun x _ _ q => we_mono q fun y _ _ z => ⟨⟨layU fun x _ => layI x, layU fun x _ => layI x⟩, z⟩)
theorem we_eqUI {k : Bool → NK} (h : WpE K w n Γ ta (tU tI) (fun a n Γ => WpE K w n Γ tb (tU tI) (fun b n Γ => k (decide (a = b)) n Γ))) : WpE K w n Γ (tOp (rEqU K) ta tb) tBo k :=
  we_eqD (iU iI) (by show 1 ≤ 64; decide) (we_mono h fun x _ _ q => we_mono q fun y _ _ z => ⟨⟨layU fun x _ => layI x, layU fun x _ => layI x⟩, z⟩)
/-- all that is new is frozen -/
theorem Grow.all {B H H' : Hp} (e : Ex B H) (x : Ex H H') : ∃ B', Grow B H B' H' ∧ ∀ a o, H a = Option.none → H' a = some o → B' a = some o := by
  refine ⟨fun a => if H a = Option.none then H' a else B a, ⟨fun a o q => ?_, fun a o q => ?_, x, fun a o q => ?_⟩, fun a o q z => ?_⟩
  · split at q
    · exact q
    · exact x _ _ (e _ _ q)
  · show (if H a = Option.none then H' a else B a) = some o
    rw [if_neg (by rw [e _ _ q]; intro z; cases z)]; exact q
  · split at q
    · rename_i z; exact .inr z
    · exact .inl q
  · show (if H a = Option.none then H' a else B a) = some o
    rw [if_pos q]; exact z
/-- x.m(..), a promise that keeps what S says -/
theorem we_methS {C : Addr} {F : Hp → List (Str × V) → α → Prop} {mono : ∀ {B B' : Hp} {fs : List (Str × V)} {x : α}, Ex B B' → F B fs x → F B' fs x} {m : Str} {S : FS K} {sp : Sp} {R : TyA A} {E : XK} {tr : TA} {s : Ty S.ρ} {k : S.ρ → NK} (sub : ∀ vs H Q X, S.sp vs H Q X → sp vs H Q X)
    (hS : S.A = (α × A)) (hargs : HEq S.args (aCons (tIns C F mono) R)) (hres : S.res = fun x => .im s x) (hc : S.cost = 0) (hno : ∀ B fs x, F B fs x → fs.lookup m = none)
    (h : WpE K w n Γ ta (tIns C F mono) (fun x n Γ => WpA K w n Γ tr R (fun a n Γ => S.pre (cast hS.symm (x, a)) ∧ ∀ r, S.post (cast hS.symm (x, a)) r → k r n Γ))) : WpE K w n Γ (tMeth C m sp [] E ta tr) s k := by
  obtain ⟨SA, Sargs, Sρ, Sres, Scost, Spre, Spost⟩ := S
  dsimp only at hS hargs hres hc h k s
  subst hS
  cases hargs
  subst hres; subst hc
  exact fun σ B H ok Q c => h σ B H ok _ fun x v n1 Γ1 B1 H1 q1 e1 o1 r1 => by
    obtain ⟨a, dx, fs, h1, h2, h3⟩ := r1
    subst h1
    refine ⟨a, dx, fs, rfl, o1.ex _ _ h2, hno _ _ _ h3, q1 σ B1 H1 o1 _ fun y vs n2 Γ2 B2 H2 ⟨hp, q⟩ e2 o2 r2 => ?_⟩
    rw [List.append_nil]
    refine sub _ _ _ _ ⟨w.d, w.ca, w.cs, n2, B2, (x, y), o2.entry, ⟨.ref a, vs, rfl, ⟨a, dx, fs, rfl, e2 _ _ h2, mono e2 h3⟩, r2⟩, hp, .inl rfl, fun r v' n' B' H' hx hcc e' o' sl => ?_⟩
    obtain ⟨v2, g1, g2⟩ := sl
    cases g1
    rcases hcc with ⟨_, rfl⟩ | ⟨mm, rfl, rfl⟩
    · exact c r v' _ Γ2 B' H' (q r hx) ((e1.trans e2).trans e') (o2.back o') g2
    · exact c r v' _ Γ2 B' H' (q r hx) ((e1.trans e2).trans e') (o2.back o') g2
end
end TL

/-! # TL: families handed back, called for, walked, made longer -/
namespace TL
open PySem L2
open PySem.W (Frag)
section
variable {K : Frag} {w : Wd} {n : Option Nat} {Γ Γ' : Env} {α β γ δ ρ A : Type} {t : Ty α} {u : Ty β} {ta tb te : TE} {ts ts' : TS} {res : ρ → Ent} {nx bk ct : NK} {rt : ρ → Option Nat → Prop}
/-- one's own family is handed back -/
theorem ws_retMM {i : Nat} {as : List Addr} {xss : List (List α)} (x : ρ) (h : Γ[i]? = some (.mm t as xss)) (hx : res x = .mm t as xss) (q : rt x n) : WpS K w n Γ (tRet (tVar i)) res nx bk ct rt := fun σ B H ok D a b c d => by
  have s := ok.sl i _ h
  obtain ⟨l, h1, h2⟩ := s
  exact ⟨.ref l, h1, d x _ n B H q (Ex.refl _) ok.nil (by rw [hx]; exact ⟨l, rfl, h2⟩)⟩
/-- a call that gives a family of one's own -/
theorem wmm_callX {ι : Type} {S : ι → FS K} (i : ι) {E : XK} {ta : TA} {fa : (S i).ρ → List Addr} {fx : (S i).ρ → List (List α)} {k : List (List α) → NK} (hres : (S i).res = fun x => .mm t (fa x) (fx x)) (hc : (S i).cost = 0) (h : WpA K w n Γ ta (S i).args (fun a n Γ => (S i).pre a ∧ ∀ x, (S i).post a x → k (fx x) n Γ)) :
    WpMM K w n Γ (tCall (SpEx fun i => (S i).sp) [] E ta) t k := fun σ B H ok Q c =>
  h σ B H ok _ fun a vs n1 Γ1 B1 H1 ⟨hp, q⟩ e o r => by
    rw [List.append_nil]
    refine ⟨i, w.d, w.ca, w.cs, n1, B1, a, o.entry, r, hp, .inl hc, fun x v n' B' H' hx hcc e' o' s => ?_⟩
    rw [hres] at s
    obtain ⟨l, h1, h2, h3, h4, h5, kp⟩ := s
    cases h1
    have nw : ∀ a, H1 a = none → w.H0 a = none := fun a h4' => by
      cases q : w.H0 a with
      | none => rfl
      | some u =>
        have ne : a ≠ w.d := fun z => noS h4' (z ▸ o.hh)
        rw [o.kp a u q ne] at h4'; cases h4'
    have new : ∀ a ∈ l :: fa x, H1 a = none := fun a ha => by
      rcases List.mem_cons.mp ha with rfl | ha
      · exact h4
      · obtain ⟨_, _, _, z⟩ := pw_kid kp a ha
        exact z
    have en : n' = n1 := by
      rcases hcc with ⟨_, z⟩ | ⟨m, z1, z2⟩
      · exact z
      · rw [z2, z1, hc]; rfl
    subst en
    refine c (fx x) l (fa x) _ Γ1 B' H' (q x hx) (e.trans e') (o.back o') ⟨h2, h3, nw l h4, h5, pw_kids kp (Ex.refl _) fun a ha => ?_, fun a ha j e' he z => ?_⟩
    · obtain ⟨_, _, z1, z2⟩ := pw_kid kp a ha
      exact ⟨rfl, z1, nw a z2⟩
    · obtain ⟨ob, z1, _⟩ := (o.sl j _ he).owned z
      rw [new a ha] at z1; cases z1
/-- a new family, used as a datum -/
theorem we_ofMM {k : List (List α) → NK} (h : WpMM K w n Γ te t k) : WpE K w n Γ te (tL (tL t)) k := fun σ B H ok Q c =>
  h σ B H ok Q fun xss l as n1 Γ1 B1 H1 q e o ow => by
    let B2 : Hp := fun a => if a ∈ l :: as then H1 a else B1 a
    have nb : ∀ a ∈ l :: as, B1 a = none := fun a ha => by
      rcases List.mem_cons.mp ha with rfl | ha
      · exact ow.b
      · obtain ⟨_, _, z, _⟩ := pw_kid ow.kids a ha
        exact z
    have n0 : ∀ a ∈ l :: as, w.H0 a = none := fun a ha => by
      rcases List.mem_cons.mp ha with rfl | ha
      · exact ow.h0
      · obtain ⟨_, _, _, z⟩ := pw_kid ow.kids a ha
        exact z
    have at2 : ∀ a ∈ l :: as, B2 a = H1 a := fun a ha => if_pos ha
    have eb : Ex B1 B2 := fun a o q => by
      show (if a ∈ l :: as then H1 a else B1 a) = some o
      split
      · rename_i z
        rw [nb a z] at q; cases q
      · exact q
    have ok2 := o.frz (Γ' := Γ1) eb (fun a ob q => by
      have q : (if a ∈ l :: as then H1 a else B1 a) = some ob := q
      split at q
      · rename_i z
        exact .inr ⟨q, n0 a z⟩
      · exact .inl q) rfl fun j e' he => .inr ⟨he, fun a ha => by
        obtain ⟨_, _, z, _⟩ := (o.sl j e' he).owned ha
        show (if a ∈ l :: as then H1 a else B1 a) = none
        rw [if_neg fun m => ow.df a m j e' he ha]; exact z⟩
    refine c xss _ n1 Γ1 B2 H1 q (e.trans eb) ok2 ⟨l, as.map V.ref, rfl, by rw [at2 l List.mem_cons_self]; exact ow.ob, ?_⟩
    have gen : ∀ {as' : List Addr} {xss' : List (List α)}, (∀ a ∈ as', a ∈ l :: as) → Paired (Kid w B1 H1 t) as' xss' → Paired ((tL t).rep B2) (as'.map V.ref) xss' := fun {as' xss'} hm p => by
      induction p with
      | nil => exact .nil
      | @cons a xs as2 xss2 kd r ih =>
        obtain ⟨vs, g1, g2, _⟩ := kd
        exact .cons ⟨a, vs, rfl, by rw [at2 a (hm a (by simp))]; exact g1, pw_mono (fun _ _ => t.mono eb) g2⟩ (ih fun x hx => hm x (by simp [hx]))
    exact gen (fun a ha => List.mem_cons_of_mem _ ha) ow.kids
/-- out.append(low), both one's own: low becomes one of the family -/
theorem ws_appendM {i j : Nat} {as : List Addr} {xss : List (List α)} {ys : List α} (hi : Γ[i]? = some (.mm t as xss)) (hj : Γ[j]? = some (.ml t ys)) (hne : i ≠ j) (hl : xss.length < 100000)
    (h : ∀ a, SetE ((Γ.set j .no).set i (.mm t (as ++ [a]) (xss ++ [ys]))) (nx n)) : WpS K w n Γ (tDrop (tBM K "list" rAppend (tVar i) (tCons (tVar j) tNil))) res nx bk ct rt := fun σ B H ok D a' b c d => by
  obtain ⟨l, h1, h2, h3, h4, h5, kp⟩ := ok.sl i _ hi
  obtain ⟨a, o, g1, g2, g3, g4, vs, rfl, p⟩ := ok.sl j _ hj
  have il : i < Γ.length := (List.getElem?_eq_some_iff.mp hi).1
  have jl : j < Γ.length := (List.getElem?_eq_some_iff.mp hj).1
  have oi : ∀ x, x ∈ l :: as → (Ent.mm t as xss).owns σ[i]? x := fun x hx => by
    rcases List.mem_cons.mp hx with rfl | hx
    · exact .inl h1
    · exact .inr hx
  have oj : (Ent.ml t ys).owns σ[j]? a := g1
  have fresh : a ∉ l :: as := fun z => ok.ds i j _ _ a hne hi hj (oi a z) oj
  have nd : (l :: (as ++ [a])).Nodup := by
    have n1 := List.nodup_cons.mp h5
    refine List.nodup_cons.mpr ⟨fun z => ?_, List.nodup_append.mpr ⟨n1.2, by simp, fun x hx y hy => ?_⟩⟩
    · rcases List.mem_append.mp z with z | z
      · exact n1.1 z
      · exact fresh (by rw [List.mem_singleton.mp z]; simp)
    · rw [List.mem_singleton.mp hy]
      exact fun e => fresh (by rw [← e]; simp [hx])
  have got : ∀ (x : Nat) e, ((Γ.set j .no).set i .no)[x]? = some e → e = .no ∨ (x ≠ i ∧ x ≠ j ∧ Γ[x]? = some e) := fun x e hx => by
    rw [List.getElem?_set] at hx
    by_cases z : i = x
    · rw [if_pos z] at hx
      split at hx
      · cases hx; exact .inl rfl
      · cases hx
    · rw [if_neg z, List.getElem?_set] at hx
      by_cases y : j = x
      · rw [if_pos y, if_pos jl] at hx
        cases hx; exact .inl rfl
      · rw [if_neg y] at hx
        exact .inr ⟨fun q => z q.symm, fun q => y q.symm, hx⟩
  have k1 : Ok K w n ((Γ.set j .no).set i .no) σ B (upd H l (.lst ((as ++ [a]).map V.ref))) := by
    refine ok.chg h3 h4 (by simp) (fun x e he => ?_) (fun x e hx => ?_)
    · rcases got x e he with rfl | ⟨xi, xj, hg⟩
      · exact .inl trivial
      · exact .inr ⟨hg, ok.ds i x _ _ l (fun q => xi q.symm) hi hg (oi l (by simp))⟩
    · rcases got x e hx with rfl | ⟨xi, xj, hg⟩
      · exact .inl fun _ z => z
      · exact .inr ⟨e, hg, fun _ z => z⟩
  have la : l ≠ a := fun q => fresh (by rw [← q]; simp)
  have kids : Paired (Kid w B (upd H l (.lst ((as ++ [a]).map V.ref))) t) (as ++ [a]) (xss ++ [ys]) := by
    refine pw_snoc (pw_kids kp (Ex.refl _) fun x hx => ?_) ⟨vs, by rw [upd_ne (Ne.symm la)]; exact g2, p, g3, g4⟩
    obtain ⟨_, _, z1, z2⟩ := pw_kid kp x hx
    have xl : x ≠ l := fun q => (List.nodup_cons.mp h5).1 (q ▸ hx)
    exact ⟨by rw [upd_ne xl], z1, z2⟩
  have k2 := k1.setO (i := i) (e0 := .mm t (as ++ [a]) (xss ++ [ys])) (v := .ref l) ⟨l, rfl, upd_same, h3, h4, nd, kids⟩ fun x hx y e he z => by
    rcases got y e he with rfl | ⟨yi, yj, hg⟩
    · exact z
    · have : x = l ∨ x ∈ as ∨ x = a := by
        rcases hx with hx | hx
        · have : some (some (V.ref l)) = some (some (V.ref x)) := hx
          cases this; exact .inl rfl
        · rcases List.mem_append.mp hx with q | q
          · exact .inr (.inl q)
          · exact .inr (.inr (List.mem_singleton.mp q))
      rcases this with rfl | q | rfl
      · exact ok.ds i y _ _ x (fun q => yi q.symm) hi hg (oi x (by simp)) z
      · exact ok.ds i y _ _ x (fun q => yi q.symm) hi hg (oi x (by simp [q])) z
      · exact ok.ds j y _ _ x (fun q => yj q.symm) hj hg oj z
  rw [List.set_set, slot_same h1] at k2
  refine ⟨.ref l, h1, .inl ⟨rfl, _, .inl (.inl h2)⟩, .ref a, g1, l, _, .ref a, rfl, rfl, h2, by rw [List.length_map, pw_len kp]; exact szl hl, a' n _ _ B _ (h a) (Ex.refl _) ?_⟩
  rw [List.map_append] at k2
  exact k2
/-- for row in fam: row.append(c) -/
theorem ws_forApp {i j : Nat} {as : List Addr} {xss : List (List Int)} {c : Int} (hi : Γ[i]? = some (.mm tI as xss)) (hne : i ≠ j) (hj : j < Γ.length) (hl : ∀ xs ∈ xss, xs.length < 100000)
    (h : nx n ((Γ.set i (.mm tI as (xss.map fun xs => xs ++ [c]))).set j .no)) : WpS K w n Γ (tFor (iSeq K (tVar i)) (gName j) (tDrop (tBM K "list" rAppend (tVar j) (tCons (tC (.int c)) tNil)))) res nx bk ct rt := fun σ B H ok D a b c' d => by
  obtain ⟨l, h1, h2, _, _, _, kp0⟩ := ok.sl i _ hi
  have il : i < Γ.length := (List.getElem?_eq_some_iff.mp hi).1
  have hlen := pw_len kp0
  refine .inl ⟨.ref l, h1, l, rfl, ⟨_, .inl (.inl h2)⟩, ?_⟩
  refine ⟨fun m mm σ' H' => mm + m = as.length ∧ Ok K w n ((Γ.set i (.mm tI as ((xss.take m).map (fun xs => xs ++ [c]) ++ xss.drop m))).set j .no) σ' B H' ∧ σ'[i]? = some (some (.ref l)), ⟨as.length, rfl, ?_, h1⟩, ?_⟩
  · rw [List.take_zero, List.drop_zero, List.map_nil, List.nil_append]
    have e : Γ.set i (.mm tI as xss) = Γ := by
      apply List.ext_getElem?
      intro x
      rw [List.getElem?_set]
      split
      · rename_i z; subst z
        exact hi.symm
      · rfl
    rw [e]; exact ok.drop
  rintro m mm σ1 H1 ⟨hm, o1, hl1⟩
  have gi : ((Γ.set i (.mm tI as ((xss.take m).map (fun xs => xs ++ [c]) ++ xss.drop m))).set j .no)[i]? = some (.mm tI as ((xss.take m).map (fun xs => xs ++ [c]) ++ xss.drop m)) := by
    rw [List.getElem?_set, if_neg (Ne.symm hne), List.getElem?_set, if_pos rfl, if_pos il]
  obtain ⟨l', k1, k2, _, _, _, kp⟩ := o1.sl i _ gi
  rw [hl1] at k1; cases k1
  by_cases z : m < as.length
  · have ha : as[m]? = some as[m] := List.getElem?_eq_getElem z
    have hv : (as.map V.ref)[m]? = some (.ref as[m]) := by rw [List.getElem?_map, ha]; rfl
    have hxm : m < xss.length := by omega
    obtain ⟨xs, hx⟩ : ∃ xs, xss[m]? = some xs := ⟨_, List.getElem?_eq_getElem hxm⟩
    have hxm2 : ((xss.take m).map (fun xs => xs ++ [c]) ++ xss.drop m)[m]? = some xs := by
      rw [List.getElem?_append_right (by simp; omega)]
      simp only [List.length_map, List.length_take, List.getElem?_drop]
      rw [show m + (m - min m xss.length) = m by omega]; exact hx
    refine .inr ⟨⟨_, _, .inl (.inl k2), hv⟩, fun σ' H' => Ok K w n ((Γ.set i (.mm tI as ((xss.take (m + 1)).map (fun xs => xs ++ [c]) ++ xss.drop (m + 1)))).set j .no) σ' B H' ∧ σ'[i]? = some (some (.ref l)), ?_, ?_⟩
    · rintro σ' H' ⟨q1, q2⟩
      exact ⟨mm - 1, by omega, by omega, q1, q2⟩
    · rintro v H' ⟨rfl, hy⟩
      have := hy _ (.inl (.inl k2))
      rw [hv] at this; cases this
      have jl1 : j < σ1.length := by rw [← o1.ln]; simpa using hj
      have oa := o1.setAl (i := j) (a := as[m])
      obtain ⟨a2, g1, vs, g2, g3, _⟩ := pw_getR kp hxm2
      rw [ha] at g1; cases g1
      have ga : (((Γ.set i (.mm tI as ((xss.take m).map (fun xs => xs ++ [c]) ++ xss.drop m))).set j .no).set j (.al as[m]))[i]? = some (.mm tI as ((xss.take m).map (fun xs => xs ++ [c]) ++ xss.drop m)) := by
        rw [List.getElem?_set, if_neg (Ne.symm hne)]; exact gi
      have hs : (σ1.set j (some (.ref as[m])))[j]? = some (some (.ref as[m])) := by rw [List.getElem?_set, if_pos rfl, if_pos jl1]
      refine ⟨.ref as[m], hs, .inl ⟨rfl, vs, .inl (.inl g2)⟩, as[m], vs, .int c, rfl, rfl, g2, by rw [pw_len g3]; exact szl (hl xs (List.mem_of_getElem? hx)), ?_⟩
      have ok2 := oa.kid ga ha (pw_snoc g3 (show tI.rep B (.int c) c from rfl))
      refine ⟨?_, by rw [List.getElem?_set, if_neg (Ne.symm hne)]; exact hl1⟩
      have ok3 := ok2.drop (i := j)
      have e1 : ((((Γ.set i (.mm tI as ((xss.take m).map (fun xs => xs ++ [c]) ++ xss.drop m))).set j .no).set j (.al as[m])).set i (.mm tI as (((xss.take m).map (fun xs => xs ++ [c]) ++ xss.drop m).set m (xs ++ [c])))).set j .no = (Γ.set i (.mm tI as ((xss.take (m + 1)).map (fun xs => xs ++ [c]) ++ xss.drop (m + 1)))).set j .no := by
        rw [List.set_set, List.set_comm _ _ (Ne.symm hne), List.set_set, List.set_set]
        congr 3
        rw [List.set_append_right _ _ (by simp; omega), List.take_add_one, hx]
        have e2 : m - ((xss.take m).map fun xs => xs ++ [c]).length = 0 := by simp; omega
        rw [e2, List.drop_eq_getElem_cons hxm, List.set_cons_zero]
        simp
      rw [e1] at ok3
      exact ok3
  · have e : m = as.length := by omega
    subst e
    refine .inl ⟨⟨_, .inl (.inl k2), by simp⟩, a n _ σ1 B _ h (Ex.refl _) ?_⟩
    rw [hlen, List.take_length, List.drop_length, List.append_nil] at o1
    exact o1
/-- // by any divisor below 2 ^ 9000 -/
def CDivF (_ j : Int) : Prop := j ≠ 0 ∧ j.natAbs.log2 < 9000
open PySem.Spec PyProof.Rows in
theorem op_divF {X : Cx} : OpR X (binaryOp .FloorDiv) (rI CDivF fun i j => .int (i.fdiv j)) := opI fun i j _ _ _ _ _ hc q => floordiv_int hc.1 q (.inl (PyProof.noPylong_of_log2 hc.2))
theorem we_divF {k : Int → NK} (h : WpE K w n Γ ta tI (fun a n Γ => WpE K w n Γ tb tI (fun b n Γ => CDivF a b ∧ k (a.fdiv b) n Γ))) : WpE K w n Γ (tOp (rI CDivF fun i j => .int (i.fdiv j)) ta tb) tI k :=
  we_op2 (s := tI) (fun (a b : Int) => a.fdiv b) CDivF (fun B x y a b H Q h1 h2 e hc q => ⟨a, b, h1, h2, hc, q (.int (a.fdiv b)) rfl⟩) h
theorem divF {a b : Int} (h : b ≠ 0) (h2 : b.natAbs ≤ 2 ^ 8999) : CDivF a b := ⟨h, PySem.Flt.log2_lt_of (by decide) (Nat.lt_of_le_of_lt h2 (Nat.pow_lt_pow_right (by decide) (by decide)))⟩
/-- [] as a family of one's own -/
theorem wmm_nil {k : List (List α) → NK} (h : k [] n Γ) : WpMM K w n Γ (tLst tNil) t k := fun σ B H ok Q c => by
  refine ⟨Nat.zero_le _, fun l hl => ?_⟩
  have g : Grow B H B (upd H l (.lst [])) := Grow.open ok.ex hl
  refine c [] l [] n Γ B _ h (Ex.refl _) (ok.grow g) ⟨upd_same, ok.ex.none hl, ?_, by simp, .nil, fun a ha i e he z => ?_⟩
  · cases q : w.H0 l with
    | none => rfl
    | some u =>
      have ne : l ≠ w.d := fun z => noS hl (z ▸ ok.hh)
      rw [ok.kp l u q ne] at hl; cases hl
  · rw [List.mem_singleton.mp ha] at z
    obtain ⟨ob, h1, _⟩ := (ok.sl i _ he).owned z
    rw [hl] at h1; cases h1
/-- a family is made while things of one's own are lent -/
theorem wmm_lendV {k : List (List α) → NK} (v : View K w n Γ n Γ') (hf : Flat t) (h : ∀ w' : Wd, SetE (hideE Γ' []) fun Γ2 => WpMM K w' n Γ2 te t (fun xss n' _ => n' = n ∧ k xss n Γ)) : WpMM K w n Γ te t k := fun σ B H ok Q c => by
  obtain ⟨B1, e1, o1⟩ := Ok.lendV v ok
  refine h _ σ B1 H o1 Q fun xss l as n' Γ2 B2 H2 ⟨hn, q⟩ e2 o2 ow => ?_
  subst hn
  have o3 := ok.unlend e1 o2.nil
  have hN : ∀ a ∈ l :: as, H a = none := fun a ha => by
    rcases List.mem_cons.mp ha with rfl | ha
    · exact ow.h0
    · obtain ⟨_, _, _, z⟩ := pw_kid ow.kids a ha
      exact z
  have kids : Paired (Kid w B H2 t) as xss := by
    have gen : ∀ {as' : List Addr} {xss' : List (List α)}, (∀ a ∈ as', a ∈ l :: as) → Paired (Kid ⟨w.d, w.ca, w.cs, B1, H⟩ B2 H2 t) as' xss' → Paired (Kid w B H2 t) as' xss' := fun {as' xss'} hm p => by
      induction p with
      | nil => exact .nil
      | @cons a xs as2 xss2 kd r ih =>
        obtain ⟨vs, g1, g2, g3, g4⟩ := kd
        exact .cons ⟨vs, g1, pw_mono (fun _ _ => hf _ _ _ _) g2, ok.ex.none (hN a (hm a (by simp))), new_h0 ok (hN a (hm a (by simp)))⟩ (ih fun x hx => hm x (by simp [hx]))
    exact gen (fun a ha => List.mem_cons_of_mem _ ha) ow.kids
  refine c xss l as _ Γ B H2 q (Ex.refl _) o3 ⟨ow.ob, ok.ex.none (hN l (by simp)), new_h0 ok (hN l (by simp)), ow.nd, kids, fun a ha i e he z => ?_⟩
  obtain ⟨ob, h1, _⟩ := (ok.sl i _ he).owned z
  rw [hN a ha] at h1; cases h1
/-- [own lists for .. if ..]: a family of one's own -/
theorem wm_lcMF {wi : TI} {g : TG} {tt : TT} {vs : List Nat} {kk : List (List β) → NK} (u : Ty β) (I : List α → Nat → List (List β) → Option Nat → Prop) (hg : GSl g vs)
    (h : WpI K w n Γ wi t (fun xs n Γ => For3 (I xs 0 [] n) (∀ (w' : Wd) (i : Nat) x yss n, w'.d = w.d → w'.ca = w.ca → w'.cs = w.cs → xs[i]? = some x → I xs i yss n →
      SetE (hideE Γ vs) fun Γh => WpG K w' n Γh g t x (fun n Γ => WpT K w' n Γ tt (fun n Γ => WpM K w' n Γ te (fun r n _ => ∃ ys, r = rL u ys ∧ yss.length < 100000 ∧ I xs (i + 1) (yss ++ [ys]) n)) (fun n _ => I xs (i + 1) yss n)))
      (∀ yss n, I xs xs.length yss n → kk yss n Γ))) : WpMM K w n Γ (tLc wi g tt te vs) u kk := fun σ B H ok Q c =>
  h σ B H ok _ fun xs J n0 Γ0 B0 H0 ⟨hu, hs, he⟩ e0 o0 it => by
    intro D hD
    have ownD := Own.new (r := rL u []) (o := .lst []) o0 hD ⟨[], rfl, .nil⟩
    refine ⟨fun i m H => m + i = xs.length ∧ ∃ yss n B1 as, I xs i yss n ∧ Ex B0 B1 ∧ Ok K w n Γ0 σ B1 H ∧ OwnF w Γ0 σ B1 H u D as yss, ?_, ?_⟩
    · refine ⟨xs.length, rfl, [], n0, B0, [], hu, Ex.refl _, o0.grow (Grow.open o0.ex hD), ⟨upd_same, ownD.b, ownD.h0, by simp, .nil, fun a ha i e hi z => ?_⟩⟩
      rw [List.mem_singleton.mp ha] at z
      exact ownD.df i e hi z
    · rintro i m H1 ⟨hm, yss, n1, B1, as, hI, e1, o1, ow⟩
      by_cases hi : i < xs.length
      · refine .inr ⟨it.go i H1 (e1.trans o1.ex) hi, fun H' => ∃ yss n B1 as, I xs (i + 1) yss n ∧ Ex B0 B1 ∧ Ok K w n Γ0 σ B1 H' ∧ OwnF w Γ0 σ B1 H' u D as yss, ?_, ?_⟩
        · rintro H' hN
          exact ⟨m - 1, by omega, by omega, hN⟩
        · intro v H' hy
          obtain ⟨B2, gr, rp⟩ := it.yld i _ H1 B1 v H' (List.getElem?_eq_getElem hi) e1 o1.ex hy
          have o2 := o1.grow gr
          have kid1 := pw_kid ow.kids
          have all1 : ∀ a ∈ D :: as, ∃ o, H1 a = some o ∧ B1 a = none ∧ w.H0 a = none := fun a ha => by
            rcases List.mem_cons.mp ha with rfl | ha
            · exact ⟨_, ow.ob, ow.b, ow.h0⟩
            · obtain ⟨us, q1, q2, q3⟩ := kid1 a ha
              exact ⟨_, q1, q2, q3⟩
          have all2 : ∀ a ∈ D :: as, ∃ o, H' a = some o ∧ B2 a = none ∧ w.H0 a = none ∧ H1 a = some o := fun a ha => by
            obtain ⟨o, q1, q2, q3⟩ := all1 a ha
            exact ⟨o, gr.h _ _ q1, gr.none q2 q1, q3, q1⟩
          have ned : ∀ a ∈ D :: as, a ≠ w.d := fun a ha z => by
            obtain ⟨_, _, _, q3, _⟩ := all2 a ha
            exact noS q3 (z ▸ o1.hd)
          have key := hs ⟨w.d, w.ca, w.cs, B2, H'⟩ i _ yss n1 rfl rfl rfl (List.getElem?_eq_getElem hi) hI (wipe σ vs) B2 H' (o2.inner vs) v rp _ fun n3 Γ3 σ3 B3 H3 q3 e3 o3 => q3 σ3 B3 H3 o3 (fun (b : Bool) H3 => if b = true then te σ3 H3 (fun y H4 => ∃ acc, H4 D = some (.lst acc) ∧ acc.length < sizeLine ∧ ∃ yss n B1 as, I xs (i + 1) yss n ∧ Ex B0 B1 ∧ Ok K w n Γ0 σ B1 (upd H4 D (.lst (acc ++ [y]))) ∧ OwnF w Γ0 σ B1 (upd H4 D (.lst (acc ++ [y]))) u D as yss) else ∃ yss n B1 as, I xs (i + 1) yss n ∧ Ex B0 B1 ∧ Ok K w n Γ0 σ B1 H3 ∧ OwnF w Γ0 σ B1 H3 u D as yss)
            (fun n4 Γ4 B4 H4 q4 e4 o4 => by
            show if true = true then _ else _
            rw [if_pos rfl]
            refine q4 σ3 B4 H4 o4 _ fun r l n5 Γ5 B5 H5 ⟨ys, hr, hz, hI5⟩ e5 o5 own5 => ?_
            subst hr
            have c5 := o5.nil
            have ok5 : Ok K w n5 Γ0 σ B5 H5 := o2.back c5
            have ex25 : Ex B2 B5 := (e3.trans e4).trans e5
            have all5 : ∀ a ∈ D :: as, H5 a = H1 a ∧ B5 a = none ∧ w.H0 a = none := fun a ha => by
              obtain ⟨o, q1, q2, q3, q4⟩ := all2 a ha
              refine ⟨by rw [q4]; exact c5.kp a o q1 (ned a ha), ?_, q3⟩
              cases q : B5 a with
              | none => rfl
              | some z =>
                rcases c5.nw a z q with r | r
                · have r' : B2 a = some z := r
                  rw [q2] at r'; cases r'
                · have r' : H' a = none := r
                  rw [q1] at r'; cases r'
            obtain ⟨⟨ob, p1, us, rfl, pu⟩, p2, p3, p4⟩ := own5
            have p3' : H' l = none := p3
            have nl : l ∉ D :: as := fun q => by
              obtain ⟨_, q1, _⟩ := all2 l q
              rw [p3'] at q1; cases q1
            have l0 : w.H0 l = none := by
              cases q : w.H0 l with
              | none => rfl
              | some z =>
                have ne : l ≠ w.d := fun zz => noS p3' (zz ▸ o2.hh)
                rw [o2.kp l z q ne] at p3'; cases p3'
            have hD5 := all5 D List.mem_cons_self
            have lD : l ≠ D := fun q => nl (q ▸ List.mem_cons_self)
            refine ⟨as.map V.ref, by rw [hD5.1]; exact ow.ob, by rw [List.length_map, pw_len ow.kids]; exact szl hz, yss ++ [ys], n5, B5, as ++ [l], hI5, (e1.trans gr.b).trans ex25, ?_, ?_⟩
            · exact ok5.chg hD5.2.1 hD5.2.2 rfl (fun j e q => .inr ⟨q, ow.df D List.mem_cons_self j e q⟩) (fun x e q => .inr ⟨e, q, fun a ha => ha⟩)
            · refine ⟨by rw [upd_same, List.map_append]; rfl, hD5.2.1, hD5.2.2, ?_, ?_, ?_⟩
              · have nd := ow.nd
                rw [← List.cons_append, List.nodup_append]
                exact ⟨nd, by simp, fun a ha b hb z => nl (by rw [List.mem_singleton.mp hb] at z; rw [← z]; exact ha)⟩
              · refine pw_snoc (pw_kids ow.kids ((gr.b).trans ex25) fun a ha => ?_) ⟨us, by rw [upd_ne lD]; exact p1, pu, p2, l0⟩
                obtain ⟨q1, q2, q3⟩ := all5 a (List.mem_cons_of_mem _ ha)
                have aD : a ≠ D := fun q => (List.nodup_cons.mp ow.nd).1 (by rw [← q]; exact ha)
                exact ⟨by rw [upd_ne aD]; exact q1, q2, q3⟩
              · intro a ha j e hj z
                rw [← List.cons_append] at ha
                rcases List.mem_append.mp ha with q | q
                · exact ow.df a q j e hj z
                · rw [List.mem_singleton.mp q] at z
                  obtain ⟨o', q1, _⟩ := (o2.sl j e hj).owned z
                  rw [p3'] at q1; cases q1)
            fun n4 Γ4 B4 H4 q4 e4 o4 => by
            show if false = true then _ else _
            rw [if_neg Bool.false_ne_true]
            have c4 := o4.nil
            have ex24 : Ex B2 B4 := e3.trans e4
            have all4 : ∀ a ∈ D :: as, H4 a = H1 a ∧ B4 a = none ∧ w.H0 a = none := fun a ha => by
              obtain ⟨o, q1, q2, q3, q4⟩ := all2 a ha
              refine ⟨by rw [q4]; exact c4.kp a o q1 (ned a ha), ?_, q3⟩
              cases q : B4 a with
              | none => rfl
              | some z =>
                rcases c4.nw a z q with r | r
                · have r' : B2 a = some z := r
                  rw [q2] at r'; cases r'
                · have r' : H' a = none := r
                  rw [q1] at r'; cases r'
            have hD4 := all4 D List.mem_cons_self
            exact ⟨yss, n4, B4, as, q4, (e1.trans gr.b).trans ex24, o2.back c4, by rw [hD4.1]; exact ow.ob, hD4.2.1, hD4.2.2, ow.nd, pw_kids ow.kids ((gr.b).trans ex24) fun a ha => all4 a (List.mem_cons_of_mem _ ha), ow.df⟩
          have key2 := hg v (wipe σ vs) H' _ key
          have ww : wipe (wipe σ vs) vs = wipe σ vs := by
            have gen : ∀ (us : List Nat) (τ : L2.St), (∀ i ∈ us, ∀ x, τ[i]? = some x → x = none) → wipe τ us = τ := fun us => by
              induction us with
              | nil => intro τ _; rfl
              | cons a us ih =>
                intro τ hτ
                unfold wipe
                rw [ih τ fun i hi => hτ i (by simp [hi])]
                apply List.ext_getElem?
                intro j
                rw [List.getElem?_set]
                split
                · rename_i z; subst z
                  split
                  · rename_i z
                    have := hτ a (by simp) τ[a] (List.getElem?_eq_getElem z)
                    rw [List.getElem?_eq_getElem z, this]
                  · rename_i z; exact (List.getElem?_eq_none_iff.mpr (by omega)).symm
                · rfl
            refine gen vs _ fun i hi x hx => ?_
            cases x with
            | none => rfl
            | some y => exact absurd hi (wipe_some hx).2
          rw [ww] at key2
          exact key2
      · have hi2 : i = xs.length := by omega
        subst hi2
        exact .inl ⟨it.stop H1 (e1.trans o1.ex), c _ D as n1 Γ0 B1 H1 (he yss n1 hI) (e0.trans e1) o1 ow⟩
/-- int(b) -/
theorem we_intB {k : Int → NK} (h : WpE K w n Γ te tBo (fun b n Γ => k (if b then 1 else 0) n Γ)) : WpE K w n Γ (tCB rIntU (tCons te tNil)) tI k := fun σ B H ok Q c =>
  h σ B H ok _ fun b v n' Γ' B' H' q e o r => .inr ⟨b, by cases r; rfl, c _ _ n' Γ' B' H' q e o rfl⟩
def rInsert : V → List V → Hp → VK → Prop := fun x vs H Q => ∃ (l : Addr) (xs : List V) (i : Int) (y : V), x = .ref l ∧ vs = [.int i, y] ∧ H l = some (.lst xs) ∧ xs.length < sizeLine ∧ 0 ≤ i ∧ i < 2 ^ 63 ∧
    Q .non (upd H l (.lst (xs.take i.toNat ++ [y] ++ xs.drop i.toNat)))
theorem mt_insertR {X : Cx} : MtR X "list.insert" rInsert := mt_insert
/-- xs.insert(j, e) -/
theorem ws_insert {i : Nat} {xs : List α} {ti : TE} (hi : Γ[i]? = some (.ml t xs)) (h : WpE K w n Γ ti tI (fun j n Γ => WpE K w n Γ te t (fun x n' Γ' => Γ'[i]? = some (.ml t xs) ∧ xs.length < 100000 ∧ (0 ≤ j ∧ j < 2 ^ 63) ∧ SetE (Γ'.set i (.ml t (xs.take j.toNat ++ [x] ++ xs.drop j.toNat))) (nx n')))) :
    WpS K w n Γ (tDrop (tBM K "list" rInsert (tVar i) (tCons ti (tCons te tNil)))) res nx bk ct rt := fun σ B H ok D a b c d => by
  obtain ⟨l, o, h1, h2, h3, h4, vs, rfl, p⟩ := ok.sl i _ hi
  refine ⟨.ref l, h1, .inl ⟨rfl, vs, .inl (.inl h2)⟩, h σ B H ok _ fun j jv n1 Γ1 B1 H1 h' e1 o1 r1 => h' σ B1 H1 o1 _ fun x v n' Γ' B' H' ⟨g, hz, hj, q⟩ e o r => ?_⟩
  obtain ⟨l', o', k1, k2, k3, k4, vs', rfl, p'⟩ := o.sl i _ g
  rw [h1] at k1; cases k1
  cases r1
  exact ⟨l, vs', j, v, rfl, rfl, k2, by rw [pw_len p']; exact szl hz, hj.1, hj.2, a n' _ _ B' _ q (e1.trans e) (o.put (r' := rL t (xs.take j.toNat ++ [x] ++ xs.drop j.toNat)) g h1 ⟨_, rfl, pw_app (pw_snoc (pw_take _ p') r) (pw_drop _ p')⟩)⟩
/-- xs[::-1] -/
theorem wm_rev {k : Rs → NK} (h : WpE K w n Γ te (tL t) (fun xs n Γ => k (rL t xs.reverse) n Γ)) : WpM K w n Γ (tRevL K te) k := fun σ B H ok Q c =>
  h σ B H ok _ fun xs v n1 Γ1 B1 H1 q e o ⟨a, vs, hv, hs, p⟩ => ⟨a, vs, hv, SqL.of (o.ex _ _ hs), fun l hl => c _ l n1 Γ1 B1 _ q e (o.grow (Grow.open o.ex hl)) (Own.new o hl ⟨_, rfl, pw_rev p⟩)⟩
end
end TL

/-! # TL: instances: while they are made, and as they stay; dicts with texts as keys; what is one's own lent out to calls that give data -/
namespace TL
open PySem L2
open PySem.W (Frag)
/-- a datum with its kind -/
structure Dt : Type 1 where
  {α : Type}
  t : Ty α
  x : α
abbrev Flds := List (Str × Dt)
/-- what the names lead to -/
def FRep (B : Hp) (lk : Str → Option V) (fl : Flds) : Prop := ∀ f, (fl.lookup f = none → lk f = none) ∧ ∀ e, fl.lookup f = some e → ∃ v, lk f = some v ∧ e.t.rep B v e.x
theorem FRep.mono {B B' : Hp} {lk : Str → Option V} {fl : Flds} (e : Ex B B') (h : FRep B lk fl) : FRep B' lk fl := fun f => ⟨(h f).1, fun d hd => by
  obtain ⟨v, h1, h2⟩ := (h f).2 d hd
  exact ⟨v, h1, d.t.mono e h2⟩⟩
theorem FRep.nil {B : Hp} {lk : Str → Option V} (h : ∀ f, lk f = none) : FRep B lk [] := fun f => ⟨fun _ => h f, fun e he => by cases he⟩
theorem FRep.cons {B : Hp} {lk lk' : Str → Option V} {fl : Flds} {f : Str} {e : Dt} {v : V} (h : FRep B lk fl) (r : e.t.rep B v e.x) (hl : ∀ g, lk' g = if g = f then some v else lk g) : FRep B lk' ((f, e) :: fl) := fun g => by
  rw [hl g]
  by_cases z : g = f
  · have hb : (g == f) = true := beq_iff_eq.mpr z
    rw [if_pos z]
    simp only [List.lookup, hb]
    exact ⟨(fun q => by cases q), (fun d hd => by cases hd; exact ⟨v, rfl, r⟩)⟩
  · have hb : (g == f) = false := beq_eq_false_iff_ne.mpr z
    rw [if_neg z]
    simp only [List.lookup, hb]
    exact h g
/-- the same names lead to the same -/
def FSame (fl fl' : Flds) : Prop := ∀ f, fl.lookup f = fl'.lookup f
theorem FRep.same {B : Hp} {lk : Str → Option V} {fl fl' : Flds} (h : FRep B lk fl) (s : FSame fl fl') : FRep B lk fl' := fun f => by rw [← s f]; exact h f
/-- an instance of C at p, while it is made -/
def rI (C p : Addr) (fl : Flds) : Rs := ⟨fun l B o => l = p ∧ ∃ dx fs, o = .ins C dx fs ∧ fs.length ≤ fl.length ∧ FRep B (fun f => fs.lookup f) fl, fun e ⟨h1, dx, fs, h2, h3, h4⟩ => ⟨h1, dx, fs, h2, h3, h4.mono e⟩⟩
/-- a dict with texts as keys, which one may still change -/
def rS (fl : Flds) : Rs := ⟨fun l B o => ∃ kvs : List (Key × V), o = .dK kvs ∧ kvs.length ≤ fl.length ∧ FRep B (fun f => valV kvs (.inr f)) fl, fun e ⟨kvs, h2, h3, h4⟩ => ⟨kvs, h2, h3, h4.mono e⟩⟩
section
variable {α : Type}
theorem obj_mono {flds : α → Flds} {B B' : Hp} {fs : List (Str × V)} {x : α} (e : Ex B B') (h : FRep B (fun f => fs.lookup f) (flds x)) : FRep B' (fun f => fs.lookup f) (flds x) := h.mono e
/-- an instance that nobody changes any more -/
def tObj (C : Addr) (flds : α → Flds) : Ty α := tIns C (fun B fs x => FRep B (fun f => fs.lookup f) (flds x)) fun e h => obj_mono e h
/-- a dict with texts as keys that nobody changes any more -/
def tSD (flds : α → Flds) : Ty α := ⟨fun B v x => ∃ a kvs, v = .ref a ∧ B a = some (.dK kvs) ∧ FRep B (fun f => valV kvs (.inr f)) (flds x), fun e ⟨a, kvs, h1, h2, h3⟩ => ⟨a, kvs, h1, e _ _ h2, h3.mono e⟩⟩
end
section
variable {K : Frag} {w : Wd} {n : Option Nat} {Γ Γ' : Env} {α β γ δ ρ A : Type} {t : Ty α} {u : Ty β} {ta tb te : TE} {ts ts' : TS} {res : ρ → Ent} {nx bk ct : NK} {rt : ρ → Option Nat → Prop}
/-! ### reading -/
/-- x.f -/
theorem we_fldF {C : Addr} {flds : α → Flds} {f : Str} {k : β → NK} (cl : Cls K C) (na : NoAttr K C f) (y : α → β) (hl : ∀ x, (flds x).lookup f = some ⟨u, y x⟩) (h : WpE K w n Γ ta (tObj C flds) (fun x n Γ => k (y x) n Γ)) : WpE K w n Γ (tFld K ta f) u k :=
  we_fld (F := fun B fs x => FRep B (fun f => fs.lookup f) (flds x)) (mono := fun e h => obj_mono e h) (g := y) cl na (fun B fs x hF => (hF f).2 _ (hl x)) h
/-- self.f, self being made -/
theorem we_fldO {C p : Addr} {fl : Flds} {f : Str} {i : Nat} {y : β} {k : β → NK} (cl : Cls K C) (na : NoAttr K C f) (hi : Γ[i]? = some (.mu (rI C p fl))) (hl : fl.lookup f = some ⟨u, y⟩) (q : k y n Γ) : WpE K w n Γ (tFld K (tVar i) f) u k := fun σ B H ok Q c => by
  obtain ⟨l, o, h1, h2, h3, h4, rfl, dx, fs, rfl, h5, h6⟩ := ok.sl i _ hi
  obtain ⟨v, g1, g2⟩ := (h6 f).2 _ hl
  exact ⟨.ref l, h1, l, C, dx, fs, v, rfl, h2, cl, na, g1, c y v n Γ B H q (Ex.refl _) ok g2⟩
/-- self.f = e, self being made -/
theorem ws_fldO {C p : Addr} {f : Str} {i : Nat} (cl : Cls K C) (na : NoAttr K C f) (h : WpE K w n Γ te t (fun x n' Γ' => ∃ fl, Γ'[i]? = some (.mu (rI C p fl)) ∧ fl.length < 1000 ∧ SetE (Γ'.set i (.mu (rI C p ((f, ⟨t, x⟩) :: fl)))) (nx n'))) :
    WpS K w n Γ (sFld K (tVar i) te f) res nx bk ct rt := fun σ B H ok D a b c d =>
  h σ B H ok _ fun x v n' Γ' B' H' ⟨fl, hi, hz, q⟩ e o r => by
    obtain ⟨l, ob, h1, h2, h3, h4, rfl, dx, fs, rfl, h5, h6⟩ := o.sl i _ hi
    refine ⟨.ref l, h1, l, C, dx, fs, rfl, h2, cl, na, by omega, a n' _ _ B' _ q e (o.put (r' := rI C l ((f, ⟨t, x⟩) :: fl)) hi h1 ⟨rfl, dx, putF f v fs, rfl, ?_, h6.cons r fun g => lookup_putF f g v fs⟩)⟩
    have := length_putF f v fs
    simp only [List.length_cons]; omega
/-! ### made -/
def del (H : Hp) (p : Addr) : Hp := fun a => if a = p then none else H a
theorem del_same {H : Hp} {p : Addr} : del H p p = none := by unfold del; rw [if_pos rfl]
theorem del_ne {H : Hp} {p a : Addr} (h : a ≠ p) : del H p a = H a := by unfold del; rw [if_neg h]
theorem del_some {H : Hp} {p a : Addr} {o : HO} (h : del H p a = some o) : a ≠ p ∧ H a = some o := by
  by_cases z : a = p
  · subst z; rw [del_same] at h; cases h
  · rw [del_ne z] at h; exact ⟨z, h⟩
/-- what an __init__ promises -/
structure IS (K : Frag) where
  C : Addr
  A : Type
  args : TyA A
  ρ : Type
  flds : ρ → Flds
  cost : Nat
  pre : A → Prop
  post : A → ρ → Prop
def IS.sp (S : IS K) : Sp := fun vs H Q _ => ∃ (d ca : Addr) (cs : List Int) (n : Option Nat) (B : Hp) (a : S.A) (p dx : Addr) (us : List V), vs = .ref p :: us ∧ H p = some (.ins S.C dx []) ∧ B p = none ∧ Ok K ⟨d, ca, cs, B, del H p⟩ n [] [] B H ∧ S.args.rep d B us a ∧ S.pre a ∧ May S.cost n ∧
  ∀ x n' B' H' dx' fs, S.post a x → Costs S.cost n n' → Ex B B' → Ok K ⟨d, ca, cs, B, del H p⟩ n' [] [] B' H' → B' p = none → H' p = some (.ins S.C dx' fs) → FRep B' (fun f => fs.lookup f) (S.flds x) → Q .non H'
theorem is_len {S : IS K} [E : Ents S.args] {vs : List V} {H : Hp} {Q : VK} {X : XK} (h : S.sp vs H Q X) : vs.length = E.len + 1 := by
  obtain ⟨d, ca, cs, n, B, a, p, dx, us, rfl, _, _, _, r, _⟩ := h
  rw [List.length_cons, (E.ok r).2.1]
/-- an __init__'s body keeps its promise -/
theorem is_body {S : IS K} [E : Ents S.args] {N : List Str} {vs : List V} {H : Hp} {Q : VK} {X : XK} {t : TS} (hN : E.len + 1 ≤ N.length) (hsp : S.sp vs H Q X)
    (body : ∀ (w : Wd) (n : Option Nat) (a : S.A) (p : Addr), S.pre a → May S.cost n → WpS K w n (.mu (rI S.C p []) :: (E.ents a ++ List.replicate (N.length - (E.len + 1)) .no)) t (fun _ : Unit => .no)
      (fun n' Γ' => ∃ x fl, S.post a x ∧ CLe S.cost n n' ∧ Γ'[0]? = some (.mu (rI S.C p fl)) ∧ FSame fl (S.flds x)) (fun _ _ => False) (fun _ _ => False) (fun _ _ => False)) :
    t { nx := fun _ H' => Q .non H', rt := Q } (L2.start N vs) H := by
  obtain ⟨d, ca, cs, n, B, a, p, dx, us, rfl, hp, hb, o, r, hpre, hm, q⟩ := hsp
  obtain ⟨l1, l2, l3⟩ := E.ok r
  have hents : ∀ (i : Nat) e, (E.ents a ++ List.replicate (N.length - (E.len + 1)) Ent.no)[i]? = some e → (∀ s a, ¬ e.owns s a) ∧ SlotOk ⟨d, ca, cs, B, del H p⟩ B H e (L2.start N (.ref p :: us))[i + 1]? := fun i e z => by
    have hst : L2.start N (.ref p :: us) = some (.ref p) :: (us.map some ++ List.replicate (N.length - (E.len + 1)) none) := by
      unfold L2.start; simp [l2]
    rw [hst, List.getElem?_cons_succ]
    by_cases hi : i < (E.ents a).length
    · rw [List.getElem?_append_left hi] at z
      rw [List.getElem?_append_left (by simpa [← l1] using hi)]
      exact l3 H ⟨d, ca, cs, B, del H p⟩ rfl i _ z
    · rw [List.getElem?_append_right (by omega), List.getElem?_replicate] at z
      split at z
      · cases z; exact ⟨fun _ _ y => y, trivial⟩
      · cases z
  have ok0 : Ok K ⟨d, ca, cs, B, del H p⟩ n (.mu (rI S.C p []) :: (E.ents a ++ List.replicate (N.length - (E.len + 1)) .no)) (L2.start N (.ref p :: us)) B H := by
    refine ⟨o.ex, o.ex0, o.nw, o.kp, o.hd, o.hh, o.pn, ?_, fun i e z => ?_, fun i j e e' x ne z z' oi oj => ?_⟩
    · unfold L2.start; simp [l1, l2]
    · cases i with
      | zero =>
        simp only [List.getElem?_cons_zero, Option.some.injEq] at z; subst z
        refine ⟨p, _, ?_, hp, hb, del_same, rfl, dx, [], rfl, Nat.zero_le _, FRep.nil fun _ => rfl⟩
        unfold L2.start; simp
      | succ i =>
        rw [List.getElem?_cons_succ] at z
        exact (hents i e z).2
    · cases i with
      | zero =>
        cases j with
        | zero => exact ne rfl
        | succ j =>
          rw [List.getElem?_cons_succ] at z'
          exact (hents j e' z').1 _ _ oj
      | succ i =>
        rw [List.getElem?_cons_succ] at z
        exact (hents i e z).1 _ _ oi
  refine body ⟨d, ca, cs, B, del H p⟩ n a p hpre hm (L2.start N (.ref p :: us)) B H ok0 _ (fun n' Γ' σ' B' H' ⟨x, fl, hx, hc, h0, hs⟩ e o' => ?_) (fun _ _ _ _ _ h _ _ => h.elim) (fun _ _ _ _ _ h _ _ => h.elim) (fun _ _ _ _ _ h _ _ _ => h.elim)
  obtain ⟨l, ob, k1, k2, k3, k4, rfl, dx', fs, rfl, k5, k6⟩ := o'.sl 0 _ h0
  rcases hc with ⟨c0, rfl⟩ | ⟨m, m', rfl, rfl, hle⟩
  · exact q x n' B' H' dx' fs hx (.inl ⟨c0, rfl⟩) e o'.nil k3 k2 (k6.same hs)
  · exact q x (some (m + S.cost)) B' H' dx' fs hx (.inr ⟨m, rfl, rfl⟩) e (o'.nil.le hle) k3 k2 (k6.same hs)
/-- from the end of an __init__ to the caller's -/
theorem Ok.made {σ : L2.St} {B H H2 B' H' : Hp} {n' : Option Nat} {x : Addr} {o : HO} (ok : Ok K w n Γ σ B H) (hx : H x = none) (e2 : Ex H H2) (hn : ∀ xs, o ≠ .lst xs) (c : Ok K ⟨w.d, w.ca, w.cs, B, del H2 x⟩ n' [] [] B' H') (hb : B' x = none) (hh : H' x = some o) :
    Ex B' (upd B' x o) ∧ Ok K w n' Γ σ (upd B' x o) H' := by
  have hdx : w.d ≠ x := fun z => by rw [← z] at hx; exact noS hx ok.hh
  have eb : Ex B' (upd B' x o) := Ex.new hb
  refine ⟨eb, ok.back ⟨c.ex.put hh, c.ex0.trans eb, fun a u q => ?_, fun a u q ne => ?_, ok.hh, c.hh, fun m q => ?_, rfl, fun i e q => by simp at q, fun i j e e' a _ q => by simp at q⟩⟩
  · by_cases z : a = x
    · subst z; exact .inr hx
    · rw [upd_ne z] at q
      rcases c.nw a u q with y | y
      · exact .inl y
      · have y : del H2 x a = none := y
        rw [del_ne z] at y
        exact .inr (e2.none y)
  · have z : a ≠ x := ne_of_none q hx
    exact c.kp a u (by show del H2 x a = some u; rw [del_ne z]; exact e2 _ _ q) ne
  · obtain ⟨fr, a, l, p1, p2, p3⟩ := c.pn m q
    exact ⟨by rw [upd_ne hdx]; exact fr, a, l, p1, eb _ _ p2, p3⟩
/-- C(..) -/
theorem we_make {S : IS K} {sp : Sp} (sub : ∀ vs H Q X, S.sp vs H Q X → sp vs H Q X) {E : XK} {tr : TA} {R : TyA A} {dvs : List V} (up : A → S.A) (hup : ∀ {d B vs a}, R.rep d B vs a → S.args.rep d B (vs ++ dvs) (up a)) {k : S.ρ → NK}
    (h : WpA K w n Γ tr R (fun a n Γ => S.pre (up a) ∧ May S.cost n ∧ ∀ x n', S.post (up a) x → Costs S.cost n n' → k x n' Γ)) : WpE K w n Γ (tMake S.C sp dvs E tr) (tObj S.C S.flds) k := fun σ B H ok Q c =>
  h σ B H ok _ fun a vs n1 Γ1 B1 H1 ⟨hp, hm, q⟩ e o r => by
    intro x dx hx hd ne
    have hx' : upd H1 dx (.own x) x = none := by rw [upd_ne (Ne.symm ne)]; exact hx
    have e2 : Ex H1 (upd (upd H1 dx (.own x)) x (.ins S.C dx [])) := (Ex.new hd).trans (Ex.new hx')
    have hbx : B1 x = none := o.ex.none hx
    have hdx : w.d ≠ x := fun z => by rw [← z] at hx; exact noS hx o.hh
    have hh2 : ((upd (upd H1 dx (.own x)) x (.ins S.C dx [])) w.d).isSome = true := by
      obtain ⟨ob, hob⟩ := Option.isSome_iff_exists.mp o.hh
      exact isS (e2 _ _ hob)
    refine sub _ _ _ _ ⟨w.d, w.ca, w.cs, n1, B1, up a, x, dx, vs ++ dvs, rfl, upd_same, hbx, ⟨o.ex.trans e2, Ex.refl _, fun a u q => .inl q, fun a u q _ => (del_some q).2, ?_, hh2, fun m q => ?_, rfl, fun i e q => by simp at q, fun i j e e' a _ q => by simp at q⟩, hup r, hp, hm, fun y n' B' H' dx' fs hy hc e' o' hb hh hf => ?_⟩
    · show (del _ x w.d).isSome = true
      rw [del_ne hdx]; exact hh2
    · obtain ⟨fr, a, l, p1, p2, p3⟩ := o.pn m q
      exact ⟨fr, a, l, e2 _ _ p1, p2, p3⟩
    · obtain ⟨eb, o2⟩ := o.made hx e2 (fun xs z => by cases z) o' hb hh
      exact ⟨rfl, c y (.ref x) n' Γ1 _ H' (q y n' hy hc) ((e.trans e').trans eb) o2 ⟨x, dx', fs, rfl, upd_same, hf.mono eb⟩⟩
/-! ### what is one's own lent out to a call that gives data -/
/-- data of this kind look at nothing that P says -/
def Blind (P : HO → Prop) (t : Ty α) : Prop := ∀ (B B' : Hp) v x, (∀ a o, B a = some o → B' a = some o ∨ P o) → t.rep B v x → t.rep B' v x
def PDict (o : HO) : Prop := ∃ kvs, o = .dK kvs
def PIns (C : Addr) (o : HO) : Prop := ∃ dx fs, o = .ins C dx fs
section
variable {P : HO → Prop}
theorem Flat.blind (h : Flat t) : Blind P t := fun B B' v x _ r => h B B' v x r
theorem blindL (hP : ∀ xs, ¬ P (.lst xs)) (h : Blind P t) : Blind P (tL t) := fun B B' v x e ⟨a, vs, h1, h2, h3⟩ => ⟨a, vs, h1, (e _ _ h2).resolve_right (hP _), pw_mono (fun _ _ => h B B' _ _ e) h3⟩
theorem blindU (hP : ∀ xs, ¬ P (.tup xs)) (h : Blind P t) : Blind P (tU t) := fun B B' v x e ⟨a, vs, h1, h2, h3⟩ => ⟨a, vs, h1, (e _ _ h2).resolve_right (hP _), pw_mono (fun _ _ => h B B' _ _ e) h3⟩
theorem blindP (hP : ∀ xs, ¬ P (.tup xs)) (h : Blind P t) (h' : Blind P u) : Blind P (tP t u) := fun B B' v x e ⟨a, p, q, h1, h2, h3, h4⟩ => ⟨a, p, q, h1, (e _ _ h2).resolve_right (hP _), h B B' _ _ e h3, h' B B' _ _ e h4⟩
theorem blindO (h : Blind P t) : Blind P (tO t) := fun B B' v x e r => by
  cases x with
  | none => exact r
  | some y => exact h B B' v y e r
/-- all the kinds of the fields are blind -/
def BlindF (P : HO → Prop) (fl : Flds) : Prop := ∀ f e, fl.lookup f = some e → Blind P e.t
theorem BlindF.nil : BlindF P [] := fun f e h => by cases h
theorem BlindF.cons {f : Str} {e : Dt} {fl : Flds} (h : Blind P e.t) (r : BlindF P fl) : BlindF P ((f, e) :: fl) := fun g d hd => by
  by_cases z : g = f
  · have hb : (g == f) = true := beq_iff_eq.mpr z
    simp only [List.lookup, hb] at hd
    cases hd; exact h
  · have hb : (g == f) = false := beq_eq_false_iff_ne.mpr z
    simp only [List.lookup, hb] at hd
    exact r g d hd
theorem FRep.blind {B B' : Hp} {lk : Str → Option V} {fl : Flds} (hf : BlindF P fl) (e : ∀ a o, B a = some o → B' a = some o ∨ P o) (h : FRep B lk fl) : FRep B' lk fl := fun f => ⟨(h f).1, fun d hd => by
  obtain ⟨v, h1, h2⟩ := (h f).2 d hd
  exact ⟨v, h1, hf f d hd B B' v d.x e h2⟩⟩
theorem blindObj {C : Addr} {flds : α → Flds} (hP : ∀ dx fs, ¬ P (.ins C dx fs)) (hf : ∀ x, BlindF P (flds x)) : Blind P (tObj C flds) := fun B B' v x e ⟨a, dx, fs, h1, h2, h3⟩ => ⟨a, dx, fs, h1, (e _ _ h2).resolve_right (hP _ _), h3.blind (hf x) e⟩
end
/-- after the lending -/
theorem Ok.unlendP {P : HO → Prop} {σ : L2.St} {B H B' H' : Hp} {l : Addr} {o : HO} {n' : Option Nat} (ok : Ok K w n Γ σ B H) (h2 : H l = some o) (h3 : B l = none) (h4 : w.H0 l = none) (ho : P o) (hP : ∀ xs, ¬ P (.lst xs))
    (c : Ok K ⟨w.d, w.ca, w.cs, upd B l o, H⟩ n' [] [] B' H') : Ok K w n' Γ σ (del B' l) H' ∧ ∀ a q, B' a = some q → del B' l a = some q ∨ P q := by
  have ne : l ≠ w.d := fun z => noS h4 (z ▸ ok.hd)
  have hB : B' l = some o := c.ex0 l o upd_same
  have mv : ∀ a q, B' a = some q → del B' l a = some q ∨ P q := fun a q e => by
    by_cases z : a = l
    · subst z; rw [hB] at e; cases e; exact .inr ho
    · rw [del_ne z]; exact .inl e
  have eb : Ex B (del B' l) := fun a q e => by
    have z : a ≠ l := ne_of_none e h3
    rw [del_ne z]; exact c.ex0 a q (by show upd B l o a = some q; rw [upd_ne z]; exact e)
  refine ⟨⟨fun a q e => c.ex a q (del_some e).2, ok.ex0.trans eb, fun a q e => ?_, fun a q e na => c.kp a q (ok.kp a q e na) na, ok.hd, c.hh, fun m q => ?_, ok.ln, fun i en q => ?_, ok.ds⟩, mv⟩
  · obtain ⟨z, e'⟩ := del_some e
    rcases c.nw a q e' with y | y
    · have y : upd B l o a = some q := y
      rw [upd_ne z] at y; exact ok.nw a q y
    · right
      have y : H a = none := y
      cases hq : w.H0 a with
      | none => rfl
      | some u =>
        by_cases na : a = w.d
        · subst na; exact (noS y ok.hh).elim
        · rw [ok.kp a u hq na] at y; cases y
  · obtain ⟨fr, a, b, p1, p2, p3⟩ := c.pn m q
    refine ⟨by rw [del_ne (Ne.symm ne)]; exact fr, a, b, p1, ?_, p3⟩
    exact (mv _ _ p2).resolve_right (hP _)
  · have s := ok.sl i en q
    refine s.keep eb rfl fun a ha => ?_
    obtain ⟨ob, g1, g2, g3⟩ := s.owned ha
    have na : a ≠ w.d := fun z => noS g3 (z ▸ ok.hd)
    refine ⟨by rw [g1]; exact c.kp a ob g1 na, ?_, g3⟩
    by_cases z : a = l
    · subst z; exact del_same
    · rw [del_ne z]
      cases hq : B' a with
      | none => rfl
      | some u =>
        rcases c.nw a u hq with y | y
        · have y : upd B l o a = some u := y
          rw [upd_ne z, g2] at y; cases y
        · have y : H a = none := y
          rw [g1] at y; cases y
/-- what stands for the own thing while it is lent: a datum -/
structure Lent {β : Type} (P : HO → Prop) (r : Rs) (u : Ty β) (y : β) : Prop where
  no : ∀ xs, ¬ P (.lst xs)
  is : ∀ {l B o}, r.R l B o → P o
  rep : ∀ {l B o}, r.R l B o → B l = none → u.rep (upd B l o) (.ref l) y
theorem Ok.lendP {r : Rs} {P : HO → Prop} {y : β} {σ : L2.St} {B H : Hp} {i : Nat} (L : Lent P r u y) (ok : Ok K w n Γ σ B H) (hi : Γ[i]? = some (.mu r)) :
    ∃ l o, H l = some o ∧ B l = none ∧ w.H0 l = none ∧ P o ∧ Ok K ⟨w.d, w.ca, w.cs, upd B l o, H⟩ n (hideE (Γ.set i (.im u y)) []) σ (upd B l o) H := by
  obtain ⟨l, o, h1, h2, h3, h4, h5⟩ := ok.sl i _ hi
  obtain ⟨o', g1, g2, g3, g4⟩ := ok.freeze hi h1
  rw [h2] at g1; cases g1
  have ok2 := g4.setIm (i := i) (L.rep h5 h3)
  rw [List.set_set, slot_same h1] at ok2
  exact ⟨l, o, h2, h3, h4, L.is h5, ok2.inner []⟩
/-- an expression that reads one's own thing and gives data -/
theorem we_lend {r : Rs} {P : HO → Prop} {y : β} {k : α → NK} (i : Nat) (hi : Γ[i]? = some (.mu r)) (L : Lent P r u y) (hb : Blind P t) (h : ∀ w' : Wd, SetE (hideE (Γ.set i (.im u y)) []) fun Γ' => WpE K w' n Γ' te t (fun x n' _ => k x n' Γ)) : WpE K w n Γ te t k := fun σ B H ok Q c => by
  obtain ⟨l, o, h1, h2, h3, h4, o1⟩ := ok.lendP L hi
  refine h _ σ _ H o1 Q fun x v n' Γ' B' H' q e o2 rp => ?_
  obtain ⟨o3, mv⟩ := ok.unlendP h1 h2 h3 h4 L.no o2.nil
  exact c x v n' Γ _ H' q (fun a q e' => by
    have z : a ≠ l := ne_of_none e' h2
    rw [del_ne z]; exact e a q (by rw [upd_ne z]; exact e')) o3 (hb _ _ _ _ mv rp)
/-- .. and gives a new list of one's own -/
theorem wm_lend {r : Rs} {P : HO → Prop} {y : β} {k : Rs → NK} (i : Nat) (hi : Γ[i]? = some (.mu r)) (L : Lent P r u y) (t : Ty α) (hb : Blind P t) (h : ∀ w' : Wd, SetE (hideE (Γ.set i (.im u y)) []) fun Γ' => WpM K w' n Γ' te (fun x n' _ => ∃ ys, x = rL t ys ∧ k (rL t ys) n' Γ)) : WpM K w n Γ te k := fun σ B H ok Q c => by
  obtain ⟨l, o, h1, h2, h3, h4, o1⟩ := ok.lendP L hi
  refine h _ σ _ H o1 Q fun x v n' Γ' B' H' ⟨ys, hx, q⟩ e o2 ow => ?_
  subst hx
  obtain ⟨o3, mv⟩ := ok.unlendP h1 h2 h3 h4 L.no o2.nil
  obtain ⟨⟨ob, k1, vs, rfl, p⟩, k2, k3, k4⟩ := ow
  have k3 : H v = none := k3
  refine c _ v n' Γ _ H' q (fun a q e' => by
    have z : a ≠ l := ne_of_none e' h2
    rw [del_ne z]; exact e a q (by rw [upd_ne z]; exact e')) o3 ⟨⟨_, k1, vs, rfl, pw_mono (fun _ _ => hb _ _ _ _ mv) p⟩, ?_, ?_, fun j en hj z => ?_⟩
  · by_cases z : v = l
    · subst z; exact del_same
    · rw [del_ne z]; exact k2
  · cases hq : w.H0 v with
    | none => rfl
    | some u =>
      by_cases na : v = w.d
      · subst na; exact (noS k3 ok.hh).elim
      · rw [ok.kp v u hq na] at k3; cases k3
  · obtain ⟨_, g1, _⟩ := (ok.sl j _ hj).owned z
    rw [k3] at g1; cases g1
theorem wt_lend {r : Rs} {P : HO → Prop} {y : β} {tt : TT} {kt kf : NK} (i : Nat) (hi : Γ[i]? = some (.mu r)) (L : Lent P r u y) (h : ∀ w' : Wd, SetE (hideE (Γ.set i (.im u y)) []) fun Γ' => WpT K w' n Γ' tt (fun n' _ => kt n' Γ) (fun n' _ => kf n' Γ)) : WpT K w n Γ tt kt kf := fun σ B H ok Q ct cf => by
  obtain ⟨l, o, h1, h2, h3, h4, o1⟩ := ok.lendP L hi
  have ev : ∀ {B'}, Ex (upd B l o) B' → Ex B (del B' l) := fun e a q e' => by
    have z : a ≠ l := ne_of_none e' h2
    rw [del_ne z]; exact e a q (by rw [upd_ne z]; exact e')
  exact h _ σ _ H o1 Q (fun n' Γ' B' H' q e o2 => ct n' Γ _ H' q (ev e) (ok.unlendP h1 h2 h3 h4 L.no o2.nil).1) (fun n' Γ' B' H' q e o2 => cf n' Γ _ H' q (ev e) (ok.unlendP h1 h2 h3 h4 L.no o2.nil).1)
theorem lent_obj {C p : Addr} {flds : α → Flds} {fl : Flds} {x : α} (e : FSame fl (flds x)) : Lent (PIns C) (rI C p fl) (tObj C flds) x :=
  ⟨(fun xs ⟨_, _, h⟩ => by cases h), fun ⟨_, dx, fs, h, _⟩ => ⟨dx, fs, h⟩, fun {l B o} ⟨_, dx, fs, h, _, r⟩ hb => ⟨l, dx, fs, rfl, by subst h; exact upd_same, (r.mono (Ex.new hb)).same e⟩⟩
theorem lent_sd {flds : α → Flds} {fl : Flds} {x : α} (e : FSame fl (flds x)) : Lent PDict (rS fl) (tSD flds) x :=
  ⟨(fun xs ⟨_, h⟩ => by cases h), fun ⟨kvs, h, _⟩ => ⟨kvs, h⟩, fun {l B o} ⟨kvs, h, _, r⟩ hb => ⟨l, kvs, rfl, by subst h; exact upd_same, (r.mono (Ex.new hb)).same e⟩⟩
end
end TL

/-! # TL: dict comprehensions, frozen dicts, dicts with texts as keys, sorted, abs, pairs by order -/
namespace TL
open PySem L2
open PySem.W (Frag)
/-- a dict with whole-number keys that nobody changes any more -/
def tD {α : Type} (t : Ty α) : Ty (List (Int × α)) := ⟨fun B v xs => ∃ a kv, v = .ref a ∧ B a = some (.dK kv) ∧ Paired (fun (p : Key × V) (q : Int × α) => p.1 = .inl q.1 ∧ t.rep B p.2 q.2) kv xs,
  fun e ⟨a, kv, h, s, p⟩ => ⟨a, kv, h, e _ _ s, pw_mono (fun _ _ ⟨h1, h2⟩ => ⟨h1, t.mono e h2⟩) p⟩⟩
/-- .. while it is walked -/
def tDF {α : Type} (t : Ty α) : Ty (List (Int × α)) := ⟨fun B v xs => ∃ a od kv, v = .ref a ∧ B a = some (.frz od (.dK kv)) ∧ Paired (fun (p : Key × V) (q : Int × α) => p.1 = .inl q.1 ∧ t.rep B p.2 q.2) kv xs,
  fun e ⟨a, od, kv, h, s, p⟩ => ⟨a, od, kv, h, e _ _ s, pw_mono (fun _ _ ⟨h1, h2⟩ => ⟨h1, t.mono e h2⟩) p⟩⟩
section
variable {K : Frag} {w : Wd} {n : Option Nat} {Γ Γ' : Env} {α β γ δ ρ A : Type} {t : Ty α} {u : Ty β} {ta tb te : TE} {ts ts' : TS} {res : ρ → Ent} {nx bk ct : NK} {rt : ρ → Option Nat → Prop}
/-! ### dict comprehensions -/
theorem wm_dc {wi : TI} {g : TG} {tt : TT} {tk tv : TE} {vs : List Nat} {kk : Rs → NK} (u : Ty β) (I : List α → Nat → List (Int × β) → Option Nat → Prop) (hg : GSl g vs)
    (h : WpI K w n Γ wi t (fun xs n Γ => For3 (I xs 0 [] n) (∀ (w' : Wd) (i : Nat) x ys n, w'.d = w.d → w'.ca = w.ca → w'.cs = w.cs → xs[i]? = some x → I xs i ys n →
      SetE (hideE Γ vs) fun Γh => WpG K w' n Γh g t x (fun n Γ => WpT K w' n Γ tt (fun n Γ => WpE K w' n Γ tk tI (fun k n Γ => WpE K w' n Γ tv u (fun y n _ => ys.length < 100000 ∧ I xs (i + 1) (dPut ys k y) n))) (fun n _ => I xs (i + 1) ys n)))
      (∀ ys n, I xs xs.length ys n → kk (rD u ys) n Γ))) : WpM K w n Γ (tDc wi g tt tk tv vs) kk := fun σ B H ok Q c =>
  h σ B H ok _ fun xs J n0 Γ0 B0 H0 ⟨hu, hs, he⟩ e0 o0 it => by
    intro D hD
    refine ⟨fun i m H => m + i = xs.length ∧ ∃ ys n B1 acc, I xs i ys n ∧ Ex B0 B1 ∧ Ok K w n Γ0 σ B1 H ∧ Own w Γ0 σ B1 H (rD u ys) D ∧ H D = some (.dK acc) ∧ Paired (fun (p : Key × V) (q : Int × β) => p.1 = .inl q.1 ∧ u.rep B1 p.2 q.2) acc ys, ?_, ?_⟩
    · exact ⟨xs.length, rfl, [], n0, B0, [], hu, Ex.refl _, o0.grow (Grow.open o0.ex hD), Own.new o0 hD ⟨[], rfl, .nil⟩, upd_same, .nil⟩
    · rintro i m H1 ⟨hm, ys, n1, B1, acc, hI, e1, o1, ow1, hacc, pacc⟩
      by_cases hi : i < xs.length
      · refine .inr ⟨it.go i H1 (e1.trans o1.ex) hi, fun H' => ∃ ys n B1 acc, I xs (i + 1) ys n ∧ Ex B0 B1 ∧ Ok K w n Γ0 σ B1 H' ∧ Own w Γ0 σ B1 H' (rD u ys) D ∧ H' D = some (.dK acc) ∧ Paired (fun (p : Key × V) (q : Int × β) => p.1 = .inl q.1 ∧ u.rep B1 p.2 q.2) acc ys, ?_, ?_⟩
        · rintro H' hN
          exact ⟨m - 1, by omega, by omega, hN⟩
        · intro v H' hy
          obtain ⟨B2, gr, rp⟩ := it.yld i _ H1 B1 v H' (List.getElem?_eq_getElem hi) e1 o1.ex hy
          have o2 := o1.grow gr
          have ow2 := ow1.grow gr
          have hD2 : H' D = some (.dK acc) := gr.h _ _ hacc
          have ned : D ≠ w.d := ow2.ned o2
          have back : ∀ {n' B' H''}, Ok K ⟨w.d, w.ca, w.cs, B2, H'⟩ n' [] [] B' H'' → Ok K w n' Γ0 σ B' H'' ∧ H'' D = some (.dK acc) ∧ B' D = none := fun {n' B' H''} o => by
            refine ⟨o2.back o, o.kp D _ hD2 ned, ?_⟩
            cases q : B' D with
            | none => rfl
            | some z =>
              rcases o.nw D z q with r | r
              · have r' : B2 D = some z := r
                rw [ow2.b] at r'; cases r'
              · have r' : H' D = none := r
                rw [hD2] at r'; cases r'
          have key := hs ⟨w.d, w.ca, w.cs, B2, H'⟩ i _ ys n1 rfl rfl rfl (List.getElem?_eq_getElem hi) hI (wipe σ vs) B2 H' (o2.inner vs) v rp _ fun n3 Γ3 σ3 B3 H3 q3 e3 o3 => q3 σ3 B3 H3 o3 (fun b H3 =>
              if b = true then tk σ3 H3 fun y H4 => tv σ3 H4 fun z H5 => ∃ kvs k, y = kV k ∧ H5 D = some (.dK kvs) ∧ kvs.length < sizeLine ∧ ∃ ys n B1 acc', I xs (i + 1) ys n ∧ Ex B0 B1 ∧ Ok K w n Γ0 σ B1 (upd H5 D (.dK (putK kvs k z))) ∧ Own w Γ0 σ B1 (upd H5 D (.dK (putK kvs k z))) (rD u ys) D ∧ (upd H5 D (.dK (putK kvs k z))) D = some (.dK acc') ∧ Paired (fun (p : Key × V) (q : Int × β) => p.1 = .inl q.1 ∧ u.rep B1 p.2 q.2) acc' ys
              else ∃ ys n B1 acc, I xs (i + 1) ys n ∧ Ex B0 B1 ∧ Ok K w n Γ0 σ B1 H3 ∧ Own w Γ0 σ B1 H3 (rD u ys) D ∧ H3 D = some (.dK acc) ∧ Paired (fun (p : Key × V) (q : Int × β) => p.1 = .inl q.1 ∧ u.rep B1 p.2 q.2) acc ys)
            (fun n4 Γ4 B4 H4 q4 e4 o4 => by
              rw [if_pos rfl]
              refine q4 σ3 B4 H4 o4 _ fun k kv n5 Γ5 B5 H5 q5 e5 o5 rk => q5 σ3 B5 H5 o5 _ fun y yv n6 Γ6 B6 H6 ⟨hz, hI6⟩ e6 o6 ry => ?_
              have rk : kv = .int k := rk
              subst rk
              obtain ⟨ok6, hd6, bd6⟩ := back o6.nil
              have ex26 : Ex B2 B6 := ((e3.trans e4).trans e5).trans e6
              have pm : Paired (fun (p : Key × V) (q : Int × β) => p.1 = .inl q.1 ∧ u.rep B6 p.2 q.2) acc ys := pw_mono (fun _ _ ⟨g1, g2⟩ => ⟨g1, u.mono (gr.b.trans ex26) g2⟩) pacc
              have pr := putK_pair (i := k) ry pm
              have ow6 : Own w Γ0 σ B6 H6 (rD u ys) D := ⟨⟨_, hd6, acc, rfl, pm⟩, bd6, ow1.h0, ow1.df⟩
              refine ⟨acc, .inl k, rfl, hd6, by rw [pw_len pacc]; exact szl hz, dPut ys k y, n6, B6, putK acc (.inl k) yv, hI6, (e1.trans gr.b).trans ex26, ?_, ?_, upd_same, pr⟩
              · exact ok6.chg bd6 ow1.h0 rfl (fun j e q => .inr ⟨q, ow1.df j e q⟩) (fun x e q => .inr ⟨e, q, fun a ha => ha⟩)
              · exact ⟨⟨_, upd_same, putK acc (.inl k) yv, rfl, pr⟩, bd6, ow1.h0, ow1.df⟩) (fun n4 Γ4 B4 H4 q4 e4 o4 => by
              rw [if_neg Bool.false_ne_true]
              obtain ⟨ok5, hd5, bd5⟩ := back o4.nil
              have ex25 : Ex B2 B4 := e3.trans e4
              have pr : Paired (fun (p : Key × V) (q : Int × β) => p.1 = .inl q.1 ∧ u.rep B4 p.2 q.2) acc ys := pw_mono (fun _ _ ⟨g1, g2⟩ => ⟨g1, u.mono (gr.b.trans ex25) g2⟩) pacc
              exact ⟨ys, n4, B4, acc, q4, (e1.trans gr.b).trans ex25, ok5, ⟨⟨_, hd5, acc, rfl, pr⟩, bd5, ow1.h0, ow1.df⟩, hd5, pr⟩)
          have key2 := hg v (wipe σ vs) H' _ key
          have ww : wipe (wipe σ vs) vs = wipe σ vs := by
            have gen : ∀ (us : List Nat) (τ : L2.St), (∀ i ∈ us, ∀ x, τ[i]? = some x → x = none) → wipe τ us = τ := fun us => by
              induction us with
              | nil => intro τ _; rfl
              | cons a us ih =>
                intro τ hτ
                unfold wipe
                rw [ih τ fun i hi => hτ i (by simp [hi])]
                apply List.ext_getElem?
                intro j
                rw [List.getElem?_set]
                split
                · rename_i z; subst z
                  split
                  · rename_i z
                    have := hτ a (by simp) τ[a] (List.getElem?_eq_getElem z)
                    rw [List.getElem?_eq_getElem z, this]
                  · rename_i z; exact (List.getElem?_eq_none_iff.mpr (by omega)).symm
                · rfl
            refine gen vs _ fun i hi x hx => ?_
            cases x with
            | none => rfl
            | some y => exact absurd hi (wipe_some hx).2
          rw [ww] at key2
          exact key2
      · have hi2 : i = xs.length := by omega
        subst hi2
        exact .inl ⟨it.stop H1 (e1.trans o1.ex), c _ D n1 Γ0 B1 H1 (he ys n1 hI) (e0.trans e1) o1 ow1⟩
/-! ### frozen dicts -/
theorem view_freezeD {i : Nat} {xs : List (Int × α)} (h : Γ[i]? = some (.md t xs)) : View K w n Γ n (Γ.set i (.im (tD t) xs)) := fun σ B H ok => by
  obtain ⟨l, o, h1, h2⟩ := ok.sl i _ h
  obtain ⟨o', h3, ⟨kv, rfl, p⟩, e, ok'⟩ := ok.freeze h h1
  have rp : (tD t).rep (upd B l (.dK kv)) (.ref l) xs := ⟨l, kv, rfl, upd_same, pw_mono (fun _ _ ⟨g1, g2⟩ => ⟨g1, t.mono e g2⟩) p⟩
  have ok2 := ok'.setIm (i := i) rp
  rw [List.set_set, slot_same h1] at ok2
  exact ⟨_, e, ok2⟩
/-- d[i] -/
theorem we_dgetF {td ty : TE} {k : α → NK} (h : WpE K w n Γ td (tD t) (fun kvs n Γ => WpE K w n Γ ty tI (fun j n Γ => ∃ x, dGet kvs j = some x ∧ k x n Γ))) : WpE K w n Γ (tDGet td ty) t k := fun σ B H ok Q c =>
  h σ B H ok _ fun kvs v n1 Γ1 B1 H1 q1 e1 o1 ⟨a, kv, hv, hs, p⟩ => q1 σ B1 H1 o1 _ fun j jv n2 Γ2 B2 H2 ⟨x, hx, q2⟩ e2 o2 r2 => by
    subst hv
    have p2 : Paired (fun (p : Key × V) (q : Int × α) => p.1 = .inl q.1 ∧ t.rep B2 p.2 q.2) kv kvs := pw_mono (fun _ _ ⟨g1, g2⟩ => ⟨g1, t.mono e2 g2⟩) p
    rcases valV_pair (i := j) p2 with ⟨_, z⟩ | ⟨y, x', z1, z2, z3⟩
    · rw [z] at hx; cases hx
    · rw [z2] at hx; cases hx
      exact ⟨a, y, rfl, .inl ⟨kv, .inl j, .inl (o2.ex _ _ (e2 _ _ hs)), r2, z1.symm⟩, c x y n2 Γ2 B2 H2 q2 (e1.trans e2) o2 z3⟩
/-- d.get(i, e) -/
theorem we_dget2F {td ty tx : TE} {k : α → NK} (h : WpE K w n Γ td (tD t) (fun kvs n Γ => WpE K w n Γ ty tI (fun j n Γ => WpE K w n Γ tx t (fun z n Γ => k ((dGet kvs j).getD z) n Γ)))) : WpE K w n Γ (tDGet2 td ty tx) t k := fun σ B H ok Q c =>
  h σ B H ok _ fun kvs v n1 Γ1 B1 H1 q1 e1 o1 ⟨a, kv, hv, hs, p⟩ => by
    subst hv
    refine ⟨a, rfl, .inl ⟨kv, .inl (o1.ex _ _ hs)⟩, q1 σ B1 H1 o1 _ fun j jv n2 Γ2 B2 H2 q2 e2 o2 r2 => q2 σ B2 H2 o2 _ fun z zv n3 Γ3 B3 H3 q3 e3 o3 r3 => ?_⟩
    have p3 : Paired (fun (p : Key × V) (q : Int × α) => p.1 = .inl q.1 ∧ t.rep B3 p.2 q.2) kv kvs := pw_mono (fun _ _ ⟨g1, g2⟩ => ⟨g1, t.mono (e2.trans e3) g2⟩) p
    refine ⟨valV kv (.inl j), .inl ⟨kv, .inl j, .inl (o3.ex _ _ (e3 _ _ (e2 _ _ hs))), r2, rfl⟩, ?_⟩
    rcases valV_pair (i := j) p3 with ⟨z1, z2⟩ | ⟨y, x', z1, z2, z3⟩
    · rw [z1]
      exact c _ zv n3 Γ3 B3 H3 q3 ((e1.trans e2).trans e3) o3 (by rw [z2]; exact r3)
    · rw [z1]
      exact c _ y n3 Γ3 B3 H3 q3 ((e1.trans e2).trans e3) o3 (by rw [z2]; exact z3)
theorem Iter.mono {xs : List α} {J : It} {B B' : Hp} (e : Ex B B') (h : Iter t xs J B) : Iter t xs J B' := ⟨fun H1 x => h.stop H1 (e.trans x), fun i H1 x => h.go i H1 (e.trans x), fun i x H1 B1 v H' hx x1 x2 hy => h.yld i x H1 B1 v H' hx (e.trans x1) x2 hy⟩
/-- what is walked is known: the rest may be weakened -/
theorem wi_view {wi : TI} {k : List α → NK} (h : WpI K w n Γ wi t (fun xs n Γ => ∃ n' Γ', View K w n Γ n' Γ' ∧ k xs n' Γ')) : WpI K w n Γ wi t k := fun σ B H ok R c =>
  h σ B H ok R fun xs J n1 Γ1 B1 H1 ⟨n2, Γ2, vw, q⟩ e o it => by
    obtain ⟨B2, e2, o2⟩ := vw σ B1 H1 o
    exact c xs J n2 Γ2 B2 H1 q (e.trans e2) o2 (it.mono e2)
/-! ### dicts walked within an expression -/
theorem wi_keysF {td : TE} {k : List Int → NK} (h : WpE K w n Γ td (tDF t) (fun kvs n Γ => k (kvs.map (·.1)) n Γ)) : WpI K w n Γ (iKeys td) tI k := fun σ B H ok R c =>
  h σ B H ok _ fun kvs v n1 Γ1 B1 H1 q e o ⟨a, od, kv, hv, hs, p⟩ => by
    subst hv
    have hl := pw_len p
    refine ⟨a, od, rfl, .inl ⟨kv, o.ex _ _ hs, c _ _ n1 Γ1 B1 H1 q e o ⟨fun H2 x => ⟨x _ _ hs, by rw [List.length_map]; omega⟩, fun i H2 x hi => ⟨x _ _ hs, by rw [List.length_map] at hi; omega⟩, fun i x H2 B2 v H' hx x1 x2 hy => ?_⟩⟩⟩
    obtain ⟨rfl, key, vv, hkey, rfl⟩ := hy
    obtain ⟨y, hy, hk1, _⟩ := pw_getL p hkey
    rw [List.getElem?_map, hy] at hx
    cases hx
    exact ⟨B2, Grow.refl x2, by have : key = .inl y.1 := hk1; rw [this]; rfl⟩
/-- after the lending of a thing that stood otherwise meanwhile -/
theorem Ok.unlendX {P : HO → Prop} {σ : L2.St} {B H B' H' : Hp} {l : Addr} {o o1 : HO} {n' : Option Nat} (ok : Ok K w n Γ σ B H) (h2 : H l = some o) (h3 : B l = none) (h4 : w.H0 l = none) (ho : P o1) (hP : ∀ xs, ¬ P (.lst xs))
    (c : Ok K ⟨w.d, w.ca, w.cs, upd B l o1, upd H l o1⟩ n' [] [] B' H') : Ok K w n' Γ σ (del B' l) (upd H' l o) ∧ H' l = some o1 ∧ ∀ a q, B' a = some q → del B' l a = some q ∨ P q := by
  have ne : l ≠ w.d := fun z => noS h4 (z ▸ ok.hd)
  have hB : B' l = some o1 := c.ex0 l o1 upd_same
  have mv : ∀ a q, B' a = some q → del B' l a = some q ∨ P q := fun a q e => by
    by_cases z : a = l
    · subst z; rw [hB] at e; cases e; exact .inr ho
    · rw [del_ne z]; exact .inl e
  have eb : Ex B (del B' l) := fun a q e => by
    have z : a ≠ l := ne_of_none e h3
    rw [del_ne z]; exact c.ex0 a q (by show upd B l o1 a = some q; rw [upd_ne z]; exact e)
  have kpH : ∀ a q, a ≠ w.d → H a = some q → (upd H' l o) a = some q := fun a q na e => by
    by_cases z : a = l
    · subst z; rw [upd_same]; rw [h2] at e; exact e
    · rw [upd_ne z]; exact c.kp a q (by show upd H l o1 a = some q; rw [upd_ne z]; exact e) na
  refine ⟨⟨fun a q e => ?_, ok.ex0.trans eb, fun a q e => ?_, fun a q e na => kpH a q na (ok.kp a q e na), ok.hd, by rw [upd_ne (Ne.symm ne)]; exact c.hh, fun m q => ?_, ok.ln, fun i en q => ?_, ok.ds⟩, c.ex _ _ hB, mv⟩
  · obtain ⟨z, e'⟩ := del_some e
    rw [upd_ne z]; exact c.ex a q e'
  · obtain ⟨z, e'⟩ := del_some e
    rcases c.nw a q e' with y | y
    · have y : upd B l o1 a = some q := y
      rw [upd_ne z] at y; exact ok.nw a q y
    · right
      have y : upd H l o1 a = none := y
      rw [upd_ne z] at y
      cases hq : w.H0 a with
      | none => rfl
      | some u =>
        by_cases na : a = w.d
        · subst na; exact (noS y ok.hh).elim
        · rw [ok.kp a u hq na] at y; cases y
  · obtain ⟨fr, a, b, p1, p2, p3⟩ := c.pn m q
    refine ⟨by rw [del_ne (Ne.symm ne)]; exact fr, a, b, by rw [upd_ne (Ne.symm ne)]; exact p1, ?_, p3⟩
    exact (mv _ _ p2).resolve_right (hP _)
  · have s := ok.sl i en q
    refine s.keep eb rfl fun a ha => ?_
    obtain ⟨ob, g1, g2, g3⟩ := s.owned ha
    have na : a ≠ w.d := fun z => noS g3 (z ▸ ok.hd)
    refine ⟨by rw [g1]; exact kpH a ob na g1, ?_, g3⟩
    by_cases z : a = l
    · subst z; exact del_same
    · rw [del_ne z]
      cases hq : B' a with
      | none => rfl
      | some u =>
        rcases c.nw a u hq with y | y
        · have y : upd B l o1 a = some u := y
          rw [upd_ne z, g2] at y; cases y
        · have y : upd H l o1 a = none := y
          rw [upd_ne z, g1] at y; cases y
def PFrz (o : HO) : Prop := ∃ od u, o = .frz od u
/-- a new list made while one's own dict is locked -/
theorem wm_lock {kvs : List (Int × α)} {k : Rs → NK} (i : Nat) (hi : Γ[i]? = some (.md t kvs)) (u : Ty β) (hb : Blind PFrz u) (h : ∀ w' : Wd, SetE (hideE (Γ.set i (.im (tDF t) kvs)) []) fun Γ' => WpM K w' n Γ' te (fun x n' _ => ∃ ys, x = rL u ys ∧ k (rL u ys) n' Γ)) : WpM K w n Γ (tLockE te) k := fun σ B H ok Q c => by
  obtain ⟨l, o, h1, h2, h3, h4, kv, rfl, p⟩ := ok.sl i _ hi
  refine ⟨l, .dK kv, h2, trivial, fun od => ?_⟩
  have ne : l ≠ w.d := fun z => noS h4 (z ▸ ok.hd)
  have ok1 : Ok K w n (Γ.set i (.mu (rDF t l od (.dK kv) kvs))) σ B (upd H l (.frz od (.dK kv))) := ok.put (r' := rDF t l od (.dK kv) kvs) hi h1 ⟨rfl, rfl, kv, rfl, p⟩
  have il : i < Γ.length := (List.getElem?_eq_some_iff.mp hi).1
  have hi2 : (Γ.set i (.mu (rDF t l od (.dK kv) kvs)))[i]? = some (.mu (rDF t l od (.dK kv) kvs)) := by rw [List.getElem?_set, if_pos rfl, if_pos il]
  obtain ⟨o', g1, g2, g3, g4⟩ := ok1.freeze hi2 h1
  rw [upd_same] at g1; cases g1
  have rp : (tDF t).rep (upd B l (.frz od (.dK kv))) (.ref l) kvs := ⟨l, od, kv, rfl, upd_same, pw_mono (fun _ _ ⟨q1, q2⟩ => ⟨q1, t.mono g3 q2⟩) p⟩
  have ok2 := g4.setIm (i := i) rp
  rw [List.set_set, List.set_set, slot_same h1] at ok2
  refine h _ σ _ _ (ok2.inner []) _ fun x v n' Γ' B' H' ⟨ys, hx, q⟩ e o2 ow => ?_
  subst hx
  obtain ⟨o3, hl3, mv⟩ := ok.unlendX h2 h3 h4 (P := PFrz) ⟨od, _, rfl⟩ (fun xs ⟨_, _, z⟩ => by cases z) o2.nil
  obtain ⟨⟨ob, k1, vs, rfl, pv⟩, k2, k3, k4⟩ := ow
  have k3 : upd H l (.frz od (.dK kv)) v = none := k3
  have vl : v ≠ l := fun z => by rw [z, upd_same] at k3; cases k3
  rw [upd_ne vl] at k3
  refine ⟨hl3, c _ v n' Γ _ _ q (fun a q e' => by
    have z : a ≠ l := ne_of_none e' h3
    rw [del_ne z]; exact e a q (by rw [upd_ne z]; exact e')) o3 ⟨⟨_, by rw [upd_ne vl]; exact k1, vs, rfl, pw_mono (fun _ _ => hb _ _ _ _ mv) pv⟩, by rw [del_ne vl]; exact k2, ?_, fun j en hj z => ?_⟩⟩
  · cases hq : w.H0 v with
    | none => rfl
    | some u =>
      by_cases na : v = w.d
      · subst na; exact (noS k3 ok.hh).elim
      · rw [ok.kp v u hq na] at k3; cases k3
  · obtain ⟨_, g1, _⟩ := (ok.sl j _ hj).owned z
    rw [k3] at g1; cases g1
/-! ### dicts with texts as keys -/
theorem valV_inr {f : Str} : kV (.inr f) = V.str f := rfl
/-- d["f"], frozen -/
theorem we_sdF {flds : α → Flds} {f : Str} {td : TE} {k : β → NK} (y : α → β) (hl : ∀ x, (flds x).lookup f = some ⟨u, y x⟩) (h : WpE K w n Γ td (tSD flds) (fun x n Γ => k (y x) n Γ)) : WpE K w n Γ (tDGet td (tC (.str f))) u k := fun σ B H ok Q c =>
  h σ B H ok _ fun x v n1 Γ1 B1 H1 q1 e1 o1 ⟨a, kv, hv, hs, p⟩ => by
    subst hv
    obtain ⟨v, g1, g2⟩ := (p f).2 _ (hl x)
    exact ⟨a, v, rfl, .inl ⟨kv, .inr f, .inl (o1.ex _ _ hs), rfl, g1.symm⟩, c _ v n1 Γ1 B1 H1 q1 e1 o1 g2⟩
/-- d["f"], one's own -/
theorem we_sdO {fl : Flds} {f : Str} {i : Nat} {y : β} {k : β → NK} (hi : Γ[i]? = some (.mu (rS fl))) (hl : fl.lookup f = some ⟨u, y⟩) (q : k y n Γ) : WpE K w n Γ (tDGet (tVar i) (tC (.str f))) u k := fun σ B H ok Q c => by
  obtain ⟨l, o, h1, h2, h3, h4, kv, rfl, h5, h6⟩ := ok.sl i _ hi
  obtain ⟨v, g1, g2⟩ := (h6 f).2 _ hl
  exact ⟨.ref l, h1, l, v, rfl, .inl ⟨kv, .inr f, .inl h2, rfl, g1.symm⟩, c y v n Γ B H q (Ex.refl _) ok g2⟩
/-- d["f"] = e -/
theorem ws_sdO {f : Str} {i : Nat} (h : WpE K w n Γ te t (fun x n' Γ' => ∃ fl, Γ'[i]? = some (.mu (rS fl)) ∧ fl.length < 1000 ∧ SetE (Γ'.set i (.mu (rS ((f, ⟨t, x⟩) :: fl)))) (nx n'))) :
    WpS K w n Γ (sDPut (tVar i) (tC (.str f)) te) res nx bk ct rt := fun σ B H ok D a b c d =>
  h σ B H ok _ fun x v n' Γ' B' H' ⟨fl, hi, hz, q⟩ e o r => by
    obtain ⟨l, ob, h1, h2, h3, h4, kv, rfl, h5, h6⟩ := o.sl i _ hi
    refine ⟨.ref l, h1, l, _, rfl, .inl ⟨kv, .inr f, h2, rfl, szl (by omega), rfl⟩, a n' _ _ B' _ q e (o.put (r' := rS ((f, ⟨t, x⟩) :: fl)) hi h1 ⟨_, rfl, ?_, h6.cons r fun g => ?_⟩)⟩
    · have := length_putK kv (.inr f) v
      simp only [List.length_cons]; omega
    · rw [valV_put]
      by_cases z : g = f
      · rw [if_pos (congrArg _ z), if_pos z]
      · rw [if_neg (fun q => z (Sum.inr.inj q)), if_neg z]
/-- the pairs of a dict's display, from the left -/
inductive PRep (B : Hp) : List (V × V) → Flds → Prop where
  | nil : PRep B [] []
  | cons {p : V × V} {e : Str × Dt} {ps : List (V × V)} {fl : Flds} (h : p.1 = .str e.1 ∧ e.2.t.rep B p.2 e.2.x) (r : PRep B ps fl) : PRep B (p :: ps) (e :: fl)
inductive MRep (B : Hp) : List (Key × V) → Flds → Prop where
  | nil : MRep B [] []
  | cons {p : Key × V} {e : Str × Dt} {ps : List (Key × V)} {fl : Flds} (h : p.1 = .inr e.1 ∧ e.2.t.rep B p.2 e.2.x) (r : MRep B ps fl) : MRep B (p :: ps) (e :: fl)
theorem MRep.len {B : Hp} {ps : List (Key × V)} {fl : Flds} (h : MRep B ps fl) : ps.length = fl.length := by
  induction h with
  | nil => rfl
  | cons _ _ ih => simp [ih]
theorem PRep.keys {B : Hp} {ps : List (V × V)} {fl : Flds} (h : PRep B ps fl) : ∃ kvs : List (Key × V), ps = kvs.map (fun kv => (kV kv.1, kv.2)) ∧ MRep B kvs fl := by
  induction h with
  | nil => exact ⟨[], rfl, .nil⟩
  | @cons a b _ _ hh rr ih =>
    obtain ⟨kvs, e1, e2⟩ := ih
    exact ⟨(.inr b.1, a.2) :: kvs, by rw [List.map_cons, ← e1]; exact congrArg (· :: _) (Prod.ext hh.1 rfl), .cons ⟨rfl, hh.2⟩ e2⟩
def WpPr (K : Frag) (w : Wd) (n : Option Nat) (Γ : Env) (trs : List (TE × TE)) (k : Flds → NK) : Prop := ∀ σ B H, Ok K w n Γ σ B H → ∀ Q : List (V × V) → Hp → Prop,
  (∀ fl ps n' Γ' B' H', k fl n' Γ' → Ex B B' → Ok K w n' Γ' σ B' H' → PRep B' ps fl → Q ps H') → tPairs trs σ H Q
theorem wpr_nil {k : Flds → NK} (h : k [] n Γ) : WpPr K w n Γ [] k := fun σ B H ok Q c => c [] [] n Γ B H h (Ex.refl _) ok .nil
theorem wpr_cons {f : Str} {trs : List (TE × TE)} {k : Flds → NK} (h : WpE K w n Γ te t (fun x n Γ => WpPr K w n Γ trs (fun fl n Γ => k ((f, ⟨t, x⟩) :: fl) n Γ))) : WpPr K w n Γ ((tC (.str f), te) :: trs) k := fun σ B H ok Q c =>
  h σ B H ok _ fun x v n1 Γ1 B1 H1 q1 e1 o1 r1 => q1 σ B1 H1 o1 _ fun fl ps n2 Γ2 B2 H2 q2 e2 o2 r2 => c _ _ n2 Γ2 B2 H2 q2 (e1.trans e2) o2 (.cons ⟨rfl, t.mono e2 r1⟩ r2)
theorem merge_rep {B : Hp} : ∀ {more : List (Key × V)} {fl : Flds} {kvs : List (Key × V)} {fl0 : Flds}, MRep B more fl → kvs.length ≤ fl0.length → FRep B (fun f => valV kvs (.inr f)) fl0 →
    (mergeK kvs more).length ≤ (fl.reverse ++ fl0).length ∧ FRep B (fun f => valV (mergeK kvs more) (.inr f)) (fl.reverse ++ fl0) := fun {more fl kvs fl0} p => by
  induction p generalizing kvs fl0 with
  | nil => exact fun h1 h2 => ⟨h1, h2⟩
  | @cons a b _ _ h r ih =>
    intro h1 h2
    rw [List.reverse_cons, List.append_assoc]
    refine ih (kvs := putK kvs a.1 a.2) (fl0 := [b] ++ fl0) ?_ ?_
    · have := length_putK kvs a.1 a.2
      simp only [List.singleton_append, List.length_cons]; omega
    · obtain ⟨f, e⟩ := b
      refine h2.cons h.2 fun g => ?_
      rw [h.1, valV_put]
      by_cases z : g = f
      · rw [if_pos (congrArg _ z), if_pos z]
      · rw [if_neg (fun q => z (Sum.inr.inj q)), if_neg z]
/-- {"f": e, ..} -/
theorem wm_disp {trs : List (TE × TE)} {k : Rs → NK} (h : ∀ w' : Wd, w'.d = w.d → w'.ca = w.ca → w'.cs = w.cs → SetE (hideE Γ []) fun Γ' => WpPr K w' n Γ' trs (fun fl n' _ => fl.length ≤ 15 ∧ k (rS (fl.reverse ++ [])) n' Γ)) : WpM K w n Γ (tDisp trs) k := fun σ B H ok Q c => by
  intro p hp
  have o1 := ok.grow (Grow.open (o := .dK []) ok.ex hp)
  have hpd : p ≠ w.d := fun z => by rw [z] at hp; exact noS hp ok.hh
  refine h ⟨w.d, w.ca, w.cs, B, upd H p (.dK [])⟩ rfl rfl rfl σ B _ (o1.inner []) _ fun fl ps n' Γ' B' H' ⟨h15, q⟩ e o2 r => ?_
  have hp2 : H' p = some (.dK []) := o2.kp p _ upd_same hpd
  have o3 := o1.back o2.nil
  obtain ⟨kvs, rfl, r2⟩ := r.keys
  refine ⟨hp2, kvs, rfl, by rw [r2.len]; exact h15, ?_⟩
  obtain ⟨m1, m2⟩ := merge_rep (kvs := []) (fl0 := []) r2 (Nat.le_refl _) (FRep.nil fun _ => rfl)
  have hB' : B' p = none := by
    cases q : B' p with
    | none => rfl
    | some u =>
      rcases o2.nw p u q with z | z
      · have z : B p = some u := z
        rw [ok.ex.none hp] at z; cases z
      · have z : upd H p (.dK []) p = none := z
        rw [upd_same] at z; cases z
  have h0 : w.H0 p = none := by
    cases q : w.H0 p with
    | none => rfl
    | some u => rw [ok.kp p u q hpd] at hp; cases hp
  have df : ∀ (j : Nat) e, Γ[j]? = some e → ¬ e.owns σ[j]? p := fun j e hj z => by
    obtain ⟨_, g1, _⟩ := (ok.sl j _ hj).owned z
    rw [hp] at g1; cases g1
  exact c _ p n' Γ B' _ q e (o3.chg hB' h0 rfl (fun j e q => .inr ⟨q, df j e q⟩) (fun x e q => .inr ⟨e, q, fun a ha => ha⟩)) ⟨⟨_, upd_same, _, rfl, m1, m2⟩, hB', h0, df⟩
/-! ### abs, sorted, pairs by order -/
def rAbs : List V → Hp → VK → Prop := fun xs H Q => ∃ i, xs = [.int i] ∧ Q (.int (if i < 0 then -i else i)) H
theorem call_absU {X : Cx} : CallR X (.builtin "abs") rAbs := call_abs
theorem we_abs {k : Int → NK} (h : WpE K w n Γ ta tI (fun a n Γ => k (a.natAbs : Int) n Γ)) : WpE K w n Γ (tCB rAbs (tCons ta tNil)) tI k :=
  we_cb1 (t := tI) (fun a => (a.natAbs : Int)) (fun _ => True) (fun B x a H Q h1 e _ q => ⟨a, by rw [show x = V.int a from h1], q _ (by show V.int _ = V.int _; congr 1; split <;> omega)⟩) (we_mono h fun x _ _ z => ⟨trivial, z⟩)
end
end TL

/-! # TL: static methods, defaults, sorted, pairs by order -/
namespace TL
open PySem L2
open PySem.W (Frag)
/-- THE RULE for a def with defaults that lets nothing out -/
theorem funD_ok {P : Program} {w : World} {K : Frag} {mg : Str → Option Value} {base : Heap} {x qual : Str} {st : Stmt} {dvs : List V} {kws : List (Str × V)} {f : Addr} {fd : FuncData} {N ps : List Str} {k : Nat} {sp : Sp} (F : FunD K x qual (defArgs st) (defBody st) (defScope st) dvs kws f fd) (S : FnScope N ps (defScope st)) (len : ∀ vs H Q E, sp vs H Q E → vs.length = ps.length)
    (hbody : ∀ (cdv : Value) (A : Around) (outer : List PySem.Env) (s : Shared) (H : Hp) (vs : List V) (Q : VK) (E : XK), Room k (A.deeper (PyProof.Rows.envOfC qual (defScope st) s.heap.objs.size f cdv)) → sp vs H Q E →
      ∃ t, PSs (cxOf CX0 P w K mg base N qual (defScope st) f cdv A outer s H E).nox (defBody st) t ∧ t { nx := fun _ H' => Q .non H', rt := Q } (start N vs) H) : FnOk P w K mg base CX0 (k + 1) f fd ps sp := by
  obtain ⟨oc, od, dV, kV, doc, pm, an, cdv, ct, osl, rfl, lk, hcd, _⟩ := F.ex
  refine fn_of lk hcd S len fun A outer s H vs Q E hr hsp => ?_
  obtain ⟨t, h, q⟩ := hbody cdv A outer s H vs Q E hr hsp
  exact ⟨t, h.nox, q⟩
/-- a def whose one default is None -/
theorem funD_mk {K : Frag} {x qual : Str} {st : Stmt} {f T : Addr} {oc ocT : Value} {od odT an : Option Addr} {osl slT : Array (Option Value)} {kV doc pm cdv ct : Value} {m : Nat} (l : K.lookup f = some ⟨oc, od, .func (PySem.W.fnOf x qual (defArgs st) (defBody st) (defScope st) (.ref T) kV doc pm an cdv ct), osl⟩)
    (hT : K.lookup T = some ⟨ocT, odT, .seq #[Value.none] m, slT⟩) (c : PySem.W.codeIn K cdv qual = true) (k : PySem.W.keepIn K (.ref f) = true) : FunD K x qual (defArgs st) (defBody st) (defScope st) [V.non] [] f (PySem.W.fnOf x qual (defArgs st) (defBody st) (defScope st) (.ref T) kV doc pm an cdv ct) :=
  ⟨⟨oc, od, .ref T, kV, doc, pm, an, cdv, ct, osl, rfl, l, c, .inr ⟨(fun z => by cases z), T, _, [Value.none], m, rfl, hT, rfl, .cons rfl .nil⟩, .inl rfl⟩, k⟩
/-- C.m(..), m a static method -/
structure StatBy (P : Program) (w : World) (K : Frag) (mg : Str → Option Value) (base : Heap) (CX : CXT) (k : Nat) (x m : Str) (ps : List Str) (sp : Sp) : Prop where
  ex : ∃ (C p f : Addr) (mc : Value) (rest : List Value) (fd : FuncData), mg x = some (.ref C) ∧ PySem.W.specialIn K (.ref C) "__getattribute__" = some (some (.builtin "type.__getattribute__")) ∧ PySem.W.readsIn K C mc = true ∧
    PySem.W.findCls K (.ref C) mc m = some (.get (.builtin "staticmethod.__get__") (.ref p) .none (.ref C)) ∧ PySem.W.recIn K p "staticmethod" = some (.ref f :: rest) ∧ PySem.W.keepIn K (.ref f) = true ∧ FnOk P w K mg base CX k f fd ps sp ∧ Binds K fd ps []
/-- C(..), the defaults dvs fill up -/
structure MadeByD (P : Program) (w : World) (K : Frag) (mg : Str → Option Value) (base : Heap) (CX : CXT) (k : Nat) (C : Addr) (x : Str) (ps : List Str) (sp : Sp) (dvs : List V) : Prop where
  ex : ∃ f fd ds, Mk K C f ∧ mg x = some (.ref C) ∧ FnOk P w K mg base CX k f fd ps sp ∧ Vals dvs ds ∧ Binds K fd ps ds
section
variable {X : Cx} {k : Nat} {C : Addr} {x m : Str} {ps : List Str} {sp : Sp} {p pos apos : Pos} {o e : Expr} {es : List Expr} {t : TA} {ta : TE} {dvs : List V}
theorem pe_makeD (c : MadeByD X.prog X.w X.K X.mg X.base CX0 k C x ps sp dvs) (hr : Room (k + 1) X.A) (hg : Gl X x) (ha : PA X (e :: es) t) (hdb : (x == ("__debug__" : Str)) = false := by decide) (he : starEach (e :: es) X.env = (false, eval e X.env) :: starEach es X.env := by rfl) (hpl : (backTo pos (starEach es X.env)).any (·.1) = false := by rfl) :
    PE X (.Call (.Name x p) (e :: es) [] pos) (tMake C sp dvs E0 t) := by
  obtain ⟨f, fd, ds, h1, h2, h3, h4, h5⟩ := c.ex
  exact pe_make h1 h3 hr hg h2 h5 h4 pass0 ha hdb he hpl
theorem pe_smeth {pl : Sem Bool} (c : StatBy X.prog X.w X.K X.mg X.base CX0 k x m ps sp) (hr : Room k X.A) (hg : Gl X x) (ha : PA X (e :: es) t) (hdb : (x == ("__debug__" : Str)) = false := by decide)
    (hst : starEach (e :: es) X.env = (false, eval e X.env) :: starEach es X.env := by rfl) (hpl : (backTo pos (starEach es X.env)).any (·.1) = false := by rfl)
    (ht : eval (.Call (.Attribute (.Name x p) m apos) (e :: es) [] pos) X.env = (do
      let ov ← eval (.Name x p) X.env
      standAt apos.atName
      let (f, first) ← holding [ov] (getMethod ov m pl)
      callWith pos f first (backTo pos (starEach (e :: es) X.env)) (backToKw pos (keywordEach [] X.env))) := by rfl) :
    PE X (.Call (.Attribute (.Name x p) m apos) (e :: es) [] pos) (tCall sp [] E0 t) := by
  obtain ⟨C, q, f, mc, rest, fd, h1, h2, h3, h4, h5, h6, h7, h8⟩ := c.ex
  refine ⟨fun pins s σ H Q I h => ?_⟩
  refine PySem.W.methodCall_KW (pl := pl) (ld_glob I hg h1 ?_ hdb) ht
  refine PySem.W.method_cls I.kIn h2 ?_
  refine PySem.W.cls_bind I.kIn h3 h4 (wpAny_call (PySem.W.sm_get (s := { s with toks := s.toks + 1 }) I.kIn h5 (PySem.W.handed_on rfl ?_)))
  have I2 := I.tok (s.toks + 1)
  refine PySem.W.callWith_K (h₀ := X.base) I2.ok.mod.kin h6 (thn (ha.run pos pins _ σ H _ I2 h) fun us s1 ⟨vs, H1, I1, r, q⟩ => ⟨I1.kIn, ?_⟩) hst hpl
  exact run_fn h7 hr h8 .nil pass0 I1 r q
theorem op_ltT' {K : Frag} (e : X.K = K) (hu : X.A.units + 64 < cLine) : OpR X (compareOp .Lt) (rLtT K) := by subst e; exact op_ltT (by omega)
theorem pi_revK {tg : Expr} {K : Frag} (hK : X.K = K) (hg : Gl X "reversed") (hm : X.mg "reversed" = none) (ha : PA X [e] t) (hs : starEach [e] X.env = [(false, eval e X.env)] := by rfl) : PI X tg (.Call (.Name "reversed" p) [e] [] pos) (iRev K t) := by
  subst hK; exact pi_reversed hg hm ha hs
theorem pe_fldK (K : Frag) {f : Str} (hK : X.K = K) (he : PE X o ta) (hb : attributeBase o f X.env (eval o X.env) = eval o X.env) : PE X (.Attribute o f pos) (tFld K ta f) := by
  subst hK; exact pe_fld he hb
theorem cr_sortedK (K : Frag) (e : X.K = K) : CallR X (.builtin "sorted") (rSortedI K) := by subst e; exact cr_sortedI
end
section
variable {K : Frag} {w : Wd} {n : Option Nat} {Γ Γ' : Env} {α β γ δ ρ A : Type} {t : Ty α} {u : Ty β} {ta tb te : TE} {ts ts' : TS} {res : ρ → Ent} {nx bk ct : NK} {rt : ρ → Option Nat → Prop}
theorem iter_rev {B : Hp} {a : Addr} {vs : List V} {xs : List α} (hs : SqL K B a vs) (p : Paired (t.rep B) vs xs) : Iter t xs.reverse (Itv K a vs.length) B :=
  ⟨fun H1 e => by show vs.length ≤ xs.reverse.length; rw [List.length_reverse, pw_len p]; exact Nat.le_refl _, fun i H1 e hi => by
    have hi' : i < vs.length := by rw [pw_len p]; simpa using hi
    exact ⟨hi', vs, vs[vs.length - 1 - i], e.l hs, by rw [List.getElem?_eq_getElem]⟩, fun i x H1 B1 v H' hx e1 e2 hy => by
    obtain ⟨rfl, hy⟩ := hy
    obtain ⟨v', h1, h2⟩ := pw_getR (pw_rev p) hx
    have hi := (List.getElem?_eq_some_iff.mp h1).1
    rw [List.length_reverse] at hi
    rw [List.getElem?_reverse hi] at h1
    have := hy vs ((e1.trans e2).l hs)
    rw [this] at h1; cases h1
    exact ⟨B1, Grow.refl e2, t.mono e1 h2⟩⟩
/-- for x in reversed(xs) -/
theorem wi_rev {k : List α → NK} (h : WpE K w n Γ te (tL t) (fun xs n Γ => k xs.reverse n Γ)) : WpI K w n Γ (iRev K (tCons te tNil)) t k := fun σ B H ok R c =>
  h σ B H ok _ fun xs v n1 Γ1 B1 H1 q e o ⟨a, vs, hv, hs, p⟩ => by
    subst hv
    exact ⟨a, vs, rfl, SqL.of (o.ex _ _ hs), c _ _ n1 Γ1 B1 H1 q e o (iter_rev (K := K) (SqL.of hs) p)⟩
/-- sorted(a list of ints) -/
theorem wm_sorted {k : Rs → NK} (h : WpE K w n Γ ta (tL tI) (fun xs n Γ => ∀ ys : List Int, ys.Perm xs → ys.Pairwise (· ≤ ·) → k (rL tI ys) n Γ)) : WpM K w n Γ (tCB (rSortedI K) (tCons ta tNil)) k := fun σ B H ok Q c =>
  h σ B H ok _ fun xs v n1 Γ1 B1 H1 q e o ⟨a, vs, hv, hs, p⟩ => by
    subst hv
    have e1 := pw_intEq (show Paired (fun (v : V) (x : Int) => v = V.int x) vs xs from p)
    subst e1
    exact ⟨a, xs, rfl, SqL.of (o.ex _ _ hs), fun ys pa hp hw ha => c _ pa n1 Γ1 B1 _ (q ys hp hw) e (o.grow (Grow.open o.ex ha)) (Own.new o ha ⟨ys.map V.int, rfl, pw_mapI⟩)⟩
/-- pairs of ints by < -/
theorem we_ltP {k : Bool → NK} (h : WpE K w n Γ ta (tP tI tI) (fun a n Γ => WpE K w n Γ tb (tP tI tI) (fun b n Γ => k (decide (a.1 < b.1 ∨ (a.1 = b.1 ∧ a.2 < b.2))) n Γ))) : WpE K w n Γ (tOp (rLtT K) ta tb) tBo k := fun σ B H ok Q c =>
  h σ B H ok _ fun a x n1 Γ1 B1 H1 q1 e1 o1 r1 => q1 σ B1 H1 o1 _ fun b y n2 Γ2 B2 H2 q2 e2 o2 r2 => by
    obtain ⟨pa, p, q, rfl, hs1, hp, hq⟩ := (tP tI tI).mono e2 r1
    obtain ⟨pb, p', q', rfl, hs2, hp', hq'⟩ := r2
    have hp : p = .int a.1 := hp
    have hq : q = .int a.2 := hq
    have hp' : p' = .int b.1 := hp'
    have hq' : q' = .int b.2 := hq'
    subst hp; subst hq; subst hp'; subst hq'
    refine ⟨pa, pb, [a.1, a.2], [b.1, b.2], rfl, rfl, SqT.of (o2.ex _ _ hs1), SqT.of (o2.ex _ _ hs2), c _ _ n2 Γ2 B2 H2 q2 (e1.trans e2) o2 ?_⟩
    show V.bl _ = V.bl _
    congr 1
    simp only [HT.lexLt]
    by_cases z1 : a.1 < b.1 <;> by_cases z2 : a.1 = b.1 <;> by_cases z3 : a.2 < b.2 <;> simp [z1, z2, z3] <;> omega
/-- an option that is known to be there -/
theorem we_ofSome {k : α → NK} (h : WpE K w n Γ te (tO t) (fun x n Γ => ∃ y, x = some y ∧ k y n Γ)) : WpE K w n Γ te t k := fun σ B H ok Q c =>
  h σ B H ok _ fun x v n' Γ' B' H' ⟨y, hx, q⟩ e o r => by subst hx; exact c y v n' Γ' B' H' q e o r
theorem inV_ints {x : Int} : ∀ {xs : List Int}, inV (.int x) (xs.map V.int) = decide (x ∈ xs) ∧ (xs.map V.int).all flatV = true
  | [] => ⟨by simp [inV], rfl⟩
  | y :: r => by
    obtain ⟨h1, h2⟩ := inV_ints (x := x) (xs := r)
    refine ⟨?_, by simp only [List.map_cons, List.all_cons, h2]; rfl⟩
    have e : inV (.int x) ((y :: r).map V.int) = ((y == x) || inV (.int x) (r.map V.int)) := rfl
    rw [e, h1]
    by_cases z : y = x
    · subst z; simp
    · have z' : ¬ x = y := fun q => z q.symm
      simp [z, z']
/-- k in a list or a tuple of ints -/
theorem we_inI {q : TZ.Sk} {b : Bool} {k : Bool → NK} (h : WpE K w n Γ ta tI (fun a n Γ => WpE K w n Γ tb (tQ q tI) (fun xs n Γ => k (if b then !decide (a ∈ xs) else decide (a ∈ xs)) n Γ))) : WpE K w n Γ (tOp (rIn K b) ta tb) tBo k := fun σ B H ok Q c =>
  h σ B H ok _ fun a x n1 Γ1 B1 H1 q1 e1 o1 r1 => q1 σ B1 H1 o1 _ fun xs y n2 Γ2 B2 H2 q2 e2 o2 r2 => by
    have r1 : x = .int a := r1
    subst r1
    obtain ⟨p, vs, rfl, hs, pv⟩ : ∃ p vs, y = .ref p ∧ (SqL K H2 p vs ∨ SqT K H2 p vs) ∧ Paired (tI.rep B2) vs xs := by
      cases q with
      | l => obtain ⟨p, vs, h1, h2, h3⟩ := r2; exact ⟨p, vs, h1, .inl (SqL.of (o2.ex _ _ h2)), h3⟩
      | t => obtain ⟨p, vs, h1, h2, h3⟩ := r2; exact ⟨p, vs, h1, .inr (SqT.of (o2.ex _ _ h2)), h3⟩
    have ev := pw_intEq (show Paired (fun (v : V) (x : Int) => v = V.int x) vs xs from pv)
    subst ev
    obtain ⟨i1, i2⟩ := inV_ints (x := a) (xs := xs)
    exact ⟨p, _, rfl, hs, rfl, i2, c _ _ n2 Γ2 B2 H2 q2 (e1.trans e2) o2 (by show V.bl _ = V.bl _; rw [i1])⟩
/-- None or a datum: is it not None? -/
theorem we_notNone {k : Bool → NK} (hn : ∀ {B v x}, t.rep B v x → ¬ v = .non) (h : WpE K w n Γ ta (tO t) (fun x n Γ => k (!x.isNone) n Γ)) : WpE K w n Γ (tOp (fun x y H Q => y = .non ∧ Q (.bl (!decide (x = .non))) H) ta (tC .non)) tBo k := fun σ B H ok Q c =>
  h σ B H ok _ fun x v n1 Γ1 B1 H1 q e o r => ⟨rfl, by
    cases x with
    | none =>
      have r' : v = .non := r
      exact c _ _ n1 Γ1 B1 H1 q e o (by show V.bl _ = V.bl _; rw [r']; rfl)
    | some y => exact c _ _ n1 Γ1 B1 H1 q e o (by show V.bl _ = V.bl _; rw [decide_eq_false (hn r)]; rfl)⟩
theorem non_L {B : Hp} {v : V} {xs : List α} (h : (tL t).rep B v xs) : ¬ v = .non := by
  obtain ⟨a, vs, h, _⟩ := h
  intro z; rw [h] at z; cases z
theorem non_obj {C : Addr} {flds : α → Flds} {B : Hp} {v : V} {x : α} (h : (tObj C flds).rep B v x) : ¬ v = .non := by
  obtain ⟨a, dx, fs, h, _⟩ := h
  intro z; rw [h] at z; cases z
/-- a pair of one kind is a tuple of it -/
theorem we_pairU {k : List α → NK} (h : WpE K w n Γ te (tP t t) (fun x n Γ => k [x.1, x.2] n Γ)) : WpE K w n Γ te (tU t) k := fun σ B H ok Q c =>
  h σ B H ok _ fun x v n' Γ' B' H' q e o ⟨a, p, q', h1, h2, h3, h4⟩ => c _ v n' Γ' B' H' q e o ⟨a, [p, q'], h1, h2, .cons h3 (.cons h4 .nil)⟩
end
end TL

/-! # TL: the special methods of own classes: in, truth, comparisons, operators, negation, items -/
namespace TL
open PySem L2 PyProof.Rows PySem.Calls
open PySem.W (Frag)
section
variable {X : Cx} {k : Nat} {C : Addr} {m : Str} {ps : List Str} {sp : Sp} {pins : List (Addr × Obj)} {σ : L2.St} {H : Hp} {s : Shared}
/-- x is an instance of the class at C -/
def InsV (C : Addr) (x : V) (H : Hp) : Prop := ∃ a dx fs, x = .ref a ∧ H a = some (.ins C dx fs)
theorem run_own (c : MethBy X.prog X.w X.K X.mg X.base CX0 k C m ps sp) (hr : Room k X.A) (I : Inv X pins σ H s) : ∃ f : Addr, PySem.W.findIn X.K (.ref C) m = some (some (.ref f)) ∧ PySem.W.isFn X.K (.ref f) = true ∧
    ∀ (vs : List V) (us : List Value) (Q : VK), Vals vs us → sp vs H Q E0 → wpAny (model X.prog X.w) X.A (call (.ref f) us) (EP X pins σ Q) X.xe s := by
  obtain ⟨f, fd, h1, h2, h3⟩ := c.ex
  exact ⟨f, h1.at_, h1.fn, fun vs us Q r q => run_fn h2 hr h3 .nil pass0 I r (by rw [List.append_nil]; exact q)⟩
theorem ins_look {a dx : Addr} {fs : List (Str × V)} (I : Inv X pins σ H s) (h : H a = some (.ins C dx fs)) : ∃ ox od, PySem.W.InstAt s.heap a ox C od := by
  obtain ⟨mA, J, _⟩ := ins_get I.hok h
  obtain ⟨od, J, _⟩ := J.look
  exact ⟨_, _, J⟩
theorem not_ni {v : V} {u : Value} (h : RelV v u) : u ≠ .notImplemented := by
  intro z
  subst z
  cases v with
  | non => cases h
  | bl b => cases h
  | int i => obtain ⟨t, h⟩ := h; cases h
  | str x => obtain ⟨t, h⟩ := h; cases h
  | byt b => obtain ⟨t, h⟩ := h; cases h
  | flt b => obtain ⟨t, h⟩ := h; cases h
  | ref a => cases h
  | ty n => cases h
theorem back_of {Q : VK} {w : Value} {s' : Shared} (z : EP X pins σ Q w s') : PySem.W.CmpBack (EP X pins σ Q) w s' := by
  obtain ⟨v, H', I', r, q⟩ := z
  have := not_ni r
  unfold PySem.W.CmpBack
  split
  · exact this rfl
  · exact ⟨v, H', I', r, q⟩
/-- x in o -/
def rInOwn (n : Bool) (C : Addr) (sp : Sp) : R2 := fun x y H Q => InsV C y H ∧ sp [y, x] H (fun v H' => ∃ b, v = .bl b ∧ Q (.bl (if n then !b else b)) H') E0
theorem op_inOwn (c : MethBy X.prog X.w X.K X.mg X.base CX0 k C "__contains__" ps sp) (hr : Room k X.A) : OpR X (compareOp .In) (rInOwn false C sp) := by
  intro pins s σ H x y v u Q I rx ry ⟨⟨a, dx, fs, hy, ha⟩, q⟩
  subst hy
  cases (show u = Value.ref a from ry)
  obtain ⟨ox, od, J⟩ := ins_look I ha
  obtain ⟨mm, hF⟩ := I.fr
  obtain ⟨f, h1, h2, h3⟩ := run_own c hr I
  refine PySem.W.in_K hF I.ok.mod.kin J h1 h2 (wpAny_mono (h3 [.ref a, x] [.ref a, v] _ (.cons rfl (.cons rx .nil)) q) (fun r s' z => ?_) fun _ _ e => e)
  obtain ⟨w, H', I', rw', b, rfl, q'⟩ := z
  cases (show r = Value.bool b from rw')
  exact wpAny_truthy_bool ⟨.bl b, H', I', rfl, q'⟩
theorem op_notInOwn (c : MethBy X.prog X.w X.K X.mg X.base CX0 k C "__contains__" ps sp) (hr : Room k X.A) : OpR X (compareOp .NotIn) (rInOwn true C sp) := by
  intro pins s σ H x y v u Q I rx ry ⟨⟨a, dx, fs, hy, ha⟩, q⟩
  subst hy
  cases (show u = Value.ref a from ry)
  obtain ⟨ox, od, J⟩ := ins_look I ha
  obtain ⟨mm, hF⟩ := I.fr
  obtain ⟨f, h1, h2, h3⟩ := run_own c hr I
  refine PySem.W.notIn_K hF I.ok.mod.kin J h1 h2 (wpAny_mono (h3 [.ref a, x] [.ref a, v] _ (.cons rfl (.cons rx .nil)) q) (fun r s' z => ?_) fun _ _ e => e)
  obtain ⟨w, H', I', rw', b, rfl, q'⟩ := z
  cases (show r = Value.bool b from rw')
  exact wpAny_truthy_bool ⟨.bl (!b), H', I', rfl, q'⟩
/-- what the machine must know of the other operand -/
inductive TyL (K : Frag) (H : Hp) : V → Value → Prop where
  | own {a C dx : Addr} {fs : List (Str × V)} (e : H a = some (.ins C dx fs)) : TyL K H (.ref a) (.ref C)
  | kit {x : V} {t : Value} (h : TyX K H x t) : TyL K H x t
theorem TyL.looks {y : V} {u t : Value} (I : Inv X pins σ H s) (ry : RelV y u) (h : TyL X.K H y t) : PySem.W.Looks (model X.prog X.w) s.heap (typeOf u) t := by
  cases h with
  | @own a C dx fs e =>
    cases (show u = Value.ref a from ry)
    obtain ⟨ox, od, J⟩ := ins_look I e
    exact J.type
  | kit h =>
    obtain ⟨P, h1, h2, _⟩ := kit_of I ry h
    exact h1.ty _ _ I.kIn h2
/-- x == y, x <= y, .. by the left one's own method -/
def rCmpOwn (K : Frag) (C : Addr) (sp : Sp) : R2 := fun x y H Q => InsV C x H ∧ (∃ t, TyL K H y t ∧ PySem.W.notFirst K C t = true) ∧ sp [x, y] H Q E0
theorem op_cmpOwn {op : CmpOp} (K : Frag) (hK : X.K = K) (ho : compareOp op = richCompare op) (hm : (cmpInfo op).2.1 = m) (c : MethBy X.prog X.w X.K X.mg X.base CX0 k C m ps sp) (hr : Room k X.A) : OpR X (compareOp op) (rCmpOwn K C sp) := by
  subst hK
  intro pins s σ H x y v u Q I rx ry ⟨⟨a, dx, fs, hx, ha⟩, ⟨t, ht, hn⟩, q⟩
  subst hx
  cases (show v = Value.ref a from rx)
  obtain ⟨ox, od, J⟩ := ins_look I ha
  obtain ⟨mm, hF⟩ := I.fr
  obtain ⟨f, h1, h2, h3⟩ := run_own c hr I
  rw [ho]
  refine PySem.W.cmp_K hr.units0 hF I.ok.mod.kin J (ht.looks I ry) hn (by rw [hm]; exact h1) h2 (wpAny_mono (h3 [.ref a, y] [.ref a, u] _ (.cons rfl (.cons ry .nil)) q) (fun r s' z => back_of z) fun _ _ e => e)
/-- x + y, x & y .. of two instances of one class -/
def rBinOwn (C : Addr) (sp : Sp) : R2 := fun x y H Q => InsV C x H ∧ InsV C y H ∧ sp [x, y] H Q E0
theorem op_binOwn {op : Operator} (hm : PySem.dunder op.info.2 = m) (hc : PySem.W.selfFirst X.K C = true) (c : MethBy X.prog X.w X.K X.mg X.base CX0 k C m ps sp) (hr : Room k X.A) : OpR X (binaryOp op) (rBinOwn C sp) := by
  intro pins s σ H x y v u Q I rx ry ⟨⟨a, dx, fs, hx, ha⟩, ⟨b, dy, gs, hy, hb⟩, q⟩
  subst hx; subst hy
  cases (show v = Value.ref a from rx)
  cases (show u = Value.ref b from ry)
  obtain ⟨ox, od, J⟩ := ins_look I ha
  obtain ⟨oy, oe, J'⟩ := ins_look I hb
  obtain ⟨mm, hF⟩ := I.fr
  obtain ⟨f, h1, h2, h3⟩ := run_own c hr I
  exact PySem.W.binop_K hF I.ok.mod.kin J J'.type hc (by rw [hm]; exact h1) h2 (wpAny_mono (h3 [.ref a, .ref b] [.ref a, .ref b] _ (.cons rfl (.cons rfl .nil)) q) (fun r s' z => back_of z) fun _ _ e => e)
/-- -x -/
def rNegOwn (C : Addr) (sp : Sp) : V → Hp → VK → Prop := fun x H Q => InsV C x H ∧ sp [x] H Q E0
theorem un_negOwn (c : MethBy X.prog X.w X.K X.mg X.base CX0 k C "__neg__" ps sp) (hr : Room k X.A) : UnR X (unaryOp .USub) (rNegOwn C sp) := by
  intro pins s σ H x v Q I rx ⟨⟨a, dx, fs, hx, ha⟩, q⟩
  subst hx
  cases (show v = Value.ref a from rx)
  obtain ⟨ox, od, J⟩ := ins_look I ha
  obtain ⟨mm, hF⟩ := I.fr
  obtain ⟨f, h1, h2, h3⟩ := run_own c hr I
  exact PySem.W.ksp_neg hF I.ok.mod.kin J h1 h2 (h3 [.ref a] [.ref a] _ (.cons rfl .nil) q)
/-- truth by __bool__ -/
def rTruOwn (C : Addr) (sp : Sp) : V → Hp → (Bool → Hp → Prop) → Prop := fun x H Q => InsV C x H ∧ sp [x] H (fun v H' => ∃ b, v = .bl b ∧ Q b H') E0
theorem tru_own (c : MethBy X.prog X.w X.K X.mg X.base CX0 k C "__bool__" ps sp) (hr : Room k X.A) : TruR X (rTruOwn C sp) := by
  intro pins s σ H x v Q I rx ⟨⟨a, dx, fs, hx, ha⟩, q⟩
  subst hx
  cases (show v = Value.ref a from rx)
  obtain ⟨ox, od, J⟩ := ins_look I ha
  obtain ⟨mm, hF⟩ := I.fr
  obtain ⟨f, h1, h2, h3⟩ := run_own c hr I
  refine PySem.W.truthy_K hF I.ok.mod.kin J h1 h2 (wpAny_mono (h3 [.ref a] [.ref a] _ (.cons rfl .nil) q) (fun r s' z => ?_) fun _ _ e => e)
  obtain ⟨w, H', I', rw', b, rfl, q'⟩ := z
  cases (show r = Value.bool b from rw')
  exact ⟨H', I', q'⟩
def tTruOwn (C : Addr) (sp : Sp) (ta : TE) : TT := fun σ H Q => ta σ H fun x H' => rTruOwn C sp x H' Q
theorem pt_truOwn {a : Expr} {ta : TE} (c : MethBy X.prog X.w X.K X.mg X.base CX0 k C "__bool__" ps sp) (hr : Room k X.A) (ha : PE X a ta) (he : ∀ whole, isTrue a X.env whole = (do let v ← whole; standAt a.pos; holding [v] (truthy v))) : PT X a (tTruOwn C sp ta) := by
  refine ⟨fun pins s σ H Q I h => ?_⟩
  exact isTrue_plain (thn (ha.run pins s σ H _ I h) fun v s1 ⟨x, H1, I1, r1, q1⟩ => tru_own c hr pins s1 σ H1 x v Q I1 r1 q1) (he _)
end

section
variable {K : Frag} {w : Wd} {n : Option Nat} {Γ : Env} {α β γ δ ρ A : Type} {t : Ty α} {u : Ty β} {ta tb te : TE}
theorem insV_obj {C : Addr} {flds : α → Flds} {B H : Hp} {v : V} {x : α} (h : (tObj C flds).rep B v x) (e : Ex B H) : InsV C v H := by
  obtain ⟨a, dx, fs, hv, hs, _⟩ := h
  exact ⟨a, dx, fs, hv, e _ _ hs⟩
/-- what of two operands an own method is asked -/
theorem we_own2 {ι : Type} {S : ι → FS K} (i : ι) {r : R2} {s : Ty (S i).ρ} {k : (S i).ρ → NK} (hres : (S i).res = fun x => .im s x) (hc : (S i).cost = 0) (up : α → β → (S i).A) (swap : Bool)
    (hup : ∀ {d B v1 v2 a b}, t.rep B v1 a → u.rep B v2 b → (S i).args.rep d B (if swap then [v2, v1] else [v1, v2]) (up a b))
    (hr : ∀ {B H v1 v2 a b Q}, t.rep B v1 a → u.rep B v2 b → Ex B H → SpEx (fun i => (S i).sp) (if swap then [v2, v1] else [v1, v2]) H Q E0 → r v1 v2 H Q)
    (h : WpE K w n Γ ta t (fun a n Γ => WpE K w n Γ tb u (fun b n Γ => (S i).pre (up a b) ∧ ∀ x, (S i).post (up a b) x → k x n Γ))) : WpE K w n Γ (tOp r ta tb) s k := fun σ B H ok Q c =>
  h σ B H ok _ fun a v1 n1 Γ1 B1 H1 q1 e1 o1 r1 => q1 σ B1 H1 o1 _ fun b v2 n2 Γ2 B2 H2 ⟨hp, q⟩ e2 o2 r2 => by
    refine hr (t.mono e2 r1) r2 o2.ex ⟨i, w.d, w.ca, w.cs, n2, B2, up a b, o2.entry, hup (t.mono e2 r1) r2, hp, .inl hc, fun x v n' B' H' hx hcc e' o' sl => ?_⟩
    rw [hres] at sl
    obtain ⟨v', h1, h2⟩ := sl
    cases h1
    have hn : n' = n2 := by
      rcases hcc with ⟨_, z⟩ | ⟨m, z1, z2⟩
      · exact z
      · rw [z1, z2, hc]; rfl
    subst hn
    exact c x v n' Γ2 B' H' (q x hx) ((e1.trans e2).trans e') (o2.back o') h2
end
/-! ### bool(o) -/
section
variable {X : Cx} {k : Nat} {C : Addr} {m : Str} {ps : List Str} {sp : Sp} {pins : List (Addr × Obj)} {σ : L2.St} {H : Hp} {s : Shared}
theorem run_ownA {A : Around} (c : MethBy X.prog X.w X.K X.mg X.base CX0 k C m ps sp) (hr : Room k A) (hf : A.frames = X.A.frames) (I : Inv X pins σ H s) : ∃ f : Addr, PySem.W.findIn X.K (.ref C) m = some (some (.ref f)) ∧ PySem.W.isFn X.K (.ref f) = true ∧
    ∀ (vs : List V) (us : List Value) (Q : VK), Vals vs us → sp vs H Q E0 → wpAny (model X.prog X.w) A (call (.ref f) us) (EP X pins σ Q) X.xe s := by
  obtain ⟨f, fd, h1, F, hb⟩ := c.ex
  refine ⟨f, h1.at_, h1.fn, fun vs us Q r hsp => ?_⟩
  have e0 : Env0 X.prog X.w X.K X.mg X.base A X.stack s H := by
    have e := I.env0
    exact ⟨by rw [hf]; exact e.frames, e.mod, e.bs, e.bsz, e.funs, e.frf, e.hok, e.bare⟩
  have hl := F.len _ _ _ _ hsp
  refine wpAny_call (codeAny_mono (F.run A X.stack s H ⟨us, []⟩ us vs Q E0 hr e0 (by
    have := hb s us I.kIn (by rw [List.append_nil, ← r.length]; exact hl)
    simpa using this) r hsp) fun r s' hq => ?_)
  cases r with
  | error e => exact hq.elim
  | ok fl =>
    cases fl with
    | ret w => exact I.after hq
    | next => exact False.elim hq
    | brk => exact False.elim hq
    | cont => exact False.elim hq
def rBoolOwn (C : Addr) (sp : Sp) : List V → Hp → VK → Prop := fun xs H Q => ∃ x, xs = [x] ∧ rTruOwn C sp x H (fun b H' => Q (.bl b) H')
theorem call_boolOwn (c : MethBy X.prog X.w X.K X.mg X.base CX0 k C "__bool__" ps sp) (hr : Room (k + 2) X.A) : CallR X (.type "bool") (rBoolOwn C sp) := by
  intro pins s σ H xs us Q I rx h
  obtain ⟨x, hx, ⟨a, dx, fs, hxa, ha⟩, q⟩ := h
  subst hx; subst hxa
  obtain rfl : us = [Value.ref a] := by
    cases rx with
    | cons r1 r2 =>
      cases r2
      cases (show _ = Value.ref a from r1)
      rfl
  obtain ⟨ox, od, J⟩ := ins_look I ha
  obtain ⟨mm, hF⟩ := I.fr
  obtain ⟨f, h1, h2, h3⟩ := run_ownA (A := X.A.in1.in1) c hr.in1.in1 rfl I
  refine callType_newIn (S := fun A1 R s => wpAny (model X.prog X.w) A1.in1 (truthy (.ref a)) (fun b s' => R (.ok (.ret (.bool b))) s') (fun e s' => R (.error e) s') s) F.called_bool F.newNe_bool (F.typeCall_bool_1 (.ref a)) (F.newCall_bool_1 (.ref a)) (fun obj => F.args_object_init_2 obj (.ref a)) F.entry_bool_new (MeetsIn.of_wp fun A R s hs => ?_) ?_
  · have hs0 := hs
    obtain ⟨hp, g, d, tk, os⟩ := s
    have f1 := F.conv_sub_bool
    repeat (any_goals (first | assumption | (with_reducible refine wpAny_mono hs0 (fun b s' h => ?_) (fun e s' h => h)) | wp_step))
    all_goals exact ⟨_, rfl, h⟩
  · refine PySem.W.truthy_K hF I.ok.mod.kin J h1 h2 (wpAny_mono (h3 [.ref a] [.ref a] _ (.cons rfl .nil) q) (fun r s' z => ?_) fun _ _ e => e)
    obtain ⟨w, H', I', rw', b, rfl, q'⟩ := z
    cases (show r = Value.bool b from rw')
    exact ⟨rfl, .bl b, H', I', rfl, q'⟩
end
section
variable {K : Frag} {w : Wd} {n : Option Nat} {Γ : Env} {α β γ δ ρ A : Type} {t : Ty α} {u : Ty β} {ta tb te : TE} {ι : Type} {S : ι → FS K}
/-- an own method's answer is a truth value: from the promise to what is wanted -/
theorem own_bool (i : ι) (f : (S i).ρ → Bool) (hres : (S i).res = fun x => .im tBo (f x)) (hc : (S i).cost = 0) {a : (S i).A} {vs : List V} {σ : L2.St} {B H : Hp} {Q : Bool → Hp → Prop} {k : Bool → NK} (o : Ok K w n Γ σ B H) (r : (S i).args.rep w.d B vs a) (hp : (S i).pre a) (h : ∀ x, (S i).post a x → k (f x) n Γ)
    (c : ∀ b B' H', k b n Γ → Ex B B' → Ok K w n Γ σ B' H' → Q b H') : SpEx (fun i => (S i).sp) vs H (fun v H' => ∃ b, v = .bl b ∧ Q b H') E0 := by
  refine ⟨i, w.d, w.ca, w.cs, n, B, a, o.entry, r, hp, .inl hc, fun x v n' B' H' hx hcc e' o' sl => ?_⟩
  rw [hres] at sl
  obtain ⟨v', h1, h2⟩ := sl
  cases h1
  cases h2
  have hn : n' = n := by
    rcases hcc with ⟨_, z⟩ | ⟨m, z1, z2⟩
    · exact z
    · rw [z1, z2, hc]; rfl
  subst hn
  exact ⟨f x, rfl, c _ B' H' (h x hx) e' (o.back o')⟩
theorem we_inO (i : ι) {neg : Bool} {C : Addr} {flds : β → Flds} (f : (S i).ρ → Bool) (hres : (S i).res = fun x => .im tBo (f x)) (hc : (S i).cost = 0) (up : α → β → (S i).A)
    (hup : ∀ {d B v1 v2 a b}, t.rep B v1 a → (tObj C flds).rep B v2 b → (S i).args.rep d B [v2, v1] (up a b)) {kk : Bool → NK}
    (h : WpE K w n Γ ta t (fun a n Γ => WpE K w n Γ tb (tObj C flds) (fun b n Γ => (S i).pre (up a b) ∧ ∀ x, (S i).post (up a b) x → kk (if neg then !(f x) else f x) n Γ))) :
    WpE K w n Γ (tOp (rInOwn neg C (SpEx fun i => (S i).sp)) ta tb) tBo kk := fun σ B H ok Q c =>
  h σ B H ok _ fun a v1 n1 Γ1 B1 H1 q1 e1 o1 r1 => q1 σ B1 H1 o1 _ fun b v2 n2 Γ2 B2 H2 ⟨hp, q⟩ e2 o2 r2 =>
    ⟨insV_obj r2 o2.ex, own_bool (k := fun b => kk (if neg then !b else b)) i f hres hc o2 (hup (t.mono e2 r1) r2) hp q fun b B' H' hk e' o' => c _ _ n2 Γ2 B' H' hk ((e1.trans e2).trans e') o' rfl⟩
theorem wt_truO (i : ι) {C : Addr} {flds : α → Flds} (f : (S i).ρ → Bool) (hres : (S i).res = fun x => .im tBo (f x)) (hc : (S i).cost = 0) (up : α → (S i).A) (hup : ∀ {d B v a}, (tObj C flds).rep B v a → (S i).args.rep d B [v] (up a)) {kt kf : NK}
    (h : WpE K w n Γ ta (tObj C flds) (fun a n Γ => (S i).pre (up a) ∧ ∀ x, (S i).post (up a) x → (f x = true → kt n Γ) ∧ (f x = false → kf n Γ))) : WpT K w n Γ (tTruOwn C (SpEx fun i => (S i).sp) ta) kt kf := fun σ B H ok Q ct cf =>
  h σ B H ok _ fun a v1 n1 Γ1 B1 H1 ⟨hp, q⟩ e1 o1 r1 =>
    ⟨insV_obj r1 o1.ex, own_bool (k := fun b n Γ => (b = true → kt n Γ) ∧ (b = false → kf n Γ)) i f hres hc o1 (hup r1) hp q fun b B' H' hk e' o' => by
      cases b with
      | true => exact ct n1 Γ1 B' H' (hk.1 rfl) (e1.trans e') o'
      | false => exact cf n1 Γ1 B' H' (hk.2 rfl) (e1.trans e') o'⟩
theorem we_boolO (i : ι) {C : Addr} {flds : α → Flds} (f : (S i).ρ → Bool) (hres : (S i).res = fun x => .im tBo (f x)) (hc : (S i).cost = 0) (up : α → (S i).A) (hup : ∀ {d B v a}, (tObj C flds).rep B v a → (S i).args.rep d B [v] (up a)) {kk : Bool → NK}
    (h : WpE K w n Γ ta (tObj C flds) (fun a n Γ => (S i).pre (up a) ∧ ∀ x, (S i).post (up a) x → kk (f x) n Γ)) : WpE K w n Γ (tCB (rBoolOwn C (SpEx fun i => (S i).sp)) (tCons ta tNil)) tBo kk := fun σ B H ok Q c =>
  h σ B H ok _ fun a v1 n1 Γ1 B1 H1 ⟨hp, q⟩ e1 o1 r1 =>
    ⟨v1, rfl, insV_obj r1 o1.ex, own_bool (k := kk) i f hres hc o1 (hup r1) hp q fun b B' H' hk e' o' => c _ _ n1 Γ1 B' H' hk (e1.trans e') o' rfl⟩
/-- x == y by the left one's own method, of two data -/
theorem we_cmpO (i : ι) {C : Addr} {flds : α → Flds} (f : (S i).ρ → Bool) (hres : (S i).res = fun x => .im tBo (f x)) (hc : (S i).cost = 0) (up : α → β → (S i).A)
    (hup : ∀ {d B v1 v2 a b}, (tObj C flds).rep B v1 a → u.rep B v2 b → (S i).args.rep d B [v1, v2] (up a b)) (hy : ∀ {B v b H}, u.rep B v b → Ex B H → ∃ t, TyL K H v t ∧ PySem.W.notFirst K C t = true) {kk : Bool → NK}
    (h : WpE K w n Γ ta (tObj C flds) (fun a n Γ => WpE K w n Γ tb u (fun b n Γ => (S i).pre (up a b) ∧ ∀ x, (S i).post (up a b) x → kk (f x) n Γ))) :
    WpE K w n Γ (tOp (rCmpOwn K C (SpEx fun i => (S i).sp)) ta tb) tBo kk := fun σ B H ok Q c =>
  h σ B H ok _ fun a v1 n1 Γ1 B1 H1 q1 e1 o1 r1 => q1 σ B1 H1 o1 _ fun b v2 n2 Γ2 B2 H2 ⟨hp, q⟩ e2 o2 r2 => by
    refine ⟨insV_obj ((tObj C flds).mono e2 r1) o2.ex, hy r2 o2.ex, i, w.d, w.ca, w.cs, n2, B2, up a b, o2.entry, hup ((tObj C flds).mono e2 r1) r2, hp, .inl hc, fun x v n' B' H' hx hcc e' o' sl => ?_⟩
    rw [hres] at sl
    obtain ⟨v', h1, h2⟩ := sl
    cases h1
    have hn : n' = n2 := by
      rcases hcc with ⟨_, z⟩ | ⟨m, z1, z2⟩
      · exact z
      · rw [z1, z2, hc]; rfl
    subst hn
    exact c _ _ n' Γ2 B' H' (q x hx) ((e1.trans e2).trans e') (o2.back o') h2
theorem tyL_obj {C : Addr} {flds : α → Flds} {B H : Hp} {v : V} {x : α} (h : (tObj C flds).rep B v x) (e : Ex B H) : ∃ t, TyL K H v t ∧ PySem.W.notFirst K C t = true := by
  obtain ⟨a, dx, fs, rfl, hs⟩ := insV_obj h e
  exact ⟨_, .own hs, by unfold PySem.W.notFirst; simp⟩
end
end TL

/-! # TL: own classes: items, properties, texts, !=, isinstance; f-strings; dict of pairs -/
namespace NeK
open PySem PySem.Spec PyProof.Rows
section
variable {M : Model} {prog : Program} {w : World} {A : Around} {E : Value → Shared → Prop} {s : Shared} {K : PySem.W.Frag} {x C f L : Addr} {b tb : Value} {ox : Obj} {od : Option Obj} {h₀ : Heap} {m : Str → Option Value}
theorem ifBound_objNe {args : List Value} {Q : Option Value → Shared → Prop} (X : K.In s.heap) (I : PySem.W.InstAt s.heap x ox C od) (hs : PySem.W.findIn K (.ref C) "__ne__" = some (some (.builtin "object.__ne__")))
    (h : wpAny M A (call (.builtin "object.__ne__") (.ref x :: args)) (fun v => Q (some v)) E s) : wpAny M A (callSpecialIfBound? (.ref x) "__ne__" args) Q E s := by
  simp only [callSpecialIfBound?, bindSpecialIfBound?]
  refine wpAny_holding (wpAny_bind (wpAny_bind (wpAny_bind (I.type.here ((PySem.W.looks_findIn X hs).here ?_)))))
  refine wpAny_bind (wpAny_askSetting (wpAny_ite ?_))
  have fin : wpAny M A (call (.builtin "object.__ne__") ([.ref x] ++ args) >>= fun v => pure (some v)) Q E s := wpAny_bind (wpAny_mono h (fun v s' h' => wpAny_pure h') fun _ _ h' => h')
  split
  · exact wpAny_bind (wpAny_of_eq (F.cmp_object.ne.bind _) (wpAny_pure (by exact fin)))
  · exact wpAny_tryCatch (wpAny_bind (wpAny_of_eq (F.cmp_object.ne.bind _) (wpAny_pure (by exact fin))))
theorem entry_ne (hu : A.units < cLine) (X : K.In s.heap) (I : PySem.W.InstAt s.heap x ox C od) (hs : PySem.W.findIn K (.ref C) "__eq__" = some (some (.ref f))) (hf : PySem.W.isFn K (.ref f) = true) {Q : Fin → Shared → Prop}
    (hcall : wpAny (model prog w) A (call (.ref f) [.ref x, b]) (fun v s' => ∃ c, v = .bool c ∧ Q (.done (.ret (.bool (!c)))) s') E s) :
    wpAny (model prog w) A (Builtin.«object.__ne__» ⟨[.ref x, b], []⟩) Q E s := by
  unfold Builtin.«object.__ne__»
  repeat (first
    | with_reducible refine wpAny_cRoomFor hu ?_
    | (refine wpAny_bind (m := callSpecialIfBound? (.ref x) (Str.ofString "__eq__") [b])
        (PySem.W.ifBound_K X I hs hf (wpAny_mono hcall (fun r s' hr => by
          obtain ⟨c, rfl, hq⟩ := hr
          repeat (first | exact hq | exact wpAny_pure hq | exact wpAny_truthy_bool hq | (refine wpAny_bind (m := truthy (.bool _)) (wpAny_truthy_bool ?_)) | wp_step)) fun _ _ e => e)))
    | wp_step)
theorem ne_K {Q : Value → Shared → Prop} (hu : A.units + 1 < cLine) (F' : PyProof.Rows.Fr h₀ L s.heap m) (X₀ : K.In h₀) (I : PySem.W.InstAt s.heap x ox C od) (hb : PySem.W.Looks (model prog w) s.heap (typeOf b) tb) (hn : PySem.W.notFirst K C tb = true)
    (hm : PySem.W.mroIn K C (.type "object") = some true) (hne : PySem.W.findIn K (.ref C) "__ne__" = some (some (.builtin "object.__ne__"))) (hs : PySem.W.findIn K (.ref C) "__eq__" = some (some (.ref f))) (hf : PySem.W.isFn K (.ref f) = true)
    (h : wpAny (model prog w) A.in1 (call (.ref f) [.ref x, b]) (fun v s' => ∃ c, v = .bool c ∧ Q (.bool (!c)) s') E s) : wpAny (model prog w) A (richCompare .NotEq (.ref x) b) Q E s := by
  have X := X₀.keeps F'.keep
  have one : wpAny (model prog w) A (tryCompare (.ref x) "__ne__" b) (fun r s' => ∃ v, r = some v ∧ Q v s') E s := by
    unfold tryCompare
    refine wpAny_bind (ifBound_objNe X I hne (wpAny_call (codeAny_call_builtin F.cmp_object.ne.plain F.cmpEntry_ne (PySem.W.check_slot F.cmpKind_ne F.cmpSplit_ne (I.type.andThen (PySem.W.looks_mroIn X hm)) (F.cmpArgs_ne _ _)
      (entry_ne (A := A.in1) hu X I hs hf (wpAny_mono h (fun v s' hv => ?_) fun _ _ e => e))))))
    obtain ⟨c, rfl, hq⟩ := hv
    first | exact ⟨c, rfl, wpAny_pure ⟨_, rfl, hq⟩⟩ | exact ⟨c, rfl, wpAny_pure (wpAny_pure ⟨_, rfl, hq⟩)⟩
  unfold richCompare
  simp only [oneThing_ref, cmpInfo_NotEq]
  refine wpAny_holding (wpAny_bind (wpAny_cRoomFor (Nat.lt_of_succ_lt hu) ?_))
  refine wpAny_bind (I.type.here (wpAny_bind (hb.here ?_)))
  split
  · rename_i q
    have e : PySem.W.subIn K tb (.ref C) = some false := by
      rcases Bool.or_eq_true_iff.mp hn with e | e
      · rw [beq_iff_eq.mp e] at q; simp at q
      · exact beq_iff_eq.mp e
    refine wpAny_bind ((PySem.W.looks_subIn X e).here ?_)
    simp only [Bool.false_eq_true, if_false]
    refine wpAny_bind (wpAny_mono one (fun r s' z => ?_) fun _ _ e => e)
    obtain ⟨v, rfl, hq⟩ := z
    exact wpAny_pure hq
  · refine wpAny_bind (wpAny_pure ?_)
    simp only [Bool.false_eq_true, if_false]
    refine wpAny_bind (wpAny_mono one (fun r s' z => ?_) fun _ _ e => e)
    obtain ⟨v, rfl, hq⟩ := z
    exact wpAny_pure hq
end
end NeK
namespace TL
open PySem L2 PyProof.Rows PySem.Calls
open PySem.W (Frag)
/-- what isinstance asks of an own class and its name -/
structure IsC (K : Frag) (mg : Str → Option Value) (C : Addr) (x : Str) : Prop where
  glob : mg x = some (.ref C)
  cl : Cls K C
  ha : PySem.W.findIn K (.ref C) "__class__" = some (some (.builtin "object.__class__"))
  hn : PySem.W.specialIn K (.builtin "object.__class__") "__get__" = some (some (.builtin "getset_descriptor.__get__"))
  htk : PySem.W.takesIn K (.builtin "object.__class__") = some true
  hm : PySem.W.mroIn K C (.type "object") = some true
  hne : PySem.W.findIn K (.ref C) "__ne__" = some (some (.builtin "object.__ne__"))
  ty : PySem.W.typeIn K (.ref C) = some (.type "type")
  si : PySem.W.subIn K (.ref C) (.type "int") = some false
  fm : PySem.W.findIn K (.ref C) "__format__" = some (some (.builtin "object.__format__"))
/-- a property, by its promise -/
structure PropBy (P : Program) (w : World) (K : Frag) (mg : Str → Option Value) (base : Heap) (CX : CXT) (k : Nat) (C : Addr) (f : Str) (ps : List Str) (sp : Sp) : Prop where
  cl : Cls K C
  ex : ∃ p g fd, PropOf K C f p g ∧ FnOk P w K mg base CX k g fd ps sp ∧ Binds K fd ps []
/-- __getitem__, by its promise -/
structure ItmBy (P : Program) (w : World) (K : Frag) (mg : Str → Option Value) (base : Heap) (CX : CXT) (k : Nat) (C : Addr) (m : Str) (ps : List Str) (sp : Sp) : Prop where
  cl : Cls K C
  ex : ∃ f fd, Meth K C m f ∧ PySem.W.fnIn K f = true ∧ FnOk P w K mg base CX k f fd ps sp ∧ Binds K fd ps []
section
variable {X : Cx} {k : Nat} {C : Addr} {m f : Str} {ps : List Str} {sp : Sp} {pins : List (Addr × Obj)} {σ : L2.St} {H : Hp} {s : Shared} {a b e : Expr} {ta tb : TE} {pos : Pos}
def rIxOwn (C : Addr) (sp : Sp) : R2 := fun x y H Q => InsV C x H ∧ sp [x, y] H Q E0
theorem pe_ixOwn (c : ItmBy X.prog X.w X.K X.mg X.base CX0 k C "__getitem__" ps sp) (hr : Room (k + 1) X.A) (ha : PE X a ta) (hb : PE X b tb) (hs : ∀ v i, subscripted b true v i = runValue (.builtin "lifetime.subscript" ⟨[v, i], []⟩)) :
    PE X (.Subscript a b pos) (tOp (rIxOwn C sp) ta tb) := by
  refine ⟨fun pins s σ H Q I h => ?_⟩
  refine Subscript_ (binT ha hb I h fun v u s2 x y H2 I2 rx ry q => ?_)
  obtain ⟨⟨z, dx, fs, hx, hz⟩, q⟩ := q
  subst hx
  cases (show v = Value.ref z from rx)
  obtain ⟨ox, od, J⟩ := ins_look I2 hz
  obtain ⟨mm, hF⟩ := I2.fr
  obtain ⟨f, fd, h1, h2, h3, h4⟩ := c.ex
  obtain ⟨f', g1, g2, g3⟩ := run_ownA (A := X.A.in1) ⟨c.cl, f, fd, h1, h3, h4⟩ hr.in1 rfl I2
  have : f' = f := by
    rw [h1.at_] at g1
    cases g1
    rfl
  subst this
  exact PySem.W.sub_K hF I2.ok.mod.kin J g1 h2 g2 (g3 [.ref z, y] [.ref z, u] _ (.cons rfl (.cons ry .nil)) q) (hs _ _)
theorem pe_propB (he : PE X e ta) (c : PropBy X.prog X.w X.K X.mg X.base CX0 k C f ps sp) (hr : Room (k + 1) X.A) (hab : attributeBase e f X.env (eval e X.env) = eval e X.env := by rfl) : PE X (.Attribute e f pos) (tProp C sp [] E0 ta) := by
  obtain ⟨p, g, fd, h1, h2, h3⟩ := c.ex
  exact pe_prop he c.cl h1 h2 hr h3 .nil pass0 hab
/-- str(o) -/
def rStrOwn (C : Addr) (sp : Sp) : List V → Hp → VK → Prop := fun xs H Q => ∃ x, xs = [x] ∧ InsV C x H ∧ sp [x] H (fun v H' => ∃ z, v = .str z ∧ Q (.str z) H') E0
theorem call_strOwn (c : MethBy X.prog X.w X.K X.mg X.base CX0 k C "__str__" ps sp) (hr : Room (k + 2) X.A) : CallR X (.type "str") (rStrOwn C sp) := by
  intro pins s σ H xs us Q I rx h
  obtain ⟨x, hx, ⟨a, dx, fs, hxa, ha⟩, q⟩ := h
  subst hx; subst hxa
  obtain rfl : us = [Value.ref a] := by
    cases rx with
    | cons r1 r2 =>
      cases r2
      cases (show _ = Value.ref a from r1)
      rfl
  obtain ⟨ox, od, J⟩ := ins_look I ha
  obtain ⟨f, h1, h2, h3⟩ := run_ownA (A := X.A.in1.in1) c hr.in1.in1 rfl I
  refine PySem.W.kso_call hr.in1.in1.units0 I.kIn J h1 h2 (wpAny_mono (h3 [.ref a] [.ref a] _ (.cons rfl .nil) q) (fun r s' z => ?_) fun _ _ e => e)
  obtain ⟨v, H', I', rv, z, rfl, q'⟩ := z
  obtain ⟨t, rfl⟩ := (show ∃ t, r = Value.str z t from rv)
  exact ⟨.str z, H', I', ⟨t, rfl⟩, q'⟩
/-- x != y by the left one's own __eq__ -/
def rNeOwn (K : Frag) (C : Addr) (sp : Sp) : R2 := fun x y H Q => InsV C x H ∧ (∃ t, TyL K H y t ∧ PySem.W.notFirst K C t = true) ∧ sp [x, y] H (fun v H' => ∃ b, v = .bl b ∧ Q (.bl (!b)) H') E0
theorem op_neOwn (K : Frag) (hK : X.K = K) {mg : Str → Option Value} {x : Str} (ic : IsC K mg C x) (c : MethBy X.prog X.w X.K X.mg X.base CX0 k C "__eq__" ps sp) (hr : Room (k + 1) X.A) : OpR X (compareOp .NotEq) (rNeOwn K C sp) := by
  subst hK
  intro pins s σ H x y v u Q I rx ry ⟨⟨a, dx, fs, hx, ha⟩, ⟨t, ht, hn⟩, q⟩
  subst hx
  cases (show v = Value.ref a from rx)
  obtain ⟨ox, od, J⟩ := ins_look I ha
  obtain ⟨mm, hF⟩ := I.fr
  obtain ⟨f, h1, h2, h3⟩ := run_ownA (A := X.A.in1) c hr.in1 rfl I
  have hu : X.A.units + 1 < cLine := hr.in1.units0
  show wpAny _ _ (richCompare .NotEq _ _) _ _ _
  refine NeK.ne_K hu hF I.ok.mod.kin J (ht.looks I ry) hn ic.hm ic.hne h1 h2 (wpAny_mono (h3 [.ref a, y] [.ref a, u] _ (.cons rfl (.cons ry .nil)) q) (fun r s' z => ?_) fun _ _ e => e)
  obtain ⟨v, H', I', rv, b, rfl, q'⟩ := z
  cases (show r = Value.bool b from rv)
  exact ⟨b, rfl, .bl (!b), H', I', rfl, q'⟩
/-- the name of an own class -/
theorem pe_own {mg : Str → Option Value} {x : Str} (hm : X.mg = mg) (ic : IsC X.K mg C x) (hg : Gl X x) (hd : (x == ("__debug__" : Str)) = false := by decide) : PE X (.Name x pos) (tC (.ref C)) := by
  subst hm
  exact pe_glob hg ic.glob rfl hd
def rStrI : List V → Hp → VK → Prop := fun xs H Q => ∃ i : Int, xs = [.int i] ∧ i.natAbs.log2 < 1920 ∧ Q (.str (toString i)) H
theorem call_strI : CallR X (.type "str") rStrI := call_str_int
def rStarts : V → List V → Hp → VK → Prop := fun x xs H Q => ∃ a b, x = .str a ∧ xs = [.str b] ∧ Q (.bl (Txt.startswith a b)) H
theorem mt_starts : MtR X "str.startswith" rStarts := mt_startswith
def rDictP (K : Frag) : List V → Hp → VK → Prop := fun xs H Q => ∃ (a : Addr) (ps : List Addr) (kvs : List (Key × V)), xs = [.ref a] ∧ SqL K H a (ps.map V.ref) ∧ Paired (fun p kv => SqT K H p [kV kv.1, kv.2]) ps kvs ∧
    ∀ p, H p = none → Q (.ref p) (upd H p (.dK (mergeK [] kvs)))
theorem call_dictK (K : Frag) (hK : X.K = K) (hcalm : X.calm = true) : CallR X (.type "dict") (rDictP K) := hK ▸ call_dictP hcalm
def tJn (ts : List TE) : TE := fun σ H Q => tJs ts Str.empty σ H fun out H1 => Q (.str out) H1
theorem pe_fstr {v1 v2 : Expr} {rest : List Expr} {ts : List TE} (h : PJ X (v1 :: v2 :: rest) ts) : PE X (.JoinedStr (v1 :: v2 :: rest) pos) (tJn ts) := pe_joined h
end
/-! ### rules -/
section
variable {K : Frag} {w : Wd} {n : Option Nat} {Γ : Env} {α β γ δ ρ A : Type} {t : Ty α} {u : Ty β} {ta tb te : TE}
theorem own_val {S : FS K} {s : Ty S.ρ} (hres : S.res = fun x => .im s x) (hc : S.cost = 0) {a : S.A} {vs : List V} {σ : L2.St} {B H : Hp} {Q : VK} {E : XK} {k : S.ρ → NK} (o : Ok K w n Γ σ B H) (r : S.args.rep w.d B vs a) (hp : S.pre a) (h : ∀ x, S.post a x → k x n Γ)
    (c : ∀ x v B' H', k x n Γ → Ex B B' → Ok K w n Γ σ B' H' → s.rep B' v x → Q v H') : S.sp vs H Q E := by
  refine ⟨w.d, w.ca, w.cs, n, B, a, o.entry, r, hp, .inl hc, fun x v n' B' H' hx hcc e' o' sl => ?_⟩
  rw [hres] at sl
  obtain ⟨v', h1, h2⟩ := sl
  cases h1
  have hn : n' = n := by
    rcases hcc with ⟨_, z⟩ | ⟨m, z1, z2⟩
    · exact z
    · rw [z1, z2, hc]; rfl
  subst hn
  exact c x v B' H' (h x hx) e' (o.back o') h2
theorem we_prop {S : FS K} {sp : Sp} (sub : ∀ vs H Q X, S.sp vs H Q X → sp vs H Q X) {C : Addr} {flds : α → Flds} {s : Ty S.ρ} (hres : S.res = fun x => .im s x) (hc : S.cost = 0) (up : α → S.A) (hup : ∀ {d B v a}, (tObj C flds).rep B v a → S.args.rep d B [v] (up a)) {E : XK} {k : S.ρ → NK}
    (h : WpE K w n Γ ta (tObj C flds) (fun a n Γ => S.pre (up a) ∧ ∀ x, S.post (up a) x → k x n Γ)) : WpE K w n Γ (tProp C sp [] E ta) s k := fun σ B H ok Q c =>
  h σ B H ok _ fun a v1 n1 Γ1 B1 H1 ⟨hp, q⟩ e1 o1 r1 => by
    obtain ⟨z, dx, fs, rfl, hz⟩ := insV_obj r1 o1.ex
    exact ⟨z, dx, fs, rfl, hz, sub _ _ _ _ (own_val (k := k) hres hc o1 (hup r1) hp q fun x v B' H' hk e' o' r' => c x v n1 Γ1 B' H' hk (e1.trans e') o' r')⟩
theorem we_ixO {S : FS K} {sp : Sp} (sub : ∀ vs H Q X, S.sp vs H Q X → sp vs H Q X) {C : Addr} {flds : α → Flds} {s : Ty S.ρ} (hres : S.res = fun x => .im s x) (hc : S.cost = 0) (up : α → β → S.A) (hup : ∀ {d B v1 v2 a b}, (tObj C flds).rep B v1 a → u.rep B v2 b → S.args.rep d B [v1, v2] (up a b)) {k : S.ρ → NK}
    (h : WpE K w n Γ ta (tObj C flds) (fun a n Γ => WpE K w n Γ tb u (fun b n Γ => S.pre (up a b) ∧ ∀ x, S.post (up a b) x → k x n Γ))) : WpE K w n Γ (tOp (rIxOwn C sp) ta tb) s k := fun σ B H ok Q c =>
  h σ B H ok _ fun a v1 n1 Γ1 B1 H1 q1 e1 o1 r1 => q1 σ B1 H1 o1 _ fun b v2 n2 Γ2 B2 H2 ⟨hp, q⟩ e2 o2 r2 =>
    ⟨insV_obj ((tObj C flds).mono e2 r1) o2.ex, sub _ _ _ _ (own_val (k := k) hres hc o2 (hup ((tObj C flds).mono e2 r1) r2) hp q fun x v B' H' hk e' o' r' => c x v n2 Γ2 B' H' hk ((e1.trans e2).trans e') o' r')⟩
theorem we_strO {S : FS K} {sp : Sp} (sub : ∀ vs H Q X, S.sp vs H Q X → sp vs H Q X) {C : Addr} {flds : α → Flds} (f : S.ρ → List Nat) (hres : S.res = fun x => .im tX (f x)) (hc : S.cost = 0) (up : α → S.A) (hup : ∀ {d B v a}, (tObj C flds).rep B v a → S.args.rep d B [v] (up a)) {k : List Nat → NK}
    (h : WpE K w n Γ ta (tObj C flds) (fun a n Γ => S.pre (up a) ∧ ∀ x, S.post (up a) x → k (f x) n Γ)) : WpE K w n Γ (tCB (rStrOwn C sp) (tCons ta tNil)) tX k := fun σ B H ok Q c =>
  h σ B H ok _ fun a v1 n1 Γ1 B1 H1 ⟨hp, q⟩ e1 o1 r1 =>
    ⟨v1, rfl, insV_obj r1 o1.ex, sub _ _ _ _ (by
      refine ⟨w.d, w.ca, w.cs, n1, B1, up a, o1.entry, hup r1, hp, .inl hc, fun x v n' B' H' hx hcc e' o' sl => ?_⟩
      rw [hres] at sl
      obtain ⟨v', h1, h2⟩ := sl
      cases h1
      have hn : n' = n1 := by
        rcases hcc with ⟨_, z⟩ | ⟨m, z1, z2⟩
        · exact z
        · rw [z1, z2, hc]; rfl
      subst hn
      cases h2
      exact ⟨_, rfl, c _ _ _ Γ1 B' H' (q x hx) (e1.trans e') (o1.back o') rfl⟩)⟩
theorem we_neO {S : FS K} {sp : Sp} (sub : ∀ vs H Q X, S.sp vs H Q X → sp vs H Q X) {C : Addr} {flds : α → Flds} (f : S.ρ → Bool) (hres : S.res = fun x => .im tBo (f x)) (hc : S.cost = 0) (up : α → β → S.A)
    (hup : ∀ {d B v1 v2 a b}, (tObj C flds).rep B v1 a → u.rep B v2 b → S.args.rep d B [v1, v2] (up a b)) (hy : ∀ {B v b H}, u.rep B v b → Ex B H → ∃ t, TyL K H v t ∧ PySem.W.notFirst K C t = true) {kk : Bool → NK}
    (h : WpE K w n Γ ta (tObj C flds) (fun a n Γ => WpE K w n Γ tb u (fun b n Γ => S.pre (up a b) ∧ ∀ x, S.post (up a b) x → kk (!f x) n Γ))) :
    WpE K w n Γ (tOp (rNeOwn K C sp) ta tb) tBo kk := fun σ B H ok Q c =>
  h σ B H ok _ fun a v1 n1 Γ1 B1 H1 q1 e1 o1 r1 => q1 σ B1 H1 o1 _ fun b v2 n2 Γ2 B2 H2 ⟨hp, q⟩ e2 o2 r2 => by
    refine ⟨insV_obj ((tObj C flds).mono e2 r1) o2.ex, hy r2 o2.ex, sub _ _ _ _ ⟨w.d, w.ca, w.cs, n2, B2, up a b, o2.entry, hup ((tObj C flds).mono e2 r1) r2, hp, .inl hc, fun x v n' B' H' hx hcc e' o' sl => ?_⟩⟩
    rw [hres] at sl
    obtain ⟨v', h1, h2⟩ := sl
    cases h1
    cases h2
    have hn : n' = n2 := by
      rcases hcc with ⟨_, z⟩ | ⟨m, z1, z2⟩
      · exact z
      · rw [z1, z2, hc]; rfl
    subst hn
    exact ⟨_, rfl, c _ _ n' Γ2 B' H' (q x hx) ((e1.trans e2).trans e') (o2.back o') rfl⟩
/-- x == y by the left one's own method, the promise by what it keeps -/
theorem we_eqO {S : FS K} {sp : Sp} (sub : ∀ vs H Q X, S.sp vs H Q X → sp vs H Q X) {C : Addr} {flds : α → Flds} (f : S.ρ → Bool) (hres : S.res = fun x => .im tBo (f x)) (hc : S.cost = 0) (up : α → β → S.A)
    (hup : ∀ {d B v1 v2 a b}, (tObj C flds).rep B v1 a → u.rep B v2 b → S.args.rep d B [v1, v2] (up a b)) (hy : ∀ {B v b H}, u.rep B v b → Ex B H → ∃ t, TyL K H v t ∧ PySem.W.notFirst K C t = true) {kk : Bool → NK}
    (h : WpE K w n Γ ta (tObj C flds) (fun a n Γ => WpE K w n Γ tb u (fun b n Γ => S.pre (up a b) ∧ ∀ x, S.post (up a b) x → kk (f x) n Γ))) :
    WpE K w n Γ (tOp (rCmpOwn K C sp) ta tb) tBo kk := fun σ B H ok Q c =>
  h σ B H ok _ fun a v1 n1 Γ1 B1 H1 q1 e1 o1 r1 => q1 σ B1 H1 o1 _ fun b v2 n2 Γ2 B2 H2 ⟨hp, q⟩ e2 o2 r2 => by
    refine ⟨insV_obj ((tObj C flds).mono e2 r1) o2.ex, hy r2 o2.ex, sub _ _ _ _ ⟨w.d, w.ca, w.cs, n2, B2, up a b, o2.entry, hup ((tObj C flds).mono e2 r1) r2, hp, .inl hc, fun x v n' B' H' hx hcc e' o' sl => ?_⟩⟩
    rw [hres] at sl
    obtain ⟨v', h1, h2⟩ := sl
    cases h1
    have hn : n' = n2 := by
      rcases hcc with ⟨_, z⟩ | ⟨m, z1, z2⟩
      · exact z
      · rw [z1, z2, hc]; rfl
    subst hn
    exact c _ _ n' Γ2 B' H' (q x hx) ((e1.trans e2).trans e') (o2.back o') h2
theorem we_inO' {S : FS K} {sp : Sp} (sub : ∀ vs H Q X, S.sp vs H Q X → sp vs H Q X) {neg : Bool} {C : Addr} {flds : β → Flds} (f : S.ρ → Bool) (hres : S.res = fun x => .im tBo (f x)) (hc : S.cost = 0) (up : α → β → S.A)
    (hup : ∀ {d B v1 v2 a b}, t.rep B v1 a → (tObj C flds).rep B v2 b → S.args.rep d B [v2, v1] (up a b)) {kk : Bool → NK}
    (h : WpE K w n Γ ta t (fun a n Γ => WpE K w n Γ tb (tObj C flds) (fun b n Γ => S.pre (up a b) ∧ ∀ x, S.post (up a b) x → kk (if neg then !(f x) else f x) n Γ))) :
    WpE K w n Γ (tOp (rInOwn neg C sp) ta tb) tBo kk := fun σ B H ok Q c =>
  h σ B H ok _ fun a v1 n1 Γ1 B1 H1 q1 e1 o1 r1 => q1 σ B1 H1 o1 _ fun b v2 n2 Γ2 B2 H2 ⟨hp, q⟩ e2 o2 r2 => by
    refine ⟨insV_obj r2 o2.ex, sub _ _ _ _ ⟨w.d, w.ca, w.cs, n2, B2, up a b, o2.entry, hup (t.mono e2 r1) r2, hp, .inl hc, fun x v n' B' H' hx hcc e' o' sl => ?_⟩⟩
    rw [hres] at sl
    obtain ⟨v', h1, h2⟩ := sl
    cases h1
    cases h2
    have hn : n' = n2 := by
      rcases hcc with ⟨_, z⟩ | ⟨m, z1, z2⟩
      · exact z
      · rw [z1, z2, hc]; rfl
    subst hn
    exact ⟨_, rfl, c _ _ n' Γ2 B' H' (q x hx) ((e1.trans e2).trans e') (o2.back o') rfl⟩
/-! an instance of one's own class, or something else: None, an int, a text, a tuple -/
def tOth (C : Addr) (flds : α → Flds) : Ty (Option α) := ⟨fun B v x => match x with
    | some y => (tObj C flds).rep B v y
    | none => v = .non ∨ (∃ i, v = .int i) ∨ (∃ z, v = .str z) ∨ ∃ a xs, v = .ref a ∧ B a = some (.tup xs), fun {B B' v x} e h => by
  cases x with
  | some y => exact (tObj C flds).mono e h
  | none =>
    rcases h with h | h | h | ⟨a, xs, h1, h2⟩
    · exact .inl h
    · exact .inr (.inl h)
    · exact .inr (.inr (.inl h))
    · exact .inr (.inr (.inr ⟨a, xs, h1, e _ _ h2⟩))⟩
/-- what else there is, known to be no instance -/
theorem oth_ty {C : Addr} {flds : α → Flds} {B H : Hp} {v : V} (h : (tOth C flds).rep B v none) (e : Ex B H) : ∃ tn : String, TyX K H v (.type tn) ∧ (tn = "NoneType" ∨ tn = "int" ∨ tn = "str" ∨ tn = "tuple") := by
  rcases h with h | ⟨i, h⟩ | ⟨z, h⟩ | ⟨a, xs, h, h2⟩
  · subst h; exact ⟨_, .base .non, .inl rfl⟩
  · subst h; exact ⟨_, .base (.int _), .inr (.inl rfl)⟩
  · subst h; exact ⟨_, .base (.str _), .inr (.inr (.inl rfl))⟩
  · subst h; exact ⟨_, .base (.tup (e _ _ h2)), .inr (.inr (.inr rfl))⟩
theorem sub_bi {C : Addr} {tn : String} (h : tn = "NoneType" ∨ tn = "int" ∨ tn = "str" ∨ tn = "tuple") : PySem.W.subIn K (.type tn) (.ref C) = some false := by
  have e : fastBuiltinMro tn = some [.type tn, .type "object"] := by
    rcases h with rfl | rfl | rfl | rfl <;> decide +kernel
  show (fastBuiltinMro tn).map (·.contains (.ref C)) = some false
  rw [e]
  first
    | rfl
    | simp
theorem tyL_oth {C : Addr} {flds : α → Flds} {B H : Hp} {v : V} {x : Option α} (h : (tOth C flds).rep B v x) (e : Ex B H) : ∃ t, TyL K H v t ∧ PySem.W.notFirst K C t = true := by
  cases x with
  | some y => exact tyL_obj h e
  | none =>
    obtain ⟨tn, h1, h2⟩ := oth_ty (K := K) h e
    refine ⟨_, .kit h1, ?_⟩
    unfold PySem.W.notFirst
    rw [sub_bi h2]
    simp
theorem kit_bi {mg : Str → Option Value} {x : Str} {C : Addr} (ic : IsC K mg C x) {tn : String} (h : tn = "NoneType" ∨ tn = "int" ∨ tn = "str" ∨ tn = "tuple") : PySem.W.kitOne K (.type tn) (.ref C) = some false := by
  have hc : (PySem.W.clsIn K C).isSome = true := by
    obtain ⟨cd, hc, _⟩ := PySem.W.any_some ic.cl.hd
    rw [hc]
    rfl
  unfold PySem.W.kitOne PySem.W.kitCls
  rw [if_neg (by intro z; cases beq_iff_eq.mp z)]
  show (if _ then _ else _) = _
  rw [if_pos (by rw [hc, ic.ty]; simp)]
  exact sub_bi h
theorem we_isOwn {mg : Str → Option Value} {x : Str} {C : Addr} {flds : α → Flds} (ic : IsC K mg C x) {k : Bool → NK}
    (h : WpE K w n Γ ta (tOth C flds) (fun x n Γ => k x.isSome n Γ)) : WpE K w n Γ (tCB (rIsi K) (tCons ta (tCons (tC (.ref C)) tNil))) tBo k := fun σ B H ok Q c =>
  h σ B H ok _ fun x v n1 Γ1 B1 H1 q e o r => by
    cases x with
    | some y =>
      obtain ⟨a, dx, fs, rfl, hs⟩ := insV_obj r o.ex
      exact ⟨_, .ref C, .ref C, .ref C, true, rfl, .own C, .base (.ins hs ic.cl ic.ha ic.hn ic.htk ic.hm), by unfold PySem.W.kitOne; simp, c _ _ n1 Γ1 B1 H1 q e o rfl⟩
    | none =>
      obtain ⟨tn, h1, h2⟩ := oth_ty (K := K) r o.ex
      exact ⟨_, .ref C, .type tn, .ref C, false, rfl, .own C, h1, kit_bi ic h2, c _ _ n1 Γ1 B1 H1 q e o rfl⟩
theorem View.isSome {C : Addr} {flds : α → Flds} {i : Nat} {x : α} (h : Γ[i]? = Option.some (.im (tOth C flds) (Option.some x))) : View K w n Γ n (Γ.set i (.im (tObj C flds) x)) := fun σ B H ok => by
  obtain ⟨v, h1, h2⟩ := ok.sl i _ h
  have o2 := ok.setIm (i := i) (t := tObj C flds) (x := x) (v := v) h2
  rw [slot_same h1] at o2
  exact ⟨B, Ex.refl _, o2⟩
/-! as something of either kind -/
theorem we_othO {C : Addr} {flds : α → Flds} {k : Option α → NK} (h : WpE K w n Γ te (tObj C flds) (fun x n Γ => k (some x) n Γ)) : WpE K w n Γ te (tOth C flds) k := fun σ B H ok Q c => h σ B H ok Q fun x v n' Γ' B' H' q e o r => c (some x) v n' Γ' B' H' q e o r
theorem we_othI {C : Addr} {flds : α → Flds} {k : Option α → NK} (h : WpE K w n Γ te tI (fun x n Γ => k none n Γ)) : WpE K w n Γ te (tOth C flds) k := fun σ B H ok Q c => h σ B H ok Q fun x v n' Γ' B' H' q e o r => c none v n' Γ' B' H' q e o (.inr (.inl ⟨x, r⟩))
theorem we_othX {C : Addr} {flds : α → Flds} {k : Option α → NK} (h : WpE K w n Γ te tX (fun x n Γ => k none n Γ)) : WpE K w n Γ te (tOth C flds) k := fun σ B H ok Q c => h σ B H ok Q fun x v n' Γ' B' H' q e o r => c none v n' Γ' B' H' q e o (.inr (.inr (.inl ⟨_, r⟩)))
theorem we_othN {C : Addr} {flds : α → Flds} {k : Option α → NK} (h : k none n Γ) : WpE K w n Γ (tC .non) (tOth C flds) k := fun σ B H ok Q c => c none _ n Γ B H h (Ex.refl _) ok (.inl rfl)
theorem we_othU {C : Addr} {flds : γ → Flds} {k : Option γ → NK} (h : WpE K w n Γ te (tP t u) (fun x n Γ => k none n Γ)) : WpE K w n Γ te (tOth C flds) k := fun σ B H ok Q c => h σ B H ok Q fun x v n' Γ' B' H' q e o ⟨a, p, q', hv, hs, _⟩ => c none v n' Γ' B' H' q e o (.inr (.inr (.inr ⟨a, _, hv, hs⟩)))
/-! texts of numbers, f-strings -/
def txI (i : Int) : List Nat := (Str.ofString (toString i)).cps.toList
theorem txI_len {i : Int} (h : i.natAbs.log2 < 1920) : (txI i).length ≤ 1921 := by
  have e := int_text_length_le (k := 1920) (by decide) h
  have : (txI i).length = (Str.ofString (toString i)).length := by unfold txI Str.length; simp
  rw [this, PySem.ofString_length]
  exact e
theorem txI_S (i : Int) : SX.S (txI i) = Str.ofString (toString i) := SX.S_tl _
theorem we_strI {k : List Nat → NK} (h : WpE K w n Γ ta tI (fun i n Γ => i.natAbs.log2 < 1920 ∧ k (txI i) n Γ)) : WpE K w n Γ (tCB rStrI (tCons ta tNil)) tX k := fun σ B H ok Q c =>
  h σ B H ok _ fun i v n1 Γ1 B1 H1 ⟨hz, q⟩ e o r => ⟨i, by rw [r], hz, c _ _ n1 Γ1 B1 H1 q e o (by show V.str _ = V.str _; rw [txI_S])⟩
theorem we_fmtI {k : List Nat → NK} (h : WpE K w n Γ ta tI (fun i n Γ => i.natAbs.log2 < 1920 ∧ k (txI i) n Γ)) : WpE K w n Γ (tFmt ta) tX k := fun σ B H ok Q c =>
  h σ B H ok _ fun i v n1 Γ1 B1 H1 ⟨hz, q⟩ e o r => .inr ⟨i, r, hz, c _ _ n1 Γ1 B1 H1 q e o (by show V.str _ = V.str _; rw [txI_S])⟩
theorem we_fmtX {k : List Nat → NK} (h : WpE K w n Γ ta tX (fun x n Γ => x.length ≤ 100000 ∧ k x n Γ)) : WpE K w n Γ (tFmt ta) tX k := fun σ B H ok Q c =>
  h σ B H ok _ fun x v n1 Γ1 B1 H1 ⟨hz, q⟩ e o r => .inl ⟨_, r, by rw [SX.S_len]; exact sz hz, c _ _ n1 Γ1 B1 H1 q e o rfl⟩
def WpJ (K : Frag) (w : Wd) (n : Option Nat) (Γ : Env) (ts : List TE) (acc : List Nat) (k : List Nat → NK) : Prop := ∀ σ B H, Ok K w n Γ σ B H → ∀ Q : Str → Hp → Prop, (∀ x n' Γ' B' H', k x n' Γ' → Ex B B' → Ok K w n' Γ' σ B' H' → Q (SX.S x) H') → tJs ts (SX.S acc) σ H Q
theorem wj_nil {acc : List Nat} {k : List Nat → NK} (h : k acc n Γ) : WpJ K w n Γ [] acc k := fun σ B H ok Q c => c acc n Γ B H h (Ex.refl _) ok
theorem wj_cons {ts : List TE} {acc : List Nat} {k : List Nat → NK} (h : WpE K w n Γ te tX (fun x n Γ => (acc ++ x).length ≤ 100000 ∧ WpJ K w n Γ ts (acc ++ x) k)) : WpJ K w n Γ (te :: ts) acc k := fun σ B H ok Q c =>
  h σ B H ok _ fun x v n1 Γ1 B1 H1 ⟨hz, q⟩ e o r => ⟨_, r, by rw [SX.S_cat, SX.S_len]; exact sz hz, by
    rw [SX.S_cat]
    exact q σ B1 H1 o _ fun y n2 Γ2 B2 H2 q2 e2 o2 => c y n2 Γ2 B2 H2 q2 (e.trans e2) o2⟩
theorem we_fstr {ts : List TE} {k : List Nat → NK} (h : WpJ K w n Γ ts [] k) : WpE K w n Γ (tJn ts) tX k := fun σ B H ok Q c => h σ B H ok _ fun x n1 Γ1 B1 H1 q e o => c x _ n1 Γ1 B1 H1 q e o rfl
theorem starts1 {a : List Nat} {c : Nat} : Txt.startswith (SX.S a) (SX.S [c]) = decide (a.head? = some c) := by
  cases a with
  | nil => rfl
  | cons d r =>
    unfold Txt.startswith
    simp [SX.S, Str.length, Builtin.Str.subAt]
    by_cases h : d = c <;> simp [h]
theorem we_starts1 {s : Str} {c : Nat} (hs : s = SX.S [c]) {k : Bool → NK} (h : WpE K w n Γ ta tX (fun a n Γ => k (decide (a.head? = some c)) n Γ)) : WpE K w n Γ (tM1 rStarts ta (tC (.str s))) tBo k := fun σ B H ok Q cc =>
  h σ B H ok _ fun a v n1 Γ1 B1 H1 q1 e1 o1 r1 => ⟨⟨_, r1⟩, _, _, r1, by rw [hs], by rw [starts1]; exact cc _ _ n1 Γ1 B1 H1 q1 e1 o1 rfl⟩
end
end TL

/-! # TL: own lists lent, pop at a place, dict of pairs, in of bools -/
namespace TL
open PySem L2 PyProof.Rows PySem.Calls
open PySem.W (Frag)
section
variable {K : Frag} {w : Wd} {n : Option Nat} {Γ : Env} {α β γ δ ρ A : Type} {t : Ty α} {u : Ty β} {ta tb te : TE} {ts ts' : TS} {res : ρ → Ent} {nx bk ct : NK} {rt : ρ → Option Nat → Prop}
def PLst (o : HO) : Prop := ∃ vs, o = .lst vs
theorem Ok.unlendL {P : HO → Prop} {σ : L2.St} {B H B' H' : Hp} {l : Addr} {o : HO} {n' : Option Nat} (hn : ∃ m, n = some m) (ok : Ok K w n Γ σ B H) (h2 : H l = some o) (h3 : B l = none) (h4 : w.H0 l = none) (ho : P o)
    (c : Ok K ⟨w.d, w.ca, w.cs, upd B l o, H⟩ n' [] [] B' H') : Ok K w n' Γ σ (del B' l) H' ∧ ∀ a q, B' a = some q → del B' l a = some q ∨ P q := by
  have ne : l ≠ w.d := fun z => noS h4 (z ▸ ok.hd)
  have nc : w.ca ≠ l := by
    obtain ⟨m, hm⟩ := hn
    obtain ⟨_, _, _, _, p2, _⟩ := ok.pn m hm
    exact fun z => by rw [z, h3] at p2; cases p2
  have hB : B' l = some o := c.ex0 l o upd_same
  have mv : ∀ a q, B' a = some q → del B' l a = some q ∨ P q := fun a q e => by
    by_cases z : a = l
    · subst z; rw [hB] at e; cases e; exact .inr ho
    · rw [del_ne z]; exact .inl e
  have eb : Ex B (del B' l) := fun a q e => by
    have z : a ≠ l := ne_of_none e h3
    rw [del_ne z]; exact c.ex0 a q (by show upd B l o a = some q; rw [upd_ne z]; exact e)
  refine ⟨⟨fun a q e => c.ex a q (del_some e).2, ok.ex0.trans eb, fun a q e => ?_, fun a q e na => c.kp a q (ok.kp a q e na) na, ok.hd, c.hh, fun m q => ?_, ok.ln, fun i en q => ?_, ok.ds⟩, mv⟩
  · obtain ⟨z, e'⟩ := del_some e
    rcases c.nw a q e' with y | y
    · have y : upd B l o a = some q := y
      rw [upd_ne z] at y; exact ok.nw a q y
    · right
      have y : H a = none := y
      cases hq : w.H0 a with
      | none => rfl
      | some u =>
        by_cases na : a = w.d
        · subst na; exact (noS y ok.hh).elim
        · rw [ok.kp a u hq na] at y; cases y
  · obtain ⟨fr, a, b, p1, p2, p3⟩ := c.pn m q
    refine ⟨by rw [del_ne (Ne.symm ne)]; exact fr, a, b, p1, ?_, p3⟩
    have p2 : B' w.ca = _ := p2
    rw [del_ne nc]; exact p2
  · have s := ok.sl i en q
    refine s.keep eb rfl fun a ha => ?_
    obtain ⟨ob, g1, g2, g3⟩ := s.owned ha
    have na : a ≠ w.d := fun z => noS g3 (z ▸ ok.hd)
    refine ⟨by rw [g1]; exact c.kp a ob g1 na, ?_, g3⟩
    by_cases z : a = l
    · subst z; exact del_same
    · rw [del_ne z]
      cases hq : B' a with
      | none => rfl
      | some u =>
        rcases c.nw a u hq with y | y
        · have y : upd B l o a = some u := y
          rw [upd_ne z, g2] at y; cases y
        · have y : H a = none := y
          rw [g1] at y; cases y
theorem Ok.lendL {xs : List β} {σ : L2.St} {B H : Hp} {i : Nat} (ok : Ok K w n Γ σ B H) (hi : Γ[i]? = some (.ml u xs)) :
    ∃ l o, H l = some o ∧ B l = none ∧ w.H0 l = none ∧ PLst o ∧ Ok K ⟨w.d, w.ca, w.cs, upd B l o, H⟩ n (hideE (Γ.set i (.im (tL u) xs)) []) σ (upd B l o) H := by
  obtain ⟨l, o, h1, h2, h3, h4, h5⟩ := ok.sl i _ hi
  obtain ⟨o', g1, g2, g3, g4⟩ := ok.freeze hi h1
  rw [h2] at g1; cases g1
  obtain ⟨vs, rfl, p⟩ := h5
  have ok2 := g4.setIm (i := i) (t := tL u) (x := xs) (v := .ref l) ⟨l, vs, rfl, upd_same, pw_mono (fun _ _ => u.mono (Ex.new h3)) p⟩
  rw [List.set_set, slot_same h1] at ok2
  exact ⟨l, _, h2, h3, h4, ⟨vs, rfl⟩, ok2.inner []⟩
/-- an expression that reads one's own list and gives data that hold no list -/
theorem we_lendL {xs : List β} {k : α → NK} (i : Nat) (hi : Γ[i]? = some (.ml u xs)) (hn : ∃ m, n = some m) (hb : Blind PLst t) (h : ∀ w' : Wd, SetE (hideE (Γ.set i (.im (tL u) xs)) []) fun Γ' => WpE K w' n Γ' te t (fun x n' _ => k x n' Γ)) : WpE K w n Γ te t k := fun σ B H ok Q c => by
  obtain ⟨l, o, h1, h2, h3, h4, o1⟩ := ok.lendL hi
  refine h _ σ _ H o1 Q fun x v n' Γ' B' H' q e o2 rp => ?_
  obtain ⟨o3, mv⟩ := ok.unlendL hn h1 h2 h3 h4 o2.nil
  exact c x v n' Γ _ H' q (fun a q e' => by
    have z : a ≠ l := ne_of_none e' h2
    rw [del_ne z]; exact e a q (by rw [upd_ne z]; exact e')) o3 (hb _ _ _ _ mv rp)
theorem wt_lendL {xs : List β} {tt : TT} {kt kf : NK} (i : Nat) (hi : Γ[i]? = some (.ml u xs)) (hn : ∃ m, n = some m) (h : ∀ w' : Wd, SetE (hideE (Γ.set i (.im (tL u) xs)) []) fun Γ' => WpT K w' n Γ' tt (fun n' _ => kt n' Γ) (fun n' _ => kf n' Γ)) : WpT K w n Γ tt kt kf := fun σ B H ok Q ct cf => by
  obtain ⟨l, o, h1, h2, h3, h4, o1⟩ := ok.lendL hi
  have ev : ∀ {B'}, Ex (upd B l o) B' → Ex B (del B' l) := fun e a q e' => by
    have z : a ≠ l := ne_of_none e' h2
    rw [del_ne z]; exact e a q (by rw [upd_ne z]; exact e')
  exact h _ σ _ H o1 Q (fun n' Γ' B' H' q e o2 => ct n' Γ _ H' q (ev e) (ok.unlendL hn h1 h2 h3 h4 o2.nil).1) (fun n' Γ' B' H' q e o2 => cf n' Γ _ H' q (ev e) (ok.unlendL hn h1 h2 h3 h4 o2.nil).1)
theorem noL_tup (xs : List V) : ¬ PLst (.tup xs) := fun ⟨_, h⟩ => by cases h
theorem noL_ins {C : Addr} (dx : Addr) (fs : List (Str × V)) : ¬ PLst (.ins C dx fs) := fun ⟨_, h⟩ => by cases h
/-! xs.pop(j) -/
theorem pw_erase {R : V → α → Prop} : ∀ {vs : List V} {xs : List α} (j : Nat), Paired R vs xs → Paired R (vs.eraseIdx j) (xs.eraseIdx j)
  | _, _, _, .nil => .nil
  | _, _, 0, .cons h r => r
  | _, _, j + 1, .cons h r => .cons h (pw_erase j r)
theorem we_popAt {i : Nat} {xs0 xs : List α} {ti : TE} {k : α → NK} (hi : Γ[i]? = some (.ml t xs0)) (h : WpE K w n Γ ti tI (fun j n Γ => Γ[i]? = some (.ml t xs) ∧ xs.length ≤ 100000 ∧ 0 ≤ j ∧ ∃ x, xs[j.toNat]? = some x ∧ SetE (Γ.set i (.ml t (xs.eraseIdx j.toNat))) (fun Γ => k x n Γ))) :
    WpE K w n Γ (tBM K "list" rPopAt (tVar i) (tCons ti tNil)) t k := fun σ B H ok Q c => by
  obtain ⟨l, o, h1, h2, h3, h4, vs0, rfl, p0⟩ := ok.sl i _ hi
  refine ⟨.ref l, h1, .inl ⟨rfl, vs0, .inl (.inl h2)⟩, h σ B H ok _ fun j jv n1 Γ1 B1 H1 ⟨g, hz, h0, x, hx, q⟩ e o1 rj => ?_⟩
  obtain ⟨l', o', k1, k2, k3, k4, vs, rfl, p⟩ := o1.sl i _ g
  rw [h1] at k1; cases k1
  have hjl := get_lt hx
  obtain ⟨y, hy, rx⟩ := pw_getR p hx
  have hj := get_lt hy
  have rj : jv = .int j := rj
  subst rj
  refine ⟨l, vs, j, j.toNat, y, rfl, rfl, k2, by omega, by have := pw_len p; omega, PySem.seqIndex_of h0 (by omega), hy, ?_⟩
  exact c x _ n1 _ B1 _ q e (o1.put (r' := rL t (xs.eraseIdx j.toNat)) g h1 ⟨_, rfl, pw_erase _ p⟩) rx
theorem pairs_in {B H : Hp} (hs : ∀ p xs, B p = some (.tup xs) → SqT K H p xs) : ∀ {vs : List V} {kvs : List (Int × α)}, Paired ((tP tI t).rep B) vs kvs →
    ∃ (ps : List Addr) (kv : List (Key × V)), vs = ps.map V.ref ∧ Paired (fun p c => SqT K H p [kV c.1, c.2]) ps kv ∧ Paired (fun (p : Key × V) (q : Int × α) => p.1 = .inl q.1 ∧ t.rep B p.2 q.2) kv kvs
  | _, _, .nil => ⟨[], [], rfl, .nil, .nil⟩
  | _, _, .cons ⟨a, p, q, h1, h2, h3, h4⟩ r => by
    obtain ⟨ps, kv, rfl, g1, g2⟩ := pairs_in hs r
    have h3 : p = V.int _ := h3
    subst h1; subst h3
    exact ⟨a :: ps, (.inl _, q) :: kv, rfl, .cons (hs _ _ h2) g1, .cons ⟨rfl, h4⟩ g2⟩
theorem merge_app : ∀ {kv acc : List (Key × V)}, (kv.map (·.1)).Nodup → (∀ p ∈ kv, ∀ q ∈ acc, q.1 ≠ p.1) → mergeK acc kv = acc ++ kv
  | [], acc, _, _ => by simp [mergeK]
  | p :: r, acc, nd, h => by
    rw [List.map_cons, List.nodup_cons] at nd
    have e : mergeK acc (p :: r) = mergeK (putK acc p.1 p.2) r := rfl
    rw [e]
    have e2 : putK acc p.1 p.2 = acc ++ [p] := by
      unfold putK
      rw [if_neg]
      intro z
      obtain ⟨q, hq, e⟩ := List.any_eq_true.mp z
      exact h p List.mem_cons_self q hq (of_decide_eq_true e)
    rw [e2, merge_app nd.2, List.append_assoc]
    · rfl
    intro q hq c hc
    rcases List.mem_append.mp hc with hc | hc
    · exact h q (List.mem_cons_of_mem _ hq) c hc
    · rw [List.mem_singleton.mp hc]
      exact fun z => nd.1 (z ▸ List.mem_map_of_mem hq)
theorem keys_of {B : Hp} : ∀ {kv : List (Key × V)} {kvs : List (Int × α)}, Paired (fun (p : Key × V) (q : Int × α) => p.1 = .inl q.1 ∧ t.rep B p.2 q.2) kv kvs → kv.map (·.1) = kvs.map fun q => (Sum.inl q.1 : Key)
  | _, _, .nil => rfl
  | _, _, .cons ⟨h, _⟩ r => by rw [List.map_cons, List.map_cons, h, keys_of r]
/-- dict(xs), a list of pairs with different keys -/
theorem wm_dictP {k : Rs → NK} (t : Ty α) (h : WpE K w n Γ ta (tL (tP tI t)) (fun kvs n Γ => (kvs.map (·.1)).Nodup ∧ k (rD t kvs) n Γ)) : WpM K w n Γ (tCB (rDictP K) (tCons ta tNil)) k := fun σ B H ok Q c =>
  h σ B H ok _ fun kvs v n1 Γ1 B1 H1 ⟨nd, q⟩ e1 o1 ⟨a, vs, hv, hs, p⟩ => by
    obtain ⟨ps, kv, rfl, g1, g2⟩ := pairs_in (K := K) (H := H1) (fun p xs hp => SqT.of (o1.ex _ _ hp)) p
    refine ⟨a, ps, kv, by rw [hv], SqL.of (o1.ex _ _ hs), g1, fun x hx => ?_⟩
    have nk : (kv.map (·.1)).Nodup := by
      rw [keys_of g2]
      rw [show (kvs.map fun q => (Sum.inl q.1 : Key)) = (kvs.map (·.1)).map Sum.inl by rw [List.map_map]; rfl]
      exact List.Pairwise.map _ (fun a b h z => h (by cases z; rfl)) nd
    rw [merge_app nk (fun p _ q hq => by cases hq), List.nil_append]
    exact c _ x n1 Γ1 B1 _ q e1 (o1.grow (Grow.open o1.ex hx)) (Own.new o1 hx ⟨kv, rfl, g2⟩)
/-- among bools -/
theorem inV_bools {x : Bool} : ∀ {xs : List Bool}, inV (.bl x) (xs.map V.bl) = decide (x ∈ xs) ∧ (xs.map V.bl).all flatV = true
  | [] => ⟨by simp [inV], rfl⟩
  | y :: r => by
    obtain ⟨h1, h2⟩ := inV_bools (x := x) (xs := r)
    refine ⟨?_, by simp only [List.map_cons, List.all_cons, h2]; rfl⟩
    have e : inV (.bl x) ((y :: r).map V.bl) = (eqV (.bl y) (.bl x) || inV (.bl x) (r.map V.bl)) := rfl
    have hb : eqV (.bl y) (.bl x) = (y == x) := by cases x <;> cases y <;> with_unfolding_all rfl
    rw [e, h1, hb]
    cases x <;> cases y <;> simp
theorem we_inB {b : Bool} {k : Bool → NK} (h : WpE K w n Γ ta tBo (fun a n Γ => WpE K w n Γ tb (tL tBo) (fun xs n Γ => k (if b then !decide (a ∈ xs) else decide (a ∈ xs)) n Γ))) : WpE K w n Γ (tOp (rIn K b) ta tb) tBo k := fun σ B H ok Q c =>
  h σ B H ok _ fun a x n1 Γ1 B1 H1 q1 e1 o1 r1 => q1 σ B1 H1 o1 _ fun xs y n2 Γ2 B2 H2 q2 e2 o2 r2 => by
    have r1 : x = .bl a := r1
    subst r1
    obtain ⟨p, vs, rfl, hs, pv⟩ := r2
    have ev : vs = xs.map V.bl := by
      have : ∀ {vs : List V} {xs : List Bool}, Paired (tBo.rep B2) vs xs → vs = xs.map V.bl := by
        intro vs xs p
        induction p with
        | nil => rfl
        | cons h _ ih => rw [ih, List.map_cons, show _ = V.bl _ from h]
      exact this pv
    subst ev
    obtain ⟨i1, i2⟩ := inV_bools (x := a) (xs := xs)
    exact ⟨p, _, rfl, .inl (SqL.of (o2.ex _ _ hs)), rfl, i2, c _ _ n2 Γ2 B2 H2 q2 (e1.trans e2) o2 (by show V.bl _ = V.bl _; rw [i1])⟩
end
end TL
namespace TL
open PySem L2 PyProof.Rows PySem.Calls
open PySem.W (Frag)
section
variable {K : Frag} {w : Wd} {n : Option Nat} {Γ : Env} {α β γ δ ρ A : Type} {t : Ty α} {u : Ty β} {ta tb te : TE} {ts ts' : TS} {res : ρ → Ent} {nx bk ct : NK} {rt : ρ → Option Nat → Prop}
/-- a, b = (own thing), (datum) -/
theorem ws_par2ME {i j : Nat} (h : WpM K w n Γ ta (fun r1 n1 Γ1 => Γ1 = Γ ∧ ∀ w' : Wd, SetE (hideE Γ []) fun Γh => WpE K w' n1 Γh tb u (fun y n2 _ => SetE ((Γ.set i (.mu r1)).set j (.im u y)) (nx n2)))) :
    WpS K w n Γ (tPar i j (tCons ta (tCons tb tNil))) res nx bk ct rt := fun σ B H ok D a b c d =>
  h σ B H ok _ fun r1 l1 n1 Γ1 B1 H1 ⟨hg1, q1⟩ e1 o1 ow1 => by
    subst hg1
    refine q1 ⟨w.d, w.ca, w.cs, B1, H1⟩ σ B1 H1 (o1.inner []) _ fun y v n2 Γ2 B2 H2 q2 e2 o2 r2 => ?_
    have ok2 := o1.back o2.nil
    have ow1b := ow1.back o1 o2.nil
    refine ⟨.ref l1, v, rfl, a _ _ _ B2 H2 q2 (e1.trans e2) ?_⟩
    exact (ok2.setMu (i := i) ow1b).setIm (i := j) r2
/-- a, b = (own thing), (own thing) -/
theorem ws_par2MM {i j : Nat} (h : WpM K w n Γ ta (fun r1 n1 Γ1 => Γ1 = Γ ∧ ∀ w' : Wd, SetE (hideE Γ []) fun Γh => WpM K w' n1 Γh tb (fun r2 n2 _ => SetE ((Γ.set i (.mu r1)).set j (.mu r2)) (nx n2)))) :
    WpS K w n Γ (tPar i j (tCons ta (tCons tb tNil))) res nx bk ct rt := fun σ B H ok D a b c d =>
  h σ B H ok _ fun r1 l1 n1 Γ1 B1 H1 ⟨hg1, q1⟩ e1 o1 ow1 => by
    subst hg1
    refine q1 ⟨w.d, w.ca, w.cs, B1, H1⟩ σ B1 H1 (o1.inner []) _ fun r2 l2 n2 Γ2 B2 H2 q2 e2 o2 ow2 => ?_
    have ok2 := o1.back o2.nil
    have ow1b := ow1.back o1 o2.nil
    have ow2c := ow2.out o1
    have h2n : H1 l2 = none := ow2.h0
    have i1 : ∃ ob, H1 l1 = some ob := ⟨_, ow1.ob.choose_spec.1⟩
    have ne : l2 ≠ l1 := fun z => by
      obtain ⟨ob, q⟩ := i1
      rw [← z, h2n] at q; cases q
    refine ⟨.ref l1, .ref l2, rfl, a _ _ _ B2 H2 q2 (e1.trans e2) ?_⟩
    refine (ok2.setMu (i := i) ow1b).setMu (i := j) ⟨ow2c.ob, ow2c.b, ow2c.h0, fun i' e' hi z => ?_⟩
    rcases get_set hi with ⟨rfl, rfl, il⟩ | ⟨nm, hm⟩
    · have z' : (σ.set i (some (V.ref l1)))[i]? = some (some (V.ref l2)) := z
      rw [List.getElem?_set, if_pos rfl, if_pos (by rw [← ok2.ln]; exact il)] at z'
      cases z'
      exact ne rfl
    · rw [List.getElem?_set, if_neg nm] at z
      exact ow2c.df i' e' hm z
end
end TL

/-! # TL: operators of own classes with an int on either side -/
namespace RefK
open PySem PySem.Spec PyProof.Rows
section
variable {M : Model} {prog : Program} {w : World} {A : Around} {E : Value → Shared → Prop} {s : Shared} {K : PySem.W.Frag} {x C f f0 L dx : Addr} {ox : Obj} {od : Option Obj} {h₀ : Heap} {m : Str → Option Value} {n : Int} {t : Tok} {nm : String}
theorem asInt_inst {Q : Option Int → Shared → Prop} (ho : s.heap.get? x = some (PySem.W.instObj C dx)) (q : Q none s) : wpAny M A (asInt? (.ref x)) Q E s := by
  unfold asInt?
  exact wpAny_bind (wpAny_load ho (wpAny_pure q))
theorem bin_declines {f : Int → Int → Sem Fin} {name : String} {Q : Fin → Shared → Prop} (ho : s.heap.get? x = some (PySem.W.instObj C dx)) (q : Q (.done (.ret .notImplemented)) s) : wpAny M A (Builtin.Int.intBinary name f false ⟨[.int n t, .ref x], []⟩) Q E s := by
  unfold Builtin.Int.intBinary
  repeat (first
    | (refine wpAny_bind (m := asInt? (.ref x)) (asInt_inst ho ?_))
    | (refine wpAny_bind (m := asInt? _) (asInt_inst ho ?_))
    | wp_step)
  exact q
theorem fills_int (h : fillsNumberSlot (.type "int") nm = pure true) {hh : Heap} : PySem.W.Looks M hh (fillsNumberSlot (.type "int") nm) true := PySem.W.Looks.of_pure h
/-- int op own: the own class's reflected method answers -/
theorem binR_K {op : Operator} {idl : String} {Q : Value → Shared → Prop} (F' : Fr h₀ L s.heap m) (X₀ : K.In h₀) (I : PySem.W.InstAt s.heap x ox C od) (ho : s.heap.get? x = some (PySem.W.instObj C dx)) (hc : PySem.W.selfFirst K C = true)
    (hs : PySem.W.findIn K (.ref C) (PySem.dunder op.info.2) = some (some (.ref f0))) (hr : PySem.W.findIn K (.ref C) (dunderR op.info.2) = some (some (.ref f))) (hf : PySem.W.isFn K (.ref f) = true)
    (hfill : fillsNumberSlot (.type "int") op.info.2 = pure true) (hsub : PySem.W.subIn K (.ref C) (.type "int") = some false) (hl : Slot "int" (PySem.dunder op.info.2) idl)
    (hd : ∀ {A' : Around} {E' : Value → Shared → Prop} {Q' : Value → Shared → Prop}, Q' .notImplemented s → wpAny (model prog w) A' (call (.builtin idl) [.int n t, .ref x]) Q' E' s)
    (h : wpAny (model prog w) A (call (.ref f) [.ref x, .int n t]) (PySem.W.CmpBack Q) E s) : wpAny (model prog w) A (binaryOp op (.int n t) (.ref x)) Q E s := by
  have X := X₀.keeps F'.keep
  obtain ⟨cd, rest, hcd, hm⟩ := PySem.W.ksp_first hc
  rcases hi : op.info with ⟨sym, nm'⟩
  rw [hi] at hs hr hfill hl
  dsimp only at hs hr hfill hl
  have one := PySem.W.ksp_try X I hr hf h
  have two : wpAny (model prog w) A (tryMethod (.int n t) (dunder nm') (.ref x)) (fun r s' => r = none ∧ s' = s) E s := by
    unfold tryMethod
    exact wpAny_bind (wpAny_callSpecial?_slot (show s.TypeIs (.int n t) "int" from rfl) hl (hd (wpAny_pure ⟨rfl, rfl⟩)))
  obtain ⟨hh, g, d, tt, os⟩ := s
  have L1 : PySem.W.Looks (model prog w) hh (typeOf (.int n t)) (.type "int") := PySem.W.Looks.of_pure rfl
  have L2 : PySem.W.Looks (model prog w) hh (typeOf (.ref x)) (.ref C) := I.type
  have L3 : PySem.W.Looks (model prog w) hh (fillsNumberSlot (.type "int") nm') true := PySem.W.Looks.of_pure hfill
  have L4 : PySem.W.Looks (model prog w) hh (fillsNumberSlot (.ref C) nm') true := PySem.W.fills_K X hcd hm hs
  have L5 : PySem.W.Looks (model prog w) hh (isSubtype (.ref C) (.type "int")) false := PySem.W.looks_subIn X hsub
  have L7 : PySem.W.Looks (model prog w) hh (numberSlotInPython (.type "int") nm') false := PySem.W.Looks.of_pure rfl
  have hne : (Value.type "int" == Value.ref C) = false := Bool.eq_false_iff.mpr fun q => by cases beq_iff_eq.mp q
  simp only [binaryOp, hi]
  refine wpAny_holding (wpAny_bind ?_)
  unfold binaryOp1
  refine wpAny_bind (L1.at (wpAny_bind (L2.at (wpAny_bind (L3.at ?_)))))
  simp only [hne, Bool.false_eq_true, if_false]
  ksp_lk
  refine wpAny_mono two (fun r s' z => ?_) fun _ _ e => e
  obtain ⟨z1, z2⟩ := z
  subst z1; subst z2
  ksp_lk
  refine wpAny_mono one (fun r s' hr' => ?_) fun _ _ e => e
  obtain ⟨v, rfl, hq⟩ := hr'
  ksp_lk
  exact hq
end
end RefK
namespace TL
open PySem L2 PyProof.Rows PySem.Calls
open PySem.W (Frag)
/-- the operator's methods of an own class, on both sides -/
structure OpF (K : Frag) (C : Addr) (op : Operator) : Prop where
  fst : PySem.W.selfFirst K C = true
  lo : ∃ f0 : Addr, PySem.W.findIn K (.ref C) (PySem.dunder op.info.2) = some (some (.ref f0))
  ro : ∃ g : Addr, PySem.W.findIn K (.ref C) (dunderR op.info.2) = some (some (.ref g))
/-- what of int is asked -/
structure OpI (op : Operator) : Prop where
  l : ∃ fo, fastLookup "int" (PySem.dunder op.info.2) = some fo
  r : ∃ ro, fastLookup "int" (dunderR op.info.2) = some ro
  fill : fillsNumberSlot (.type "int") op.info.2 = pure true
  dec : ∃ (idl : String), Slot "int" (PySem.dunder op.info.2) idl ∧ ∀ {prog : Program} {w : World} {n : Int} {t : Tok} {x C dx : Addr} {s : Shared} {A' : Around} {E' : Value → Shared → Prop} {Q' : Value → Shared → Prop},
    s.heap.get? x = some (PySem.W.instObj C dx) → Q' .notImplemented s → wpAny (model prog w) A' (call (.builtin idl) [.int n t, .ref x]) Q' E' s
theorem opI_mul : OpI .Mult := ⟨Option.isSome_iff_exists.mp (by decide +kernel), Option.isSome_iff_exists.mp (by decide +kernel), F.fills_int_mul, "int.__mul__", F.slot_int_mul, fun ho q =>
  wpAny_call_entry F.slot_int_mul rfl F.entry_int_mul (RefK.bin_declines ho ⟨_, rfl, q⟩) (F.args_int_mul_2 _ _)⟩
theorem opI_add : OpI .Add := ⟨Option.isSome_iff_exists.mp (by decide +kernel), Option.isSome_iff_exists.mp (by decide +kernel), F.fills_int_add, "int.__add__", F.slot_int_add, fun ho q =>
  wpAny_call_entry F.slot_int_add rfl F.entry_int_add (RefK.bin_declines ho ⟨_, rfl, q⟩) (F.args_int_add_2 _ _)⟩
theorem opI_sub : OpI .Sub := ⟨Option.isSome_iff_exists.mp (by decide +kernel), Option.isSome_iff_exists.mp (by decide +kernel), F.fills_int_sub, "int.__sub__", F.slot_int_sub, fun ho q =>
  wpAny_call_entry F.slot_int_sub rfl F.entry_int_sub (RefK.bin_declines ho ⟨_, rfl, q⟩) (F.args_int_sub_2 _ _)⟩
section
variable {X : Cx} {k : Nat} {C : Addr} {m f : Str} {ps : List Str} {sp : Sp} {pins : List (Addr × Obj)} {σ : L2.St} {H : Hp} {s : Shared}
/-- o op y, y an instance of the same class or an int -/
def rBinO (C : Addr) (sp : Sp) : R2 := fun x y H Q => InsV C x H ∧ (InsV C y H ∨ ∃ i : Int, y = .int i) ∧ sp [x, y] H Q E0
theorem op_binO {op : Operator} (hm : PySem.dunder op.info.2 = m) (of : OpF X.K C op) (oi : OpI op) (c : MethBy X.prog X.w X.K X.mg X.base CX0 k C m ps sp) (hr : Room k X.A) : OpR X (binaryOp op) (rBinO C sp) := by
  intro pins s σ H x y v u Q I rx ry ⟨⟨a, dx, fs, hx, ha⟩, hy, q⟩
  rcases hy with hy | ⟨i, hy⟩
  · exact op_binOwn hm of.fst c hr pins s σ H x y v u Q I rx ry ⟨⟨a, dx, fs, hx, ha⟩, hy, q⟩
  subst hx; subst hy
  cases (show v = Value.ref a from rx)
  obtain ⟨t, ht⟩ := (show ∃ t, u = Value.int i t from ry)
  subst ht
  obtain ⟨ox, od, J⟩ := ins_look I ha
  obtain ⟨mm, hF⟩ := I.fr
  obtain ⟨f, h1, h2, h3⟩ := run_own c hr I
  obtain ⟨g, hg⟩ := of.ro
  obtain ⟨fo, hfo⟩ := oi.l
  obtain ⟨ro, hro⟩ := oi.r
  exact PySem.W.ksp_binT (T := "int") hF I.ok.mod.kin J rfl of.fst (by rw [hm]; exact h1) h2 hg (.inr ⟨g, rfl⟩) hfo hro (sub_bi (.inr (.inl rfl))) (wpAny_mono (h3 [.ref a, .int i] [.ref a, .int i t] _ (.cons rfl (.cons ⟨t, rfl⟩ .nil)) q) (fun r s' z => back_of z) fun _ _ e => e)
/-- i op o, an int on the left -/
def rBinR (C : Addr) (sp : Sp) : R2 := fun x y H Q => (∃ i : Int, x = .int i) ∧ InsV C y H ∧ sp [y, x] H Q E0
theorem op_binR {op : Operator} {mg : Str → Option Value} {nm : Str} (hm : dunderR op.info.2 = m) (of : OpF X.K C op) (ic : IsC X.K mg C nm) (oi : OpI op) (c : MethBy X.prog X.w X.K X.mg X.base CX0 k C m ps sp) (hr : Room k X.A) : OpR X (binaryOp op) (rBinR C sp) := by
  intro pins s σ H x y v u Q I rx ry ⟨⟨i, hx⟩, ⟨a, dx, fs, hy, ha⟩, q⟩
  subst hx; subst hy
  cases (show u = Value.ref a from ry)
  obtain ⟨t, ht⟩ := (show ∃ t, v = Value.int i t from rx)
  subst ht
  obtain ⟨ox, od, J⟩ := ins_look I ha
  obtain ⟨mm, hF⟩ := I.fr
  obtain ⟨f, h1, h2, h3⟩ := run_own c hr I
  obtain ⟨f0, hf0⟩ := of.lo
  obtain ⟨idl, hsl, hd⟩ := oi.dec
  have ho : s.heap.get? a = some (PySem.W.instObj C dx) := by
    obtain ⟨_, _, _, ob, _⟩ := (show ObjOk X.prog X.w H s.heap a (.ins C dx fs) from I.hok a _ ha)
    exact ob
  exact RefK.binR_K hF I.ok.mod.kin J ho of.fst hf0 (by rw [hm]; exact h1) h2 oi.fill ic.si hsl (fun q' => hd ho q') (wpAny_mono (h3 [.ref a, .int i] [.ref a, .int i t] _ (.cons rfl (.cons ⟨t, rfl⟩ .nil)) q) (fun r s' z => back_of z) fun _ _ e => e)
end
section
variable {K : Frag} {w : Wd} {n : Option Nat} {Γ : Env} {α β γ δ ρ A : Type} {t : Ty α} {u : Ty β} {ta tb te : TE} {ts ts' : TS} {res : ρ → Ent} {nx bk ct : NK} {rt : ρ → Option Nat → Prop}
/-- an int or an instance -/
def tArg (C : Addr) (flds : α → Flds) : Ty (Int ⊕ α) := ⟨fun B v x => match x with
    | .inl i => v = .int i
    | .inr y => (tObj C flds).rep B v y, fun {B B' v x} e h => by
  cases x with
  | inl i => exact h
  | inr y => exact (tObj C flds).mono e h⟩
theorem arg_is {C : Addr} {flds : α → Flds} {B H : Hp} {v : V} {x : Int ⊕ α} (h : (tArg C flds).rep B v x) (e : Ex B H) : InsV C v H ∨ ∃ i : Int, v = .int i := by
  cases x with
  | inl i => exact .inr ⟨i, h⟩
  | inr y => exact .inl (insV_obj h e)
theorem we_argI {C : Addr} {flds : α → Flds} {k : (Int ⊕ α) → NK} (h : WpE K w n Γ te tI (fun x n Γ => k (.inl x) n Γ)) : WpE K w n Γ te (tArg C flds) k := fun σ B H ok Q c => h σ B H ok Q fun x v n' Γ' B' H' q e o r => c (.inl x) v n' Γ' B' H' q e o r
theorem we_argO {C : Addr} {flds : α → Flds} {k : (Int ⊕ α) → NK} (h : WpE K w n Γ te (tObj C flds) (fun x n Γ => k (.inr x) n Γ)) : WpE K w n Γ te (tArg C flds) k := fun σ B H ok Q c => h σ B H ok Q fun x v n' Γ' B' H' q e o r => c (.inr x) v n' Γ' B' H' q e o r
theorem we_binO {S : FS K} {sp : Sp} (sub : ∀ vs H Q X, S.sp vs H Q X → sp vs H Q X) {C : Addr} {flds : α → Flds} {s : Ty S.ρ} (hres : S.res = fun x => .im s x) (hc : S.cost = 0) (up : α → (Int ⊕ α) → S.A) (hup : ∀ {d B v1 v2 a b}, (tObj C flds).rep B v1 a → (tArg C flds).rep B v2 b → S.args.rep d B [v1, v2] (up a b)) {k : S.ρ → NK}
    (h : WpE K w n Γ ta (tObj C flds) (fun a n Γ => WpE K w n Γ tb (tArg C flds) (fun b n Γ => S.pre (up a b) ∧ ∀ x, S.post (up a b) x → k x n Γ))) : WpE K w n Γ (tOp (rBinO C sp) ta tb) s k := fun σ B H ok Q c =>
  h σ B H ok _ fun a v1 n1 Γ1 B1 H1 q1 e1 o1 r1 => q1 σ B1 H1 o1 _ fun b v2 n2 Γ2 B2 H2 ⟨hp, q⟩ e2 o2 r2 =>
    ⟨insV_obj ((tObj C flds).mono e2 r1) o2.ex, arg_is r2 o2.ex, sub _ _ _ _ (own_val (k := k) hres hc o2 (hup ((tObj C flds).mono e2 r1) r2) hp q fun x v B' H' hk e' o' r' => c x v n2 Γ2 B' H' hk ((e1.trans e2).trans e') o' r')⟩
theorem we_binR {S : FS K} {sp : Sp} (sub : ∀ vs H Q X, S.sp vs H Q X → sp vs H Q X) {C : Addr} {flds : α → Flds} {s : Ty S.ρ} (hres : S.res = fun x => .im s x) (hc : S.cost = 0) (up : Int → α → S.A) (hup : ∀ {d B v1 v2 a b}, tI.rep B v1 a → (tObj C flds).rep B v2 b → S.args.rep d B [v2, v1] (up a b)) {k : S.ρ → NK}
    (h : WpE K w n Γ ta tI (fun a n Γ => WpE K w n Γ tb (tObj C flds) (fun b n Γ => S.pre (up a b) ∧ ∀ x, S.post (up a b) x → k x n Γ))) : WpE K w n Γ (tOp (rBinR C sp) ta tb) s k := fun σ B H ok Q c =>
  h σ B H ok _ fun a v1 n1 Γ1 B1 H1 q1 e1 o1 r1 => q1 σ B1 H1 o1 _ fun b v2 n2 Γ2 B2 H2 ⟨hp, q⟩ e2 o2 r2 =>
    ⟨⟨a, r1⟩, insV_obj r2 o2.ex, sub _ _ _ _ (own_val (k := k) hres hc o2 (hup r1 r2) hp q fun x v B' H' hk e' o' r' => c x v n2 Γ2 B' H' hk ((e1.trans e2).trans e') o' r')⟩
theorem we_negO {S : FS K} {sp : Sp} (sub : ∀ vs H Q X, S.sp vs H Q X → sp vs H Q X) {C : Addr} {flds : α → Flds} {s : Ty S.ρ} (hres : S.res = fun x => .im s x) (hc : S.cost = 0) (up : α → S.A) (hup : ∀ {d B v1 a}, (tObj C flds).rep B v1 a → S.args.rep d B [v1] (up a)) {k : S.ρ → NK}
    (h : WpE K w n Γ ta (tObj C flds) (fun a n Γ => S.pre (up a) ∧ ∀ x, S.post (up a) x → k x n Γ)) : WpE K w n Γ (tUn (rNegOwn C sp) ta) s k := fun σ B H ok Q c =>
  h σ B H ok _ fun a v1 n1 Γ1 B1 H1 ⟨hp, q⟩ e1 o1 r1 =>
    ⟨insV_obj r1 o1.ex, sub _ _ _ _ (own_val (k := k) hres hc o1 (hup r1) hp q fun x v B' H' hk e' o' r' => c x v n1 Γ1 B' H' hk (e1.trans e') o' r')⟩
/-- isinstance(x, int), x an int or an instance -/
theorem we_isIntA {mg : Str → Option Value} {nm : Str} {C : Addr} {flds : α → Flds} (ic : IsC K mg C nm) {k : Bool → NK} (h : WpE K w n Γ ta (tArg C flds) (fun x n Γ => k x.isLeft n Γ)) : WpE K w n Γ (tCB (rIsi K) (tCons ta (tCons (tC (.ty "int")) tNil))) tBo k := fun σ B H ok Q c =>
  h σ B H ok _ fun x v n1 Γ1 B1 H1 q e o r => by
    cases x with
    | inl i => exact ⟨v, .ty "int", .type "int", .type "int", true, rfl, .ty _, tyI r o.ex, kit_ty rfl, c _ _ n1 Γ1 B1 H1 q e o rfl⟩
    | inr y =>
      obtain ⟨a, dx, fs, rfl, hs⟩ := insV_obj r o.ex
      refine ⟨_, .ty "int", .ref C, .type "int", false, rfl, .ty _, .base (.ins hs ic.cl ic.ha ic.hn ic.htk ic.hm), ?_, c _ _ n1 Γ1 B1 H1 q e o rfl⟩
      unfold PySem.W.kitOne PySem.W.kitCls
      rw [if_neg (by intro z; cases beq_iff_eq.mp z)]
      show (if _ then _ else _) = _
      rw [if_pos (by decide +kernel)]
      exact ic.si
/-- isinstance(x, C), x an instance -/
theorem we_isOwnT {mg : Str → Option Value} {nm : Str} {C : Addr} {flds : α → Flds} (ic : IsC K mg C nm) {k : Bool → NK} (h : WpE K w n Γ ta (tObj C flds) (fun x n Γ => k true n Γ)) : WpE K w n Γ (tCB (rIsi K) (tCons ta (tCons (tC (.ref C)) tNil))) tBo k :=
  we_isOwn ic (we_othO h)
theorem View.isL {C : Addr} {flds : α → Flds} {i : Nat} {x : Int} (h : Γ[i]? = Option.some (.im (tArg C flds) (.inl x))) : View K w n Γ n (Γ.set i (.im tI x)) := fun σ B H ok => by
  obtain ⟨v, h1, h2⟩ := ok.sl i _ h
  have o2 := ok.setIm (i := i) (t := tI) (x := x) (v := v) h2
  rw [slot_same h1] at o2
  exact ⟨B, Ex.refl _, o2⟩
theorem View.isR {C : Addr} {flds : α → Flds} {i : Nat} {x : α} (h : Γ[i]? = Option.some (.im (tArg C flds) (.inr x))) : View K w n Γ n (Γ.set i (.im (tObj C flds) x)) := fun σ B H ok => by
  obtain ⟨v, h1, h2⟩ := ok.sl i _ h
  have o2 := ok.setIm (i := i) (t := tObj C flds) (x := x) (v := v) h2
  rw [slot_same h1] at o2
  exact ⟨B, Ex.refl _, o2⟩
/-! own dicts lent -/
theorem lent_d {kvs : List (Int × α)} : Lent PDict (rD t kvs) (tD t) kvs :=
  ⟨(fun xs ⟨_, h⟩ => by cases h), fun ⟨kv, h, _⟩ => ⟨kv, h⟩, fun {l B o} ⟨kv, h, p⟩ hb => ⟨l, kv, rfl, by subst h; exact upd_same, pw_mono (fun _ _ ⟨h1, h2⟩ => ⟨h1, t.mono (Ex.new hb) h2⟩) p⟩⟩
/-- d[i], d locked -/
theorem we_dgetDF {td ty : TE} {k : α → NK} (h : WpE K w n Γ td (tDF t) (fun kvs n Γ => WpE K w n Γ ty tI (fun j n Γ => ∃ x, dGet kvs j = some x ∧ k x n Γ))) : WpE K w n Γ (tDGet td ty) t k := fun σ B H ok Q c =>
  h σ B H ok _ fun kvs v n1 Γ1 B1 H1 q1 e1 o1 ⟨a, od, kv, hv, hs, p⟩ => q1 σ B1 H1 o1 _ fun j jv n2 Γ2 B2 H2 ⟨x, hx, q2⟩ e2 o2 r2 => by
    subst hv
    have p2 : Paired (fun (p : Key × V) (q : Int × α) => p.1 = .inl q.1 ∧ t.rep B2 p.2 q.2) kv kvs := pw_mono (fun _ _ ⟨g1, g2⟩ => ⟨g1, t.mono e2 g2⟩) p
    rcases valV_pair (i := j) p2 with ⟨_, z⟩ | ⟨y, x', z1, z2, z3⟩
    · rw [z] at hx; cases hx
    · rw [z2] at hx; cases hx
      exact ⟨a, y, rfl, .inl ⟨kv, .inl j, .inr ⟨od, o2.ex _ _ (e2 _ _ hs)⟩, r2, z1.symm⟩, c x y n2 Γ2 B2 H2 q2 (e1.trans e2) o2 z3⟩
/-! a frozen dict, locked -/
theorem only_get : ∀ {Γ : Env} {i j : Nat} {e e0 : Ent}, ((Γ.map fun _ => Ent.no).set i e0)[j]? = some e → (j = i ∧ e = e0 ∧ i < Γ.length) ∨ e = .no := fun {Γ i j e e0} h => by
  rw [List.getElem?_set] at h
  by_cases z : i = j
  · subst z
    rw [if_pos rfl] at h
    split at h
    · rename_i hl; cases h; exact .inl ⟨rfl, rfl, by simpa using hl⟩
    · cases h
  · rw [if_neg z, List.getElem?_map] at h
    cases hg : Γ[j]? with
    | none => rw [hg] at h; cases h
    | some a => rw [hg] at h; cases h; exact .inr rfl
theorem wm_lockD {kvs : List (Int × α)} {k : Rs → NK} (i : Nat) (hi : Γ[i]? = some (.im (tD t) kvs)) (ht : Blind PDict t) (u : Ty β) (hb : Blind PFrz u) (h : ∀ w' : Wd, SetE ((Γ.map fun _ => Ent.no).set i (.im (tDF t) kvs)) fun Γ' => WpM K w' n Γ' te (fun x n' _ => ∃ ys, x = rL u ys ∧ k (rL u ys) n' Γ)) : WpM K w n Γ (tLockE te) k := fun σ B H ok Q c => by
  obtain ⟨v0, h1, l, kv, hv, hs, p⟩ := ok.sl i _ hi
  subst hv
  refine ⟨l, .dK kv, ok.ex _ _ hs, trivial, fun od => ?_⟩
  have mB : ∀ a o, B a = some o → (upd B l (.frz od (.dK kv))) a = some o ∨ PDict o := fun a o e => by
    by_cases z : a = l
    · subst z; rw [hs] at e; cases e; exact .inr ⟨kv, rfl⟩
    · rw [upd_ne z]; exact .inl e
  have rp : (tDF t).rep (upd B l (.frz od (.dK kv))) (.ref l) kvs := ⟨l, od, kv, rfl, upd_same, pw_mono (fun _ _ ⟨q1, q2⟩ => ⟨q1, ht _ _ _ _ mB q2⟩) p⟩
  have hsm : ∀ {a : Addr}, (H a).isSome = true → ((upd H l (.frz od (.dK kv))) a).isSome = true := fun {a} e => by
    by_cases z : a = l
    · subst z; rw [upd_same]; rfl
    · rw [upd_ne z]; exact e
  have ok2 : Ok K ⟨w.d, w.ca, w.cs, upd B l (.frz od (.dK kv)), upd H l (.frz od (.dK kv))⟩ n ((Γ.map fun _ => Ent.no).set i (.im (tDF t) kvs)) σ (upd B l (.frz od (.dK kv))) (upd H l (.frz od (.dK kv))) := by
    refine ⟨fun a q e => ?_, Ex.refl _, fun a q e => .inl e, fun a q e _ => e, hsm ok.hh, hsm ok.hh, fun m q => ?_, by simp; exact ok.ln, fun j e q => ?_, fun a b e e' x _ q _ oi => ?_⟩
    · by_cases z : a = l
      · subst z; rw [upd_same] at e ⊢; exact e
      · rw [upd_ne z] at e ⊢; exact ok.ex a q e
    · obtain ⟨fr, a, b, p1, p2, p3⟩ := ok.pn m q
      have nd : w.d ≠ l := fun z => by rw [z, hs] at fr; cases fr
      have nc : w.ca ≠ l := fun z => by rw [z, hs] at p2; cases p2
      exact ⟨by show (upd B l _) w.d = none; rw [upd_ne nd]; exact fr, a, b, by show (upd H l _) w.d = _; rw [upd_ne nd]; exact p1, by show (upd B l _) w.ca = _; rw [upd_ne nc]; exact p2, p3⟩
    · rcases only_get q with ⟨rfl, rfl, _⟩ | rfl
      · exact ⟨.ref l, h1, rp⟩
      · trivial
    · rcases only_get q with ⟨rfl, rfl, _⟩ | rfl
      · exact oi.elim
      · exact oi.elim
  refine h _ σ _ _ ok2 _ fun x v n' Γ' B' H' ⟨ys, hx, q⟩ _ o2 ow => ?_
  subst hx
  have c2 := o2.nil
  have hB : B' l = some (.frz od (.dK kv)) := c2.ex0 l _ upd_same
  obtain ⟨⟨ob, k1, vs, rfl, pv⟩, k2, k3, k4⟩ := ow
  have k3 : (upd H l (.frz od (.dK kv))) v = none := k3
  have vl : v ≠ l := fun z => by rw [z, upd_same] at k3; cases k3
  rw [upd_ne vl] at k3
  have eb : Ex B (upd B' l (.dK kv)) := fun a q e => by
    by_cases z : a = l
    · subst z; rw [upd_same]; rw [hs] at e; exact e
    · rw [upd_ne z]; exact c2.ex0 a q (by show (upd B l _) a = some q; rw [upd_ne z]; exact e)
  have kpH : ∀ a q, a ≠ w.d → H a = some q → (upd H' l (.dK kv)) a = some q := fun a q na e => by
    by_cases z : a = l
    · subst z; rw [upd_same]; rw [ok.ex _ _ hs] at e; exact e
    · rw [upd_ne z]; exact c2.kp a q (by show (upd H l _) a = some q; rw [upd_ne z]; exact e) na
  have h0n : ∀ a, H a = none → w.H0 a = none := fun a y => by
    cases hq : w.H0 a with
    | none => rfl
    | some u =>
      by_cases na : a = w.d
      · subst na; exact (noS y ok.hh).elim
      · rw [ok.kp a u hq na] at y; cases y
  have mv : ∀ a q, B' a = some q → (upd B' l (.dK kv)) a = some q ∨ PFrz q := fun a q e => by
    by_cases z : a = l
    · subst z; rw [hB] at e; cases e; exact .inr ⟨od, _, rfl⟩
    · rw [upd_ne z]; exact .inl e
  have o3 : Ok K w n' Γ σ (upd B' l (.dK kv)) (upd H' l (.dK kv)) := by
    refine ⟨fun a q e => ?_, ok.ex0.trans eb, fun a q e => ?_, fun a q e na => kpH a q na (ok.kp a q e na), ok.hd, ?_, fun m q => ?_, ok.ln, fun j en q => ?_, ok.ds⟩
    · by_cases z : a = l
      · subst z; rw [upd_same] at e ⊢; exact e
      · rw [upd_ne z] at e ⊢; exact c2.ex a q e
    · by_cases z : a = l
      · subst z; rw [upd_same] at e; exact ok.nw _ _ (e ▸ hs)
      · rw [upd_ne z] at e
        rcases c2.nw a q e with y | y
        · have y : (upd B l _) a = some q := y
          rw [upd_ne z] at y; exact ok.nw a q y
        · have y : (upd H l _) a = none := y
          rw [upd_ne z] at y; exact .inr (h0n a y)
    · by_cases z : w.d = l
      · rw [z, upd_same]; rfl
      · rw [upd_ne z]; exact c2.hh
    · obtain ⟨fr, a, b, p1, p2, p3⟩ := c2.pn m q
      have fr : B' w.d = none := fr
      have p2 : B' w.ca = _ := p2
      have nd : w.d ≠ l := fun z => by rw [z, hB] at fr; cases fr
      have nc : w.ca ≠ l := fun z => by rw [z, hB] at p2; cases p2
      exact ⟨by rw [upd_ne nd]; exact fr, a, b, by rw [upd_ne nd]; exact p1, by rw [upd_ne nc]; exact p2, p3⟩
    · have s := ok.sl j en q
      refine s.keep eb rfl fun a ha => ?_
      obtain ⟨ob, g1, g2, g3⟩ := s.owned ha
      have na : a ≠ w.d := fun z => noS g3 (z ▸ ok.hd)
      have al : a ≠ l := fun z => by rw [z, hs] at g2; cases g2
      refine ⟨by rw [g1]; exact kpH a ob na g1, ?_, g3⟩
      rw [upd_ne al]
      cases hq : B' a with
      | none => rfl
      | some u =>
        rcases c2.nw a u hq with y | y
        · have y : (upd B l _) a = some u := y
          rw [upd_ne al, g2] at y; cases y
        · have y : (upd H l _) a = none := y
          rw [upd_ne al, g1] at y; cases y
  refine ⟨c2.ex _ _ hB, c _ v n' Γ _ _ q eb o3 ⟨⟨_, by rw [upd_ne vl]; exact k1, vs, rfl, pw_mono (fun _ _ => hb _ _ _ _ mv) pv⟩, by rw [upd_ne vl]; exact k2, h0n v k3, fun j en hj z => ?_⟩⟩
  obtain ⟨_, g1, _⟩ := (ok.sl j _ hj).owned z
  rw [k3] at g1; cases g1
end
end TL
namespace TL
open PySem L2 PyProof.Rows PySem.Calls
open PySem.W (Frag)
section
variable {K : Frag} {w : Wd} {n : Option Nat} {Γ : Env} {α β γ δ ρ A : Type} {t : Ty α} {u : Ty β} {ta tb tc te : TE} {ts ts' : TS} {res : ρ → Ent} {nx bk ct : NK} {rt : ρ → Option Nat → Prop}
/-- a, b, c = (datum), (own thing), (own thing) -/
theorem ws_par3EMM {i j l : Nat} (hij : i ≠ j) (h : WpE K w n Γ ta t (fun x n0 Γ0 => WpM K w n0 Γ0 tb (fun r1 n1 Γ1 => Γ1 = Γ0 ∧ ∀ w' : Wd, SetE (hideE Γ0 []) fun Γh => WpM K w' n1 Γh tc (fun r2 n2 _ => SetE (((Γ0.set i (.im t x)).set j (.mu r1)).set l (.mu r2)) (nx n2))))) :
    WpS K w n Γ (tPar3 i j l (tCons ta (tCons tb (tCons tc tNil)))) res nx bk ct rt := fun σ B H ok D a b c d =>
  h σ B H ok _ fun x v n0 Γ0 B0 H0 q0 e0 o0 rx => q0 σ B0 H0 o0 _ fun r1 l1 n1 Γ1 B1 H1 ⟨hg1, q1⟩ e1 o1 ow1 => by
    subst hg1
    refine q1 ⟨w.d, w.ca, w.cs, B1, H1⟩ σ B1 H1 (o1.inner []) _ fun r2 l2 n2 Γ2 B2 H2 q2 e2 o2 ow2 => ?_
    have ok2 := o1.back o2.nil
    have ow1b := ow1.back o1 o2.nil
    have ow2c := ow2.out o1
    have h2n : H1 l2 = none := ow2.h0
    have i1 : ∃ ob, H1 l1 = some ob := ⟨_, ow1.ob.choose_spec.1⟩
    have ne : l2 ≠ l1 := fun z => by
      obtain ⟨ob, q⟩ := i1
      rw [← z, h2n] at q; cases q
    refine ⟨v, .ref l1, .ref l2, rfl, a _ _ _ B2 H2 q2 ((e0.trans e1).trans e2) ?_⟩
    have a1 := ok2.setIm (i := i) (t := t) (x := x) (v := v) (t.mono (e1.trans e2) rx)
    have a2 := a1.setMu (i := j) (l := l1) (r := r1) ⟨ow1b.ob, ow1b.b, ow1b.h0, fun i' e' hi z => by
      rcases get_set hi with ⟨rfl, rfl, il⟩ | ⟨nm, hm⟩
      · exact z.elim
      · rw [List.getElem?_set, if_neg nm] at z
        exact ow1b.df i' e' hm z⟩
    refine a2.setMu (i := l) ⟨ow2c.ob, ow2c.b, ow2c.h0, fun i' e' hi z => ?_⟩
    rcases get_set hi with ⟨rfl, rfl, il⟩ | ⟨nm, hm⟩
    · have il2 : j < Γ1.length := by rw [List.length_set] at il; exact il
      have z' : ((σ.set i (some v)).set j (some (V.ref l1)))[j]? = some (some (V.ref l2)) := z
      rw [List.getElem?_set, if_pos rfl, if_pos (by rw [List.length_set, ← ok2.ln]; exact il2)] at z'
      cases z'
      exact ne rfl
    · rw [List.getElem?_set, if_neg nm] at z
      rcases get_set hm with ⟨rfl, rfl, il⟩ | ⟨nm2, hm⟩
      · exact z.elim
      · rw [List.getElem?_set, if_neg nm2] at z
        exact ow2c.df i' e' hm z
end
end TL

/-! # TL: an int or an instance: operators of either kind; instances called; abs, f-strings of own objects -/
namespace TL
open PySem L2 PyProof.Rows PySem.Calls
open PySem.W (Frag)
/-- an instance called, by its promise -/
structure CallBy (P : Program) (w : World) (K : Frag) (mg : Str → Option Value) (base : Heap) (CX : CXT) (k : Nat) (C : Addr) (ps : List Str) (sp : Sp) : Prop where
  cl : Cls K C
  ex : ∃ f fd, StX.CallO K C f ∧ FnOk P w K mg base CX k f fd ps sp ∧ Binds K fd ps []
section
variable {X : Cx} {k : Nat} {C : Addr} {m f : Str} {ps : List Str} {sp : Sp} {pins : List (Addr × Obj)} {σ : L2.St} {H : Hp} {s : Shared} {a b e fe : Expr} {es : List Expr} {ta tb tf : TE} {t : TA} {pos : Pos}
theorem op_or {F : Value → Value → Sem Value} {r1 r2 : R2} (h1 : OpR X F r1) (h2 : OpR X F r2) : OpR X F (fun x y H Q => r1 x y H Q ∨ r2 x y H Q) := fun pins s σ H x y v u Q I rx ry h => h.elim (h1 pins s σ H x y v u Q I rx ry) (h2 pins s σ H x y v u Q I rx ry)
theorem un_or {F : Value → Sem Value} {r1 r2 : V → Hp → VK → Prop} (h1 : UnR X F r1) (h2 : UnR X F r2) : UnR X F (fun x H Q => r1 x H Q ∨ r2 x H Q) := fun pins s σ H x v Q I rx h => h.elim (h1 pins s σ H x v Q I rx) (h2 pins s σ H x v Q I rx)
theorem call_or {F : Value} {r1 r2 : List V → Hp → VK → Prop} (h1 : CallR X F r1) (h2 : CallR X F r2) : CallR X F (fun xs H Q => r1 xs H Q ∨ r2 xs H Q) := fun pins s σ H xs us Q I rx h => h.elim (h1 pins s σ H xs us Q I rx) (h2 pins s σ H xs us Q I rx)
def rAbsOwn (C : Addr) (sp : Sp) : List V → Hp → VK → Prop := fun xs H Q => ∃ x, xs = [x] ∧ InsV C x H ∧ sp [x] H Q E0
theorem call_absOwn (c : MethBy X.prog X.w X.K X.mg X.base CX0 k C "__abs__" ps sp) (hr : Room (k + 1) X.A) : CallR X (.builtin "abs") (rAbsOwn C sp) := by
  intro pins s σ H xs us Q I rx h
  obtain ⟨x, hx, ⟨a, dx, fs, hxa, ha⟩, q⟩ := h
  subst hx; subst hxa
  obtain rfl : us = [Value.ref a] := by
    cases rx with
    | cons r1 r2 =>
      cases r2
      cases (show _ = Value.ref a from r1)
      rfl
  obtain ⟨ox, od, J⟩ := ins_look I ha
  obtain ⟨f, h1, h2, h3⟩ := run_ownA (A := X.A.in1) c hr.in1 rfl I
  refine call_function_entry kind_abs plain_abs entry_abs (args_abs _) ?_
  unfold Builtin.«abs»
  refine wpAny_bind (m := oneArg "abs" _) (wpAny_pure ?_)
  refine wpAny_bind (m := callSpecial? (.ref a) (Str.ofString "__abs__")) (PySem.W.special_fn I.kIn J h1 (beq_iff_eq.mp h2) (wpAny_mono (h3 [.ref a] [.ref a] _ (.cons rfl .nil) q) (fun r s' z => ?_) fun _ _ e => e))
  exact wpAny_pure ⟨_, rfl, z⟩
/-- {x}: a text, an int, or an own object with __str__ -/
def tFmtO (C : Addr) (sp : Sp) (te : TE) : TE := fun σ H Q => te σ H fun x H1 => ((∃ y : Str, x = .str y ∧ y.length ≤ sizeLine ∧ Q (.str y) H1) ∨ ∃ i : Int, x = .int i ∧ i.natAbs.log2 < 1920 ∧ Q (.str (toString i)) H1) ∨
  (InsV C x H1 ∧ sp [x] H1 (fun v H' => ∃ z, v = .str z ∧ Q (.str z) H') E0)
theorem pe_fmtO {mg : Str → Option Value} {nm : Str} (ic : IsC X.K mg C nm) (c : MethBy X.prog X.w X.K X.mg X.base CX0 k C "__str__" ps sp) (hr : Room (k + 1) X.A) (he : PE X e ta) :
    PE X (.FormattedValue e (-1) none pos) (tFmtO C sp ta) := by
  refine ⟨fun pins s σ H Q I h => ?_⟩
  refine wpAny_FormattedValue_plain (thn (he.run pins s σ H _ I h) fun v s1 hv => ?_)
  obtain ⟨x, H1, I1, r1, q⟩ := hv
  rcases q with (⟨y, rfl, hz, q⟩ | ⟨i, rfl, hz, q⟩) | ⟨⟨a, dx, fs, hx, ha⟩, q⟩
  · obtain ⟨t, rfl⟩ := r1
    exact wpAny_formatField_str ⟨.str y, H1, I1, ⟨t, rfl⟩, q⟩ ⟨.str y, H1, I1.tok _, ⟨_, rfl⟩, q⟩ hz
  · obtain ⟨t, rfl⟩ := r1
    exact wpAny_formatField_int hz ⟨.str (toString i), H1, I1.tok _, ⟨_, rfl⟩, q⟩
  · subst hx
    cases (show v = Value.ref a from r1)
    have I2 := I1.tok (s1.toks + 1)
    obtain ⟨ox, od, J⟩ := ins_look I1 ha
    obtain ⟨f, h1, h2, h3⟩ := run_ownA (A := X.A.in1) c hr.in1 rfl I2
    refine PySem.W.kfo_fieldS hr.in1.units0 I1.kIn J ic.fm ic.hm h1 h2 (wpAny_mono (h3 [.ref a] [.ref a] _ (.cons rfl .nil) q) (fun r s' z => ?_) fun _ _ e => e)
    obtain ⟨v, H', I', rv, z, rfl, q'⟩ := z
    obtain ⟨t, rfl⟩ := (show ∃ t, r = Value.str z t from rv)
    exact ⟨.str z, H', I', ⟨t, rfl⟩, q'⟩
/-- o(..) -/
def tCallW (C : Addr) (sp : Sp) (tf : TE) (t : TA) : TE := fun σ H Q => tf σ H fun y H1 => InsV C y H1 ∧ t σ H1 fun vs H2 => InsV C y H2 ∧ sp (y :: vs) H2 Q E0
theorem pe_callW (hf : PE X fe tf) (c : CallBy X.prog X.w X.K X.mg X.base CX0 k C ps sp) (hr : Room k X.A) (ha : PA X (e :: es) t)
    (ht : eval (.Call fe (e :: es) [] pos) X.env = (do callWith pos (← eval fe X.env) [] (backTo pos (starEach (e :: es) X.env)) (backToKw pos (keywordEach [] X.env))) := by rfl)
    (he : starEach (e :: es) X.env = (false, eval e X.env) :: starEach es X.env := by rfl) (hpl : (backTo pos (starEach es X.env)).any (·.1) = false := by rfl) : PE X (.Call fe (e :: es) [] pos) (tCallW C sp tf t) := by
  refine ⟨fun pins s σ H Q I h => ?_⟩
  obtain ⟨g, fd, c1, c2, c3⟩ := c.ex
  refine Call_ (thn (hf.run pins s σ H _ I h) fun u s1 ⟨y, H1, I1, ry, ⟨a, dx, fs, ey, _⟩, q⟩ => ?_) ht
  subst ey
  obtain rfl : u = Value.ref a := ry
  refine StX.callO_with (thn (ha.run pos pins s1 σ H1 _ I1 q) fun us s2 ⟨vs, H2, I2, r, ⟨a', dx', fs', ea, hi⟩, q2⟩ => ?_) he hpl
  cases ea
  have hi2 : StX.InsC X H2 a C := .inr ⟨_, _, hi⟩
  obtain ⟨ox, od, J, hd⟩ := StX.insC_at I2 hi2
  exact ⟨⟨C, ox, od, J, hd⟩, StX.run_callO c1 (c2.raw c3 .nil) hr pass0 I2 hi2 r (by rw [List.append_nil]; exact q2)⟩
theorem call_isiTK (K : Frag) (hK : X.K = K) : CallR X (.builtin "isinstance") (rIsiT K) := hK ▸ call_isiT
end
section
variable {K : Frag} {w : Wd} {n : Option Nat} {Γ : Env} {α β γ δ ρ A : Type} {t : Ty α} {u : Ty β} {ta tb te : TE} {tr : TA} {ts ts' : TS} {res : ρ → Ent} {nx bk ct : NK} {rt : ρ → Option Nat → Prop}
theorem we_argL {C : Addr} {flds : α → Flds} {k : Int → NK} (h : WpE K w n Γ ta (tArg C flds) (fun x n Γ => ∃ i, x = .inl i ∧ k i n Γ)) : WpE K w n Γ ta tI k := fun σ B H ok Q c =>
  h σ B H ok _ fun x v n' Γ' B' H' ⟨y, hx, q⟩ e o r => by subst hx; exact c y v n' Γ' B' H' q e o r
theorem we_argR {C : Addr} {flds : α → Flds} {k : α → NK} (h : WpE K w n Γ ta (tArg C flds) (fun x n Γ => ∃ i, x = .inr i ∧ k i n Γ)) : WpE K w n Γ ta (tObj C flds) k := fun σ B H ok Q c =>
  h σ B H ok _ fun x v n' Γ' B' H' ⟨y, hx, q⟩ e o r => by subst hx; exact c y v n' Γ' B' H' q e o r
/-- isinstance(x, (int, C)), x an int or an instance -/
theorem we_isIntOwn {mg : Str → Option Value} {nm : Str} {C : Addr} {flds : α → Flds} (ic : IsC K mg C nm) {k : Bool → NK} (h : WpE K w n Γ ta (tArg C flds) (fun x n Γ => k true n Γ)) :
    WpE K w n Γ (tCB (rIsiT K) (tCons ta (tCons (tTup (tCons (tC (.ty "int")) (tCons (tC (.ref C)) tNil))) tNil))) tBo k := fun σ B H ok Q c =>
  h σ B H ok _ fun x v n1 Γ1 B1 H1 q e o r => by
    refine ⟨(by show 2 ≤ sizeLine; rw [sizeLine_eq]; decide), fun p hp => ?_⟩
    have o2 := o.grow (Grow.open (o := .tup [.ty "int", .ref C]) o.ex hp)
    have e2 : Ex H1 (upd H1 p (.tup [.ty "int", .ref C])) := Ex.new hp
    cases x with
    | inl i =>
      have r : v = .int i := r
      subst r
      exact ⟨_, p, _, .type "int", [.type "int", .ref C], true, rfl, upd_same, .cons (.ty _) (.cons (.own C) .nil), .base (.int i), by unfold PySem.W.kitAny; rw [show PySem.W.kitOne K (.type "int") (.type "int") = some true from kit_ty rfl], c _ _ n1 Γ1 B1 _ q e o2 rfl⟩
    | inr y =>
      obtain ⟨a, dx, fs, rfl, hs⟩ := insV_obj r o.ex
      refine ⟨_, p, _, .ref C, [.type "int", .ref C], true, rfl, upd_same, .cons (.ty _) (.cons (.own C) .nil), .base (.ins (e2 _ _ hs) ic.cl ic.ha ic.hn ic.htk ic.hm), ?_, c _ _ n1 Γ1 B1 _ q e o2 rfl⟩
      have h1 : PySem.W.kitOne K (.ref C) (.type "int") = some false := by
        unfold PySem.W.kitOne PySem.W.kitCls
        rw [if_neg (by intro z; cases beq_iff_eq.mp z)]
        show (if _ then _ else _) = _
        rw [if_pos (by decide +kernel)]
        exact ic.si
      have h2 : PySem.W.kitOne K (.ref C) (.ref C) = some true := by unfold PySem.W.kitOne; simp
      unfold PySem.W.kitAny PySem.W.kitAny
      rw [h1]
      dsimp only
      rw [h2]
/-- f(s) -/
theorem we_callW {S : FS K} {sp : Sp} (sub : ∀ vs H Q X, S.sp vs H Q X → sp vs H Q X) {C : Addr} {flds : α → Flds} {s : Ty S.ρ} {R : TyA A} (hres : S.res = fun x => .im s x) (hc : S.cost = 0) (up : α → A → S.A) (hup : ∀ {d B v vs a b}, (tObj C flds).rep B v a → R.rep d B vs b → S.args.rep d B (v :: vs) (up a b)) {k : S.ρ → NK}
    (h : WpE K w n Γ ta (tObj C flds) (fun a n Γ => WpA K w n Γ tr R (fun b n Γ => S.pre (up a b) ∧ ∀ x, S.post (up a b) x → k x n Γ))) : WpE K w n Γ (tCallW C sp ta tr) s k := fun σ B H ok Q c =>
  h σ B H ok _ fun a v1 n1 Γ1 B1 H1 q1 e1 o1 r1 => ⟨insV_obj r1 o1.ex, q1 σ B1 H1 o1 _ fun b vs n2 Γ2 B2 H2 ⟨hp, q⟩ e2 o2 r2 =>
    ⟨insV_obj ((tObj C flds).mono e2 r1) o2.ex, sub _ _ _ _ (own_val (k := k) hres hc o2 (hup ((tObj C flds).mono e2 r1) r2) hp q fun x v B' H' hk e' o' r' => c x v n2 Γ2 B' H' hk ((e1.trans e2).trans e') o' r')⟩⟩
theorem we_absO {S : FS K} {sp : Sp} (sub : ∀ vs H Q X, S.sp vs H Q X → sp vs H Q X) {C : Addr} {flds : α → Flds} {s : Ty S.ρ} (hres : S.res = fun x => .im s x) (hc : S.cost = 0) (up : α → S.A) (hup : ∀ {d B v a}, (tObj C flds).rep B v a → S.args.rep d B [v] (up a)) {k : S.ρ → NK}
    (h : WpE K w n Γ ta (tObj C flds) (fun a n Γ => S.pre (up a) ∧ ∀ x, S.post (up a) x → k x n Γ)) : WpE K w n Γ (tCB (rAbsOwn C sp) (tCons ta tNil)) s k := fun σ B H ok Q c =>
  h σ B H ok _ fun a v1 n1 Γ1 B1 H1 ⟨hp, q⟩ e1 o1 r1 =>
    ⟨v1, rfl, insV_obj r1 o1.ex, sub _ _ _ _ (own_val (k := k) hres hc o1 (hup r1) hp q fun x v B' H' hk e' o' r' => c x v n1 Γ1 B' H' hk (e1.trans e') o' r')⟩
/-- {x}, x an int or an instance -/
theorem we_fmtA {S : FS K} {sp : Sp} (sub : ∀ vs H Q X, S.sp vs H Q X → sp vs H Q X) {C : Addr} {flds : α → Flds} (f : S.ρ → List Nat) (hres : S.res = fun x => .im tX (f x)) (hc : S.cost = 0) (up : α → S.A) (hup : ∀ {d B v a}, (tObj C flds).rep B v a → S.args.rep d B [v] (up a)) {k : List Nat → NK}
    (h : WpE K w n Γ ta (tArg C flds) (fun a n Γ => match a with
      | .inl i => i.natAbs.log2 < 1920 ∧ k (txI i) n Γ
      | .inr a => S.pre (up a) ∧ ∀ x, S.post (up a) x → k (f x) n Γ)) : WpE K w n Γ (tFmtO C sp ta) tX k := fun σ B H ok Q c =>
  h σ B H ok _ fun a v1 n1 Γ1 B1 H1 q e1 o1 r1 => by
    cases a with
    | inl i => exact .inl (.inr ⟨i, r1, q.1, c _ _ n1 Γ1 B1 H1 q.2 e1 o1 (by show V.str _ = V.str _; rw [txI_S])⟩)
    | inr y =>
      obtain ⟨hp, q⟩ := q
      refine .inr ⟨insV_obj r1 o1.ex, sub _ _ _ _ ⟨w.d, w.ca, w.cs, n1, B1, up y, o1.entry, hup r1, hp, .inl hc, fun x v n' B' H' hx hcc e' o' sl => ?_⟩⟩
      rw [hres] at sl
      obtain ⟨v', h1, h2⟩ := sl
      cases h1
      have hn : n' = n1 := by
        rcases hcc with ⟨_, z⟩ | ⟨m, z1, z2⟩
        · exact z
        · rw [z1, z2, hc]; rfl
      subst hn
      cases h2
      exact ⟨_, rfl, c _ _ _ Γ1 B' H' (q x hx) (e1.trans e') (o1.back o') rfl⟩
end
end TL
namespace TL
open PySem L2 PyProof.Rows PySem.Calls
open PySem.W (Frag)
section
variable {X : Cx} {k : Nat} {C : Addr} {m f : Str} {ps : List Str} {sp : Sp} {e o : Expr} {es : List Expr} {to : TE} {t : TA} {pos apos : Pos}
/-- o.f(..), f a field that holds an instance -/
theorem pe_callFld (K : Frag) (hK : X.K = K) {pl : Sem Bool} (ho : PE X o to) (c : CallBy X.prog X.w X.K X.mg X.base CX0 k C ps sp) (hr : Room k X.A) (ha : PA X (e :: es) t)
    (he : starEach (e :: es) X.env = (false, eval e X.env) :: starEach es X.env := by rfl) (hpl : (backTo pos (starEach es X.env)).any (·.1) = false := by rfl)
    (ht : eval (.Call (.Attribute o f apos) (e :: es) [] pos) X.env = (do
      let ov ← eval o X.env
      standAt apos.atName
      let (f, first) ← holding [ov] (getMethod ov f pl)
      callWith pos f first (backTo pos (starEach (e :: es) X.env)) (backToKw pos (keywordEach [] X.env))) := by rfl) : PE X (.Call (.Attribute o f apos) (e :: es) [] pos) (tCallW C sp (tFld K to f) t) := by
  subst hK
  refine ⟨fun pins s σ H Q I h => ?_⟩
  obtain ⟨g, fd, c1, c2, c3⟩ := c.ex
  refine PySem.W.methodCall_KW (pl := pl) (thn (ho.run pins s σ H _ I h) fun u s1 ⟨x, H1, I1, rx, a, D, dx, fs, v, ex, ea, cl, na, hl, ⟨b, dy, gs, ey, _⟩, q⟩ => ?_) ht
  subst ex; subst ey
  obtain rfl : u = Value.ref a := rx
  obtain ⟨ox, od, J⟩ := ins_look I1 ea
  refine PySem.W.method_usual I1.kIn J (PySem.W.plainGet_of (cl.get f)).1 (PySem.W.plainGet_of (cl.get f)).2 na rfl (getattr_ok I1 ea cl na hl fun u2 s2 I2 ru => ?_)
  obtain rfl : u2 = Value.ref b := ru
  refine StX.callO_with (thn (ha.run pos pins s2 σ H1 _ I2 q) fun us s3 ⟨vs, H2, I3, r, ⟨a', dx', fs', ea', hi⟩, q2⟩ => ?_) he hpl
  cases ea'
  have hi2 : StX.InsC X H2 b C := .inr ⟨_, _, hi⟩
  obtain ⟨ox, od, J, hd⟩ := StX.insC_at I3 hi2
  exact ⟨⟨C, ox, od, J, hd⟩, StX.run_callO c1 (c2.raw c3 .nil) hr pass0 I3 hi2 r (by rw [List.append_nil]; exact q2)⟩
end
end TL
namespace TL
open PySem L2 PyProof.Rows PySem.Calls
open PySem.W (Frag)
section
variable {X : Cx}
theorem pg_lstK (K : Frag) (hK : X.K = K) {es : List Expr} {k : Nat} {t : TGs} {n : Nat} {pos : Pos} (hc : X.calm = true) (h : PGs X es t) (hn : (assignEach es X.env).length = n := by rfl) (hst : (assignEach es X.env).findIdx? (·.1) = none := by rfl) : PG X (.Tuple es k pos) (gLst K n t) := by
  subst hK; exact pg_lst hc h hn hst
end
section
variable {K : Frag} {w : Wd} {n : Option Nat} {Γ : Env} {α : Type} {t : Ty α}
theorem wg_lst4 {a b c d : Nat} {x y z u : α} {k : NK} (h : SetE ((((Γ.set a (.im t x)).set b (.im t y)).set c (.im t z)).set d (.im t u)) (k n)) :
    WpG K w n Γ (gLst K 4 (gCons (gName a) (gCons (gName b) (gCons (gName c) (gCons (gName d) gNil))))) (tL t) [x, y, z, u] k := fun σ B H ok v ⟨p, vs, hv, hs, pw⟩ Q q => by
  cases pw with | cons h1 pw => cases pw with | cons h2 pw => cases pw with | cons h3 pw => cases pw with | cons h4 pw =>
  cases pw
  refine ⟨p, _, hv, SqL.of (ok.ex _ _ hs), rfl, _, _, rfl, _, _, rfl, _, _, rfl, _, [], rfl, rfl, ?_⟩
  exact q n _ _ B H h (Ex.refl _) ((((ok.setIm h1).setIm h2).setIm h3).setIm h4)
theorem wg_lst5 {a b c d e : Nat} {x y z u m : α} {k : NK} (h : SetE (((((Γ.set a (.im t x)).set b (.im t y)).set c (.im t z)).set d (.im t u)).set e (.im t m)) (k n)) :
    WpG K w n Γ (gLst K 5 (gCons (gName a) (gCons (gName b) (gCons (gName c) (gCons (gName d) (gCons (gName e) gNil)))))) (tL t) [x, y, z, u, m] k := fun σ B H ok v ⟨p, vs, hv, hs, pw⟩ Q q => by
  cases pw with | cons h1 pw => cases pw with | cons h2 pw => cases pw with | cons h3 pw => cases pw with | cons h4 pw => cases pw with | cons h5 pw =>
  cases pw
  refine ⟨p, _, hv, SqL.of (ok.ex _ _ hs), rfl, _, _, rfl, _, _, rfl, _, _, rfl, _, _, rfl, _, [], rfl, rfl, ?_⟩
  exact q n _ _ B H h (Ex.refl _) (((((ok.setIm h1).setIm h2).setIm h3).setIm h4).setIm h5)
end
end TL

/-! # TL: own errors: made, raised -/
namespace TL
namespace Er
open PySem PySem.W PySem.Calls PyProof.Rows PySem.HandSPX
open L2 (defArgs defBody defScope)

/-- self.f = f; .. -/
inductive Stores : List Stmt → List Str → Prop
  | nil : Stores [] []
  | cons {f : Str} {r : List Stmt} {fs : List Str} {q1 q2 q3 q4 : Pos} : Stores r fs → Stores (.Assign [.Attribute (.Name "self" q1) f q2] (.Name f q3) q4 :: r) (f :: fs)
/-- super().__init__(text), then the fields -/
def Body (b : List Stmt) (fs : List Str) : Prop := ∃ (p0 p1 ap p2 pos pe : Pos) (j : Nat) (m : Str) (r : List Stmt),
  b = .Expr (.Call (.Attribute (.Call (.Name "super" p0) [] [] p1) "__init__" ap) [.Constant (.str m) j p2] [] pos) pe :: r ∧ Stores r fs ∧
  ∀ env : PySem.Env, ∃ pl : Sem Bool, eval (.Call (.Attribute (.Call (.Name "super" p0) [] [] p1) "__init__" ap) [.Constant (.str m) j p2] [] pos) env = (do
      let ov ← attributeBase (.Call (.Name "super" p0) [] [] p1) "__init__" env (eval (.Call (.Name "super" p0) [] [] p1) env)
      standAt ap.atName
      let (f, first) ← holding [ov] (getMethod ov "__init__" pl)
      callWith pos f first (backTo pos (starEach [.Constant (.str m) j p2] env)) [])
def fmap : List (Str × Value) → (Str → Option Value) → Str → Option Value
  | [], m => m
  | (f, v) :: r, m => fmap r (fun y => if y = f then some v else m y)
/-- what the written part says of an own error's class C, named xn, made by st, with the fields fs -/
structure ErrC (P : Program) (K : Frag) (mg : Str → Option Value) (C : Addr) (xn : Str) (st : Stmt) (fs : List Str) : Prop where
  gC : mg xn = some (.ref C)
  cls : ∃ nm q N bs bm sn sub ab col dd k0 k1 k2 k3 k5, K.lookup C = some (excClassObj nm q C N bs bm true sn sub ab col dd k0 k1 k2 k3 k5 "ValueError.__new__") ∧ refsVE bm = true
  sa : findIn K (.ref C) "__setattr__" = some (some (.builtin "object.__setattr__"))
  no : ∀ f ∈ fs, findIn K (.ref C) f = some none
  exC : subIn K (.ref C) (.type "BaseException") = some true
  veC : subIn K (.ref C) (.type "ValueError") = some true
  tyC : typeIn K (.ref C) = some (.type "type")
  kC : keepIn K (.ref C) = true
  ini : ∃ (fI cc cda : Addr) (qual : Str) (oc : Value) (od : Option Addr) (kV doc pm : Value) (an : Option Addr) (ct : Value) (osl : Array (Option Value)) (ccl : Value) (cdd : Option Addr) (vs : Array Value) (ccs : Array (Option Value)) (file : Str) (tf : Tok) (cl : Value) (cld : Option Addr) (csl : Array (Option Value)),
    findIn K (.ref C) "__init__" = some (some (.ref fI)) ∧ typeIn K (.ref fI) = some (.type "function") ∧
    K.lookup fI = some ⟨oc, od, .func (ksFn "__init__" qual (defArgs st) (defBody st) (defScope st) .none kV doc pm an (.ref cda) ct cc), osl⟩ ∧ codeIn K (.ref cda) qual = true ∧
    K.lookup cda = some ⟨ccl, cdd, .fields vs, ccs⟩ ∧ vs[2]? = some (.str file tf) ∧ (P.main.file == file) = true ∧ K.lookup cc = some ⟨cl, cld, .cell (some (.ref C)), csl⟩ ∧
    ∀ (s : Shared) (us : List Value), us.length = (("self" : Str) :: fs).length → BindsTo s (ksFn "__init__" qual (defArgs st) (defBody st) (defScope st) .none kV doc pm an (.ref cda) ct cc) ⟨us, []⟩ ((("self" : Str) :: fs).zip us)
  sup : ks_superIn K C C "__init__" = some (some (.builtin "ValueError.__init__"))
  own : mroIn K C (.ref C) = some true
  any : nsIn K cStatics "thirdparty.any" = some none
  nsup : mg "super" = none
  top : (P.main.scope.names.lookup ("super" : Str)).isSome = false
  body : Body (defBody st) fs
  hd : ∃ ar : Arg, ((defArgs st).posonlyargs ++ (defArgs st).args).head? = some ar ∧ ar.arg = "self"
  cell : ∀ x ∈ (defScope st).names, x.2 ≠ .cell
  loc : ∀ x ∈ (("self" : Str) :: fs), (defScope st).names.lookup x = some .local
  ks : (defScope st).names.lookup ("super" : Str) = some .globalImplicit
  kc : (defScope st).names.lookup ("__class__" : Str) = some .free
  co : (defScope st).isCoroutine = false
  gen : (defScope st).isGenerator = false
  kind : (defScope st).kind = .function
  nd : (("self" : Str) :: fs).Nodup
  dbg : ∀ f ∈ fs, (f == ("__debug__" : Str)) = false
theorem lookup_of_mem : ∀ {l : List (Str × Value)} {f : Str} {u : Value}, (l.map (·.1)).Nodup → (f, u) ∈ l → l.lookup f = some u
  | [], _, _, _, h => by cases h
  | (g, v) :: l, f, u, nd, h => by
    rcases List.mem_cons.mp h with e | h2
    · cases e; simp [List.lookup]
    · have ne : (f == g) = false := by
        have : g ∉ l.map (·.1) := (List.nodup_cons.mp nd).1
        rw [beq_eq_false_iff_ne]
        rintro rfl
        exact this (List.mem_map_of_mem (f := (·.1)) h2)
      simp only [List.lookup, ne]
      exact lookup_of_mem (List.nodup_cons.mp nd).2 h2
theorem map_fst_zip : ∀ {fs : List Str} {us : List Value}, fs.length = us.length → (fs.zip us).map (·.1) = fs
  | [], [], _ => rfl
  | _ :: _, [], h => by simp at h
  | [], _ :: _, h => by simp at h
  | f :: fs, u :: us, h => by simp [map_fst_zip (fs := fs) (us := us) (by simpa using h)]
theorem pairs_zip {m : Str → Option Value} : ∀ {fs : List Str} {us : List Value}, fs.length = us.length → (∀ p ∈ fs.zip us, m p.1 = some p.2) → Paired (fun f u => m f = some u) fs us
  | [], [], _, _ => .nil
  | _ :: _, [], h, _ => by simp at h
  | [], _ :: _, h, _ => by simp at h
  | f :: fs, u :: us, h, q => .cons (q (f, u) (by simp)) (pairs_zip (by simpa using h) fun p hp => q p (by simp [hp]))
section
variable {prog : Program} {w : World} {A : Around} {E : Value → Shared → Prop} {R : Result → Shared → Prop} {K : Frag} {C : Addr} {env : PySem.Env}
theorem set_one {x : Addr} {s : Shared} {f : Str} {u : Value} {q1 q2 q3 q4 : Pos} {L : Addr} {m : Str → Option Value} {Q : Flow → Shared → Prop} (hL : env.locals = L) (hn : s.heap.Ns L m) (hk : env.scope.kind = .function) (hs : env.kindOf "self" = some .local) (hf : env.kindOf f = some .local)
    (hdb : (f == ("__debug__" : Str)) = false) (ms : m "self" = some (.ref x)) (mf : m f = some u)
    (h : wpAny (model prog w) A (setAttr (.ref x) f u) (fun _ => Q .next) E s)
    (hsw : swapsWith (.Name f q3) (some (.Attribute (.Name "self" q1) f q2)) q4.line env = pure false := by rfl) : wpAny (model prog w) A (exec (.Assign [.Attribute (.Name "self" q1) f q2] (.Name f q3) q4) env) Q E s := by
  subst hL
  refine plainObj_wpAny_Assign_Attribute ?_ hsw
  exact wpAny_Name (wpAny_loadName_local hk hf hn mf (wpAny_Name (wpAny_loadName_local hk hs hn ms h) (by decide))) hdb
/-- the fields that follow -/
theorem stores_old {cd : ClassData} {x dx L : Addr} {fv : Array Value} (hcd : clsIn K C = some cd) (hm : refsVE cd.mro = true) (hh : cd.hasDict = true) (sa : findIn K (.ref C) "__setattr__" = some (some (.builtin "object.__setattr__"))) (hL : env.locals = L) (hk : env.scope.kind = .function) (hs : env.kindOf "self" = some .local)
    {m : Str → Option Value} (ms : m "self" = some (.ref x)) (ne : L ≠ x) (nk : K.lookup x = none) (nd : K.lookup dx = none) (nL : L ≠ dx) (nx : x ≠ dx) :
    ∀ {r : List Stmt} {fs : List Str}, Stores r fs → ∀ {us : List Value} {s : Shared} {m0 : Str → Option Value} {nl : List Str} {Q : Flow → Shared → Prop}, K.In s.heap → s.heap.Ns L m → s.heap.get? x = some { cls := .ref C, dict := some dx, data := .fields fv } → s.heap.Ns1 dx m0 → Within m0 nl → nl.length + fs.length ≤ 1000 →
    Paired (fun f u => m f = some u) fs us → (∀ f ∈ fs, env.kindOf f = some .local ∧ findIn K (.ref C) f = some none ∧ (f == ("__debug__" : Str)) = false) →
    (∀ h' tk', (∀ b o, b ≠ dx → s.heap.get? b = some o → h'.get? b = some o) → h'.get? x = some { cls := .ref C, dict := some dx, data := .fields fv } → h'.Ns1 dx (fmap (fs.zip us) m0) → Q .next { s with heap := h', toks := tk' }) →
    wpAny (model prog w) A (execs r env) Q E s := by
  intro r fs S
  induction S with
  | nil =>
    intro us s m0 nl Q X hn hx hns hw hz p hf hq
    cases p
    exact wpAny_execs_nil (hq s.heap s.toks (fun _ _ _ e => e) hx hns)
  | @cons f r fs q1 q2 q3 q4 S ih =>
    intro us s m0 nl Q X hn hx hns hw hz p hf hq
    cases p with
    | @cons _ u _ us hu p =>
      obtain ⟨f1, f2, f3⟩ := hf f List.mem_cons_self
      obtain ⟨oD, esD, epD, hoD, hdD, _⟩ := hns.count hw
      refine wpAny_execs_cons (set_one hL hn hk hs f1 f3 ms hu ?_ ?_)
      · refine set_plain X (x := x) (C := C) (ox := { cls := .ref C, dict := some dx, data := .fields fv }) (od := some oD) ⟨hx, rfl, rfl, hoD⟩ sa ?_
        obtain ⟨hp, g, d, t, os⟩ := s
        refine PySem.OEX.osa_old X hx hns hw (by simp at hz; omega) hcd hm hh f2 fun h' tk' k hn' => ?_
        have hx' : h'.get? x = some { cls := .ref C, dict := some dx, data := .fields fv } := k _ _ nx hx
        refine ih (nl := f :: nl) (s := ⟨h', g, d, tk', os⟩) (fun a o e => k a o (fun z => by rw [z, nd] at e; cases e) (X a o e)) ?_ hx' hn' (Within.cons f u hw) (by simp at hz ⊢; omega) p (fun g hg => hf g (List.mem_cons_of_mem _ hg)) fun h2 tk2 k2 hx2 hn2 => ?_
        · obtain ⟨oL, es, ep, e, rest⟩ := hn
          exact ⟨oL, es, ep, k _ _ nL e, rest⟩
        · exact hq h2 tk2 (fun b o hb e => k2 b o hb (k b o hb e)) hx2 hn2
      · first | rfl | with_unfolding_all rfl

/-- what __init__ leaves -/
def Left (h h' : Heap) (x C : Addr) (fus : List (Str × Value)) : Prop := (∀ b o, b ≠ x → h.get? b = some o → h'.get? b = some o) ∧ ∃ (t1 : Addr) (dd : Option Addr),
  h'.get? x = some { cls := .ref C, dict := dd, data := .fields #[.ref t1, .none, .none, .none, .bool false, .none] } ∧
  (fus = [] ∧ dd = none ∨ ∃ dx, fus ≠ [] ∧ dd = some dx ∧ h.objs.size ≤ dx ∧ dx ≠ x ∧ h'.Ns1 dx (fmap fus fun _ => none))
theorem stores_new {cd : ClassData} {x t1 L : Addr} (hcd : clsIn K C = some cd) (hm : refsVE cd.mro = true) (hh : cd.hasDict = true) (sa : findIn K (.ref C) "__setattr__" = some (some (.builtin "object.__setattr__"))) (hL : env.locals = L) (hk : env.scope.kind = .function) (hs : env.kindOf "self" = some .local)
    {m : Str → Option Value} (ms : m "self" = some (.ref x)) (ne : L ≠ x) (nk : K.lookup x = none) {r : List Stmt} {fs : List Str} (S : Stores r fs) {us : List Value} {s : Shared} {Q : Flow → Shared → Prop} (X : K.In s.heap) (hn : s.heap.Ns L m)
    (hx : s.heap.get? x = some (excO C t1)) (hz : fs.length < 1000) (p : Paired (fun f u => m f = some u) fs us) (hf : ∀ f ∈ fs, env.kindOf f = some .local ∧ findIn K (.ref C) f = some none ∧ (f == ("__debug__" : Str)) = false)
    (hq : ∀ h' tk', Left s.heap h' x C (fs.zip us) → Q .next { s with heap := h', toks := tk' }) : wpAny (model prog w) A (execs r env) Q E s := by
  cases S with
  | nil =>
    cases p
    exact wpAny_execs_nil (hq s.heap s.toks ⟨fun _ _ _ e => e, t1, none, hx, .inl ⟨rfl, rfl⟩⟩)
  | @cons f r fs q1 q2 q3 q4 S =>
    cases p with
    | @cons _ u _ us hu p =>
      obtain ⟨f1, f2, f3⟩ := hf f List.mem_cons_self
      refine wpAny_execs_cons (set_one hL hn hk hs f1 f3 ms hu ?_ ?_)
      · refine set_plain X (x := x) (C := C) (ox := excO C t1) (od := none) ⟨hx, rfl, rfl, trivial⟩ sa ?_
        obtain ⟨hp, g, d, t, os⟩ := s
        refine exc_osa X hx hcd hm hh f2 fun h' tk' dx k dn dne hx' hn' => ?_
        have kL : L < hp.objs.size := hn.lt
        have nL : L ≠ dx := Nat.ne_of_lt (Nat.lt_of_lt_of_le kL dn)
        have X' : K.In h' := fun a o e => k a o (fun z => by rw [z, nk] at e; cases e) (X a o e)
        have nd : K.lookup dx = none := by
          cases e : K.lookup dx with
          | none => rfl
          | some o => exact absurd (Nat.lt_of_lt_of_le (Heap.lt_size (X dx o e)) dn) (Nat.lt_irrefl _)
        refine stores_old (fv := #[.ref t1, .none, .none, .none, .bool false, .none]) hcd hm hh sa hL hk hs ms ne nk nd nL (Ne.symm dne) S (nl := [f]) (s := ⟨h', g, d, tk', os⟩) X' ?_ hx' hn' ?_ (by simp at hz ⊢; omega) p (fun g hg => hf g (List.mem_cons_of_mem _ hg)) fun h2 tk2 k2 hx2 hn2 => ?_
        · obtain ⟨oL, es, ep, e, rest⟩ := hn
          exact ⟨oL, es, ep, k _ _ ne e, rest⟩
        · exact Within.cons f u Within.nil
        · exact hq h2 tk2 ⟨fun b o hb e => k2 b o (fun z => by rw [z] at e; exact absurd (Nat.lt_of_lt_of_le (Heap.lt_size e) dn) (Nat.lt_irrefl _)) (k b o hb e), t1, some dx, hx2, .inr ⟨dx, by simp, rfl, dn, dne, hn2⟩⟩
      · first | rfl | with_unfolding_all rfl

def Blt (h : Heap) : Prop := ∃ mb, h.Ns builtinsNs mb ∧ ∀ x : Str, x ≠ "__name__" → mb x = bootBuiltins x
variable {mg : Str → Option Value} {xn : Str} {st : Stmt} {fs : List Str}
theorem err_init (T : ErrC prog K mg C xn st fs) : ∃ fI : Addr, findIn K (.ref C) "__init__" = some (some (.ref fI)) ∧ typeIn K (.ref fI) = some (.type "function") ∧ ∀ (A : Around) (R : Result → Shared → Prop) (s : Shared) (x t0 : Addr) (us : List Value),
    K.In s.heap → s.heap.Ns mainGlobals mg → Blt s.heap → s.heap.NoLimit → s.heap.get? x = some (excO C t0) → K.lookup x = none → A.depth < recursionLimit → us.length = fs.length → fs.length < 1000 →
    (∀ h' tk, Left s.heap h' x C (fs.zip us) → R (.ok (.ret .none)) { s with heap := h', toks := tk }) → codeAny (model prog w) A (.call (.ref fI) ⟨.ref x :: us, []⟩) R s := by
  obtain ⟨fI, cc, cda, qual, oc, od, kV, doc, pm, an, ct, osl, ccl, cdd, vs, ccs, file, tf, cl, cld, csl, hi, ht, lk, hcd, lcd, hvs, hfile, lcc, hb⟩ := T.ini
  obtain ⟨nm, q, N, bs, bm, sn, sub, ab, col, dd, k0, k1, k2, k3, k5, lC, hbm⟩ := T.cls
  have hcl : clsIn K C = some { name := nm, bases := bs, mro := .ref C :: bm, ns := N, qualname := q, hasDict := true, slotNames := sn, subclasses := sub, abstract := ab, collection := col, hasDel := false } := by unfold clsIn; rw [lC] <;> rfl
  refine ⟨fI, hi, ht, fun A R s x t0 us X G Bt lim hx hnx hroom hl hz hq => ?_⟩
  refine ks_codeAny_call_defAt (fd := ksFn "__init__" qual (defArgs st) (defBody st) (defScope st) .none kV doc pm an (.ref cda) ct cc) (body := defBody st) (binds := (("self" : Str) :: fs).zip (.ref x :: us)) hroom (X _ _ lk) rfl lim (codeRec_of X hcd) rfl (hb s (.ref x :: us) (by simp [hl])) T.cell (fun y hy => T.loc y.1 (List.of_mem_zip hy).1) (fun h₀ hns k => ?_) T.co T.gen T.kind
  obtain ⟨p0, p1, ap, p2, pos, pe, j, msg, r, hbody, S, hev⟩ := T.body
  obtain ⟨hp, g, d, t, os⟩ := s
  have nd : (((("self" : Str) :: fs).zip (.ref x :: us)).reverse.map (·.1)).Nodup := by
    rw [List.map_reverse, map_fst_zip (by simp [hl])]
    exact List.pairwise_reverse.mpr (T.nd.imp fun h e => h e.symm)
  have ms : ∀ f u, (f, u) ∈ (("self" : Str) :: fs).zip (.ref x :: us) → (((("self" : Str) :: fs).zip (.ref x :: us)).reverse.lookup f) = some u := fun f u h => lookup_of_mem nd (List.mem_reverse.mpr h)
  have X₀ : K.In h₀ := X.keeps k
  have hx₀ := k _ _ hx
  have nLx : hp.objs.size ≠ x := Nat.ne_of_gt (Heap.lt_size hx)
  refine (congrArg (fun b => PySem.wpAt _ _ _ (execs b _) _ _ _) hbody).mpr ?_
  obtain ⟨pl, hpl⟩ := hev (callEnv (ksFn "__init__" qual (defArgs st) (defBody st) (defScope st) .none kV doc pm an (.ref cda) ct cc) hp.objs.size fI)
  refine ks_wpAt_execs_cons (ks_wpAt_Expr_any (ks_wpAt_MethodCall ?_ hpl) (by show (((defScope st).kind == .module) && _) = false; rw [T.kind]; rfl) rfl)
  obtain ⟨ar, har, hself⟩ := T.hd
  refine ks_wpAt_super_base T.ks T.kc (by decide) rfl (X₀ _ _ lk) rfl har rfl (X₀ _ _ lcd) rfl hvs hfile T.top ?_
  obtain ⟨mb, hmb, hbb⟩ := Bt
  refine ks_loadName_global T.kind T.ks (loadGlobal_builtin (G.keeps k) T.nsup (hmb.keeps k) (v := .type "super") ((hbb "super" (by decide)).trans (by first | rfl | kernel_rfl | decide +kernel)) ⟨rfl, ?_⟩)
  refine wpAny_loadName_free T.kind T.kc rfl ⟨_, X₀ _ _ lcc, rfl⟩ ?_
  rw [hself]
  refine wpAny_loadName_local T.kind (T.loc _ List.mem_cons_self) hns (ms "self" (.ref x) (by simp)) ?_
  refine ks_wpAny_isType_cls (X₀ _ _ lC) rfl ⟨rfl, ?_⟩
  refine ks_wpAny_call_super (X₀ _ _ lC) rfl hx₀ rfl (fun c e => by cases e) (looks_mroIn X₀ T.own) (fun h2 e2 k2 => ?_)
  have X₂ : K.In h2 := X₀.keeps k2
  have I2 : InstAt h2 x (excO C t0) C none := ⟨k2 _ _ hx₀, rfl, rfl, trivial⟩
  have hf := T.sup
  unfold ks_superIn at hf
  rw [hcl] at hf
  refine kxs_getMethod kxs_ValueError e2 (looks_opaque X₂ T.any) (l₀ := .ref C :: bm) ((looks_clsIn X₂ hcl).andThen .now) rfl X₂ hf (I2.type.andThen (looks_subIn X₂ T.veC)) (ks_ne X₂ I2 hcl) (by decide) ?_
  have k3 : ∀ b o, h2.get? b = some o → (h2.push (kxs_mw "ValueError.__init__" x)).get? b = some o := fun b o e => Heap.get?_push_of_some _ e
  have hu : (h2.push (kxs_mw "ValueError.__init__" x)).get? h2.objs.size = some (kxs_mw "ValueError.__init__" x) := Heap.get?_push_at rfl rfl
  have hse : ∀ env : PySem.Env, starEach [.Constant (.str msg) j p2] env = (false, eval (.Constant (.str msg) j p2) env) :: starEach [] env := fun _ => rfl
  rw [hse]
  refine kxs_callWith (i := "ValueError.__init__") (x := x) rfl (evalArgs_plain (x := eval (.Constant (.str msg) j p2) _) (spliced_cons (x := eval (.Constant (.str msg) j p2) _) ?_))
  refine wpAny_Constant_str (spliced_nil ⟨hu, ?_⟩)
  have hC3 := k3 _ _ (X₂ _ _ lC)
  have he3 := k3 _ _ (k2 _ _ hx₀)
  refine wpAny_call (codeAny_of_tree ?_)
  show wpAny _ _ (callAny (.ref h2.objs.size) ⟨_, []⟩) _ _ _
  simp only [callAny]
  refine wpAny_bind (wpAny_load hu ?_)
  simp only [kxs_mw, show (Value.type "method-wrapper" == Value.type "method" || Value.type "method-wrapper" == Value.type "builtin_function_or_method" || Value.type "method-wrapper" == Value.type "method-wrapper") = true by decide, if_true]
  refine KFB.if_so (by decide) ?_
  refine wpAny_bind (check_bound_init PySem.F.excBase_ValueError.toExcCallFacts hC3 he3 rfl ?_)
  refine wpAny_bind (wpAny_pure (wpAny_pure ?_))
  refine ⟨plainId_quiet PySem.F.excBase_ValueError.init.plain _, codeAny_builtin PySem.F.excBase_ValueError.initEntry ?_⟩
  refine exc_init_tree (cls := .ref C) (t0 := t0) (dv := none) (c2 := .none) (c3 := .none) (b4 := .bool false) he3 (by show 1 ≤ sizeLine; rw [sizeLine_eq]; omega) fun h4 k4 e4 _ => ?_
  have kx : ∀ b o, b ≠ x → h₀.get? b = some o → h4.get? b = some o := fun b o hb e => k4 b o hb (k3 b o (k2 b o e))
  have X₄ : K.In h4 := fun a o e => kx a o (fun z => by rw [z, hnx] at e; cases e) (X₀ a o e)
  have hns4 : h4.Ns hp.objs.size (fun y => ((("self" : Str) :: fs).zip (.ref x :: us)).reverse.lookup y) := by
    obtain ⟨oL, es, ep, e, rest⟩ := hns
    exact ⟨oL, es, ep, kx _ _ nLx e, rest⟩
  show PySem.wpAt _ _ _ (execs r _) _ _ _
  refine wpAt_of_wpAny (stores_new (env := callEnv (ksFn "__init__" qual (defArgs st) (defBody st) (defScope st) .none kV doc pm an (.ref cda) ct cc) hp.objs.size fI) (t1 := (h2.push (kxs_mw "ValueError.__init__" x)).objs.size) hcl (show refsVE (.ref C :: bm) = true from hbm) rfl T.sa rfl T.kind (T.loc _ List.mem_cons_self) (ms "self" (.ref x) (by simp)) nLx hnx S X₄ hns4 e4 hz
    (pairs_zip hl.symm fun p hp => ms p.1 p.2 (by simp [hp])) (fun f hf => ⟨T.loc f (List.mem_cons_of_mem _ hf), T.no f hf, T.dbg f hf⟩) fun h' tk' L => ?_)
  refine hq h' tk' ?_
  obtain ⟨l1, t1, dd, l2, l3⟩ := L
  refine ⟨fun b o hb e => l1 b o hb (kx b o hb (k b o e)), t1, dd, l2, l3.imp_right fun ⟨dx, a, b, c, e⟩ => ⟨dx, a, b, ?_, e⟩⟩
  exact Nat.le_trans (Nat.le_of_lt hns4.lt) c

/-- a made error -/
def Made (h h' : Heap) (e C : Addr) (fus : List (Str × Value)) : Prop := (∀ b o, h.get? b = some o → h'.get? b = some o) ∧ h.objs.size ≤ e ∧ ∃ (oe : Obj) (vs : Array Value) (dd : Option Addr),
  h'.get? e = some oe ∧ oe.cls = .ref C ∧ oe.dict = dd ∧ oe.data = .fields vs ∧ vs[1]? = some .none ∧ (fus = [] ∧ dd = none ∨ ∃ dx, fus ≠ [] ∧ dd = some dx ∧ h.objs.size ≤ dx ∧ dx ≠ e ∧ h'.Ns1 dx (fmap fus fun _ => none))
theorem err_made (T : ErrC prog K mg C xn st fs) {s : Shared} {us : List Value} (X : K.In s.heap) (G : s.heap.Ns mainGlobals mg) (Bt : Blt s.heap) (lim : s.heap.NoLimit) (hroom : A.depth + 1 < recursionLimit) (hl : us.length = fs.length) (hz : fs.length < 1000)
    (hq : ∀ h' tk e, Made s.heap h' e C (fs.zip us) → R (.ok (.ret (.ref e))) { s with heap := h', toks := tk }) : codeAny (model prog w) A (.call (.ref C) ⟨us, []⟩) R s := by
  obtain ⟨fI, hi, ht, hinit⟩ := err_init (w := w) T
  obtain ⟨nm, q, N, bs, bm, sn, sub, ab, col, dd, k0, k1, k2, k3, k5, hC, hbm⟩ := T.cls
  obtain ⟨hp, g, dr, tk, os⟩ := s
  have k : ∀ b o, hp.get? b = some o → ((hp.push (kdv_tup us)).push (excO C hp.objs.size)).get? b = some o := fun b o e => Heap.get?_push_of_some _ (Heap.get?_push_of_some _ e)
  have hget : ((hp.push (kdv_tup us)).push (excO C hp.objs.size)).get? (hp.objs.size + 1) = some (excO C hp.objs.size) := by heap_get
  have hnx : K.lookup (hp.objs.size + 1) = none := by
    cases e : K.lookup (hp.objs.size + 1) with
    | none => rfl
    | some o =>
      have z : hp.get? (hp.objs.size + 1) = some o := X _ _ e
      exact absurd (Nat.lt_of_succ_lt (Heap.lt_size z)) (Nat.lt_irrefl _)
  obtain ⟨mb, hmb, hbb⟩ := Bt
  refine call_own PySem.F.excBase_ValueError (fun X => refsVE_contains X bm hbm) (X _ _ hC) (looks_findIn X hi) (fun self => bind_fn X self ht) (by rw [sizeLine_eq]; omega) ?_
  refine hinit _ _ ⟨(hp.push (kdv_tup us)).push (excO C hp.objs.size), g, dr, tk, os⟩ (hp.objs.size + 1) hp.objs.size us (X.keeps k) (G.keeps k) ⟨mb, hmb.keeps k, hbb⟩ (lim.keeps k) hget hnx ?_ hl hz fun h' tk' L => ?_
  · show A.depth + 1 < recursionLimit
    exact hroom
  · obtain ⟨l1, t1, dd, l2, l3⟩ := L
    have old : ∀ b o, hp.get? b = some o → h'.get? b = some o := fun b o e => l1 b o (Nat.ne_of_lt (Nat.lt_succ_of_lt (Heap.lt_size e))) (k b o e)
    refine ⟨rfl, hq h' tk' (hp.objs.size + 1) ⟨old, Nat.le_succ _, _, _, dd, l2, rfl, rfl, rfl, rfl, l3.imp_right fun ⟨dx, a, b, c, e⟩ => ⟨dx, a, b, ?_, e⟩⟩⟩
    have dn := c
    rw [Heap.size_push, Heap.size_push] at dn
    exact Nat.le_trans (Nat.le_trans (Nat.le_succ _) (Nat.le_succ _)) dn
end
theorem fmap_get : ∀ (l : List (Str × Value)) (m : Str → Option Value) (f : Str), (l.map (·.1)).Nodup → fmap l m f = (match l.lookup f with | some u => some u | none => m f)
  | [], m, f, _ => rfl
  | (g, v) :: l, m, f, nd => by
    have nd' := List.nodup_cons.mp nd
    show fmap l (fun y => if y = g then some v else m y) f = _
    rw [fmap_get l _ f nd'.2]
    by_cases e : f = g
    · subst e
      have hn : l.lookup f = none := by
        cases q : l.lookup f with
        | none => rfl
        | some u => exact absurd (List.mem_map_of_mem (f := (·.1)) (PySem.mem_of_lookup q)) nd'.1
      simp [List.lookup, hn]
    · have hb : (f == g) = false := beq_eq_false_iff_ne.mpr e
      simp only [List.lookup, hb, if_neg e]
end Er

/-! ### own errors as expressions and statements -/
section
open PySem L2
open PySem.W (Frag)
open Er
/-- an error C(..) with the fields fs is made -/
def tMkE (C : Addr) (fs : List Str) (ta : TA) : L2.St → Hp → XK → Prop := fun σ H Q => ta σ H fun vs H1 => vs.length = fs.length ∧ (fs = [] → Q (.ref C) none H1) ∧ (fs ≠ [] → ∀ d, H1 d = none → Q (.ref C) (some d) (upd H1 d (.xd (fs.zip vs))))
theorem lookup_zip : ∀ {fs : List Str} {vs : List V} {us : List Value}, Vals vs us → ∀ f, RelO ((fs.zip vs).lookup f) ((fs.zip us).lookup f)
  | [], _, _, _, _ => trivial
  | _ :: _, _, _, .nil, _ => trivial
  | g :: fs, _, _, .cons r rs, f => by
    simp only [List.zip_cons_cons, List.lookup]
    by_cases h : (f == g) = true
    · rw [h]; exact r
    · rw [Bool.eq_false_iff.mpr h]; exact lookup_zip rs f
section
variable {X : Cx} {C : Addr} {xn : Str} {st : Stmt} {fs : List Str} {k : Nat}
theorem run_err {pins : List (Addr × Obj)} {σ : L2.St} {H : Hp} {s : Shared} {Q : XK} {us : List Value} {vs : List V} (T : ErrC X.prog X.K X.mg C xn st fs) (hr : Room k X.A) (hz : fs.length < 1000) (I : Inv X pins σ H s) (r : Vals vs us) (hl : vs.length = fs.length)
    (h0 : fs = [] → Q (.ref C) none H) (h1 : fs ≠ [] → ∀ d, H d = none → Q (.ref C) (some d) (upd H d (.xd (fs.zip vs)))) : wpAny (model X.prog X.w) X.A (call (.ref C) us) (MkP X pins σ Q) X.xe s := by
  have hlim := I.nolimit
  have hlu : us.length = fs.length := by rw [← r.length]; exact hl
  have bt : Blt s.heap := by
    obtain ⟨mb, h1, h2⟩ := I.mod.blt
    exact ⟨mb, h1.keeps I.bk, h2⟩
  have hkin := I.kIn
  have hG := I.mod.glob.keeps I.bk
  obtain ⟨hp, g, dr, tk, os⟩ := s
  refine wpAny_call (err_made T hkin hG bt hlim (by have := hr.dp; omega) hlu hz fun h' tk' e M => ?_)
  show MkP X pins σ Q (.ref e) ⟨h', g, dr, tk', os⟩
  obtain ⟨keep, big, oe, fv, dd, hoe, hc, hd, hdat, hf1, hcase⟩ := M
  obtain ⟨G', g1, g2⟩ := restrict h' fun b => decide (b ≠ e)
  have gk : ∀ b, b ≠ e → G'.get? b = h'.get? b := fun b hb => g1 b (decide_eq_true hb)
  have ge : G'.get? e = none := g2 e (by simp)
  have old : ∀ b o, hp.get? b = some o → G'.get? b = some o := fun b o q => (gk b (Nat.ne_of_lt (Nat.lt_of_lt_of_le (Heap.lt_size q) big))).trans (keep b o q)
  have up : ∀ b o, G'.get? b = some o → h'.get? b = some o := fun b o q => by
    by_cases hb : b = e
    · rw [hb, ge] at q; cases q
    · exact (gk b hb).symm.trans q
  have fe : H e = none := I.hok.fresh big
  rcases hcase with ⟨hn, rfl⟩ | ⟨d, hn, rfl, dbig, dne, hns⟩
  · have e0 : fs = [] := by
      cases fs with
      | nil => rfl
      | cons f fs =>
        cases us with
        | nil => simp at hlu
        | cons u us => simp at hn
    exact ⟨e, oe, fv, ⟨G', g, dr, tk', os⟩, H, .ref C, none, rfl, I.kept (h' := G') (t' := tk') old, up, ge, hoe, ⟨hc, hd⟩, hdat, hf1, fe, rfl, I.bare, raises_own T.exC T.tyC, h0 e0⟩
  · have e0 : fs ≠ [] := by
      rintro rfl
      exact hn rfl
    have ob : ObjOk X.prog X.w (upd H d (.xd (fs.zip vs))) G' d (.xd (fs.zip vs)) := ⟨_, hns.at (fun o q => (gk d dne).trans q), fun f => by
      rw [fmap_get _ _ _ (by rw [map_fst_zip hlu.symm]; exact (List.nodup_cons.mp T.nd).2)]
      have z := lookup_zip (fs := fs) r f
      cases q : (fs.zip us).lookup f with
      | none => rw [q] at z; exact z
      | some u => rw [q] at z; exact z⟩
    have J : Inv X pins σ (upd H d (.xd (fs.zip vs))) ⟨G', g, dr, tk', os⟩ := I.laid (t' := tk') old dbig ob
    refine ⟨e, oe, fv, ⟨G', g, dr, tk', os⟩, _, .ref C, some d, rfl, J, up, ge, hoe, ⟨hc, hd⟩, hdat, hf1, ?_, rfl, I.bare, raises_own T.exC T.tyC, h1 e0 d (I.hok.fresh dbig)⟩
    rw [upd_ne (Ne.symm dne)]
    exact fe
theorem pmk_err {a : Expr} {as : List Expr} {ta : TA} {p pos : Pos} (T : ErrC X.prog X.K X.mg C xn st fs) (hr : Room k X.A) (hz : fs.length < 1000) (hg : Gl X xn) (ha : PA X (a :: as) ta) (hdb : (xn == ("__debug__" : Str)) = false := by decide)
    (he : starEach (a :: as) X.env = (false, eval a X.env) :: starEach as X.env := by rfl) (hpl : (backTo pos (starEach as X.env)).any (·.1) = false := by rfl) : PMk X (.Call (.Name xn p) (a :: as) [] pos) (tMkE C fs ta) := by
  intro pins s σ H Q I h
  refine wpAny_Call_Name_kw (ld_glob I hg T.gC ?_ hdb)
  refine PySem.W.callWith_K (h₀ := X.base) I.ok.mod.kin T.kC (thn (ha.run pos pins s σ H _ I h) fun us s1 hh => ?_) he hpl
  obtain ⟨vs, H1, I1, r1, e1, e2, e3⟩ := hh
  exact ⟨I1.kIn, run_err T hr hz I1 r1 e1 e2 e3⟩
theorem pmk_err0 {p pos : Pos} (T : ErrC X.prog X.K X.mg C xn st fs) (hr : Room k X.A) (hz : fs.length < 1000) (hg : Gl X xn) (hdb : (xn == ("__debug__" : Str)) = false := by decide) : PMk X (.Call (.Name xn p) [] [] pos) (tMkE C fs tNil) := by
  intro pins s σ H Q I h
  refine wpAny_Call_Name_kw (ld_glob I hg T.gC ?_ hdb)
  obtain ⟨e1, e2, e3⟩ := h
  exact PySem.W.callWith_K0 I.kIn T.kC (run_err T hr hz I .nil e1 e2 e3)
/-- raise C(..) -/
def tRaiseE (C : Addr) (fs : List Str) (W : WX) (ta : TA) : TS := fun _ σ H => tMkE C fs ta σ H fun cls d H' => W cls d σ H'
theorem ps_raiseE {a : Expr} {as : List Expr} {ta : TA} {W : WX} {p pos pos2 : Pos} (hc : X.calm = true) (T : ErrC X.prog X.K X.mg C xn st fs) (hr : Room k X.A) (hz : fs.length < 1000) (tk : Takes X W) (hg : Gl X xn) (ha : PA X (a :: as) ta) (hdb : (xn == ("__debug__" : Str)) = false := by decide)
    (he : starEach (a :: as) X.env = (false, eval a X.env) :: starEach as X.env := by rfl) (hpl : (backTo pos (starEach as X.env)).any (·.1) = false := by rfl) :
    PS X (.Raise (some (.Call (.Name xn p) (a :: as) [] pos)) none pos2) (tRaiseE C fs W ta) := ps_raise hc tk (pmk_err T hr hz hg ha hdb he hpl)
theorem ps_raiseE0 {W : WX} {p pos pos2 : Pos} (hc : X.calm = true) (T : ErrC X.prog X.K X.mg C xn st fs) (hr : Room k X.A) (hz : fs.length < 1000) (tk : Takes X W) (hg : Gl X xn) (hdb : (xn == ("__debug__" : Str)) = false := by decide) :
    PS X (.Raise (some (.Call (.Name xn p) [] [] pos)) none pos2) (tRaiseE C fs W tNil) := ps_raise hc tk (pmk_err0 T hr hz hg hdb)
end
end

/-! ### calls of defs that may raise -/
section
open PySem L2
open PySem.W (Frag)
variable {X : Cx} {k : Nat} {x : Str} {ps : List Str} {sp : Sp} {p pos : Pos} {e : Expr} {es : List Expr} {t : TA} {W : WX}
theorem pe_callX (c : Callee X.prog X.w X.K X.mg X.base (L2.CX X.prog X.w) k x ps sp) (hr : Room k X.A) (tk : Takes X W) (hg : Gl X x) (ha : PA X (e :: es) t) (hdb : (x == ("__debug__" : Str)) = false := by decide)
    (he : starEach (e :: es) X.env = (false, eval e X.env) :: starEach es X.env := by rfl) (hpl : (backTo pos (starEach es X.env)).any (·.1) = false := by rfl) : PE X (.Call (.Name x p) (e :: es) [] pos) (tCallS sp (WE W) t) := by
  obtain ⟨f, fd, h1, h2, h3, h4⟩ := c.ex
  exact pe_callS h3 hr hg h1 h2 h4 (fun σ => passAt tk σ) ha hdb he hpl
/-- .. where it does not raise -/
theorem pe_callX0 (c : Callee X.prog X.w X.K X.mg X.base (L2.CX X.prog X.w) k x ps sp) (hr : Room k X.A) (hg : Gl X x) (ha : PA X (e :: es) t) (hdb : (x == ("__debug__" : Str)) = false := by decide)
    (he : starEach (e :: es) X.env = (false, eval e X.env) :: starEach es X.env := by rfl) (hpl : (backTo pos (starEach es X.env)).any (·.1) = false := by rfl) : PE X (.Call (.Name x p) (e :: es) [] pos) (tCall sp [] E0 t) := by
  obtain ⟨f, fd, h1, h2, h3, h4⟩ := c.ex
  exact pe_call h3 hr hg h1 h2 h4 .nil passL ha hdb he hpl
end

/-! ### errors as data -/
section
open PySem L2
open PySem.W (Frag)
structure Err : Type 1 where
  C : Addr
  fl : Flds
def ERep (B : Hp) (cls : Value) (d : Option Addr) (er : Err) : Prop := cls = .ref er.C ∧ ((er.fl = [] ∧ d = none) ∨ ∃ dd fs, er.fl ≠ [] ∧ d = some dd ∧ B dd = some (.xd fs) ∧ FRep B (fun f => fs.lookup f) er.fl)
theorem ERep.mono {B B' : Hp} {cls : Value} {d : Option Addr} {er : Err} (e : Ex B B') (h : ERep B cls d er) : ERep B' cls d er :=
  ⟨h.1, h.2.imp_right fun ⟨dd, fs, a, b, c, q⟩ => ⟨dd, fs, a, b, e _ _ c, q.mono e⟩⟩
/-- the error that a suite holds at a -/
def tXc (a : Addr) (cls : Value) (d : Option Addr) (er : Err) : Ty Unit := ⟨fun B v _ => v = .ref a ∧ ERep B cls d er, fun e ⟨h1, h2⟩ => ⟨h1, h2.mono e⟩⟩
/-- an error of xp reaches W -/
def Wish (K : Frag) (w : Wd) (xp : Err → NK) (W : WX) : Prop := ∀ cls d er n Γ σ B H, xp er n Γ → Ok K w n Γ σ B H → ERep B cls d er → W cls d σ H
inductive FVals (B : Hp) : Flds → List V → Prop
  | nil : FVals B [] []
  | cons {f : Str} {e : Dt} {v : V} {fl : Flds} {vs : List V} : e.t.rep B v e.x → FVals B fl vs → FVals B ((f, e) :: fl) (v :: vs)
theorem FVals.len {B : Hp} {fl : Flds} {vs : List V} (h : FVals B fl vs) : fl.length = vs.length := by
  induction h with
  | nil => rfl
  | cons _ _ ih => simp [ih]
theorem FVals.mono {B B' : Hp} {fl : Flds} {vs : List V} (e : Ex B B') (h : FVals B fl vs) : FVals B' fl vs := by
  induction h with
  | nil => exact .nil
  | @cons f d v fl vs r _ ih => exact .cons (d.t.mono e r) ih
/-- the written fields of an error -/
def WpFs (K : Frag) (w : Wd) (n : Option Nat) (Γ : Env) (fs : List Str) (ta : TA) (k : Flds → NK) : Prop := ∀ σ B H, Ok K w n Γ σ B H → ∀ Q : List V → Hp → Prop,
  (∀ fl vs n' Γ' B' H', k fl n' Γ' → Ex B B' → Ok K w n' Γ' σ B' H' → fl.map (·.1) = fs → FVals B' fl vs → Q vs H') → ta σ H Q
section
variable {K : Frag} {w : Wd} {n : Option Nat} {Γ Γ' : Env} {α β γ δ ρ A : Type} {t : Ty α} {u : Ty β} {ta tb te : TE} {tr : TA} {ts ts' : TS} {res : ρ → Ent} {nx bk ct : NK} {rt : ρ → Option Nat → Prop} {xp xo : Err → NK} {W : WX} {C : Addr} {fs : List Str}
theorem wf_nil {k : Flds → NK} (h : k [] n Γ) : WpFs K w n Γ [] tNil k := fun σ B H ok Q c => c [] [] n Γ B H h (Ex.refl _) ok rfl .nil
theorem wf_cons {f : Str} {k : Flds → NK} (h : WpE K w n Γ te t (fun x n Γ => WpFs K w n Γ fs tr (fun fl n Γ => k ((f, ⟨t, x⟩) :: fl) n Γ))) : WpFs K w n Γ (f :: fs) (tCons te tr) k := fun σ B H ok Q c =>
  h σ B H ok _ fun x v n1 Γ1 B1 H1 h1 e1 o1 r1 => h1 σ B1 H1 o1 _ fun fl vs n2 Γ2 B2 H2 h2 e2 o2 l2 p2 => c _ (v :: vs) n2 Γ2 B2 H2 h2 (e1.trans e2) o2 (by simp [l2]) (.cons (t.mono e2 r1) p2)
theorem frep_zip {B : Hp} : ∀ {fl : Flds} {vs : List V}, FVals B fl vs → FRep B (fun f => ((fl.map (·.1)).zip vs).lookup f) fl
  | _, _, .nil => FRep.nil fun _ => rfl
  | _, _, .cons (f := g) (e := e) (v := v) h r => (frep_zip r).cons h fun f => by
    by_cases z : f = g
    · subst z; simp [List.lookup]
    · have hb : (f == g) = false := beq_eq_false_iff_ne.mpr z
      simp only [List.map_cons, List.zip_cons_cons, List.lookup, hb, if_neg z]
theorem ws_raiseE (hW : Wish K w xp W) (h : WpFs K w n Γ fs tr (fun fl n Γ => xp ⟨C, fl⟩ n Γ)) : WpS K w n Γ (tRaiseE C fs W tr) res nx bk ct rt := fun σ B H ok D _ _ _ _ =>
  h σ B H ok _ fun fl vs n1 Γ1 B1 H1 h1 e1 o1 l1 p1 => by
    subst l1
    refine ⟨by rw [← p1.len]; simp, fun e => ?_, fun e d hd => ?_⟩
    · have hn : fl = [] := List.map_eq_nil_iff.mp e
      subst hn
      exact hW _ _ ⟨C, []⟩ n1 Γ1 σ B1 H1 h1 o1 ⟨rfl, .inl ⟨rfl, rfl⟩⟩
    · have hn : fl ≠ [] := fun z => e (by rw [z]; rfl)
      have g := Grow.new (o := .xd ((fl.map (·.1)).zip vs)) o1.ex hd
      exact hW _ _ ⟨C, fl⟩ n1 Γ1 σ _ _ h1 (o1.grow g) ⟨rfl, .inr ⟨d, _, hn, rfl, upd_same, (frep_zip (p1.mono g.b))⟩⟩
end

/-! ### what a def promises that may raise -/
structure FX (K : Frag) where
  A : Type
  args : TyA A
  ρ : Type
  res : ρ → Ent
  cost : Nat
  pre : A → Prop
  post : A → ρ → Prop
  xpost : A → Err → Prop
def FX.sp {K : Frag} (S : FX K) : Sp := fun vs H Q E => ∃ (d ca : Addr) (cs : List Int) (n : Option Nat) (B : Hp) (a : S.A), Ok K ⟨d, ca, cs, B, H⟩ n [] [] B H ∧ S.args.rep d B vs a ∧ S.pre a ∧ May S.cost n ∧
  (∀ x v n' B' H', S.post a x → Costs S.cost n n' → Ex B B' → Ok K ⟨d, ca, cs, B, H⟩ n' [] [] B' H' → SlotOk ⟨d, ca, cs, B, H⟩ B' H' (S.res x) (some (some v)) → Q v H') ∧
  ∀ er cls dd n' B' H', S.xpost a er → Costs S.cost n n' → Ex B B' → Ok K ⟨d, ca, cs, B, H⟩ n' [] [] B' H' → ERep B' cls dd er → E cls dd H'
section
variable {K : Frag} {w : Wd} {n : Option Nat} {Γ Γ' : Env} {α β γ δ ρ A : Type} {t : Ty α} {u : Ty β} {ta tb te : TE} {tr : TA} {ts ts' : TS} {res : ρ → Ent} {nx bk ct : NK} {rt : ρ → Option Nat → Prop} {xp xo : Err → NK} {W : WX} {C : Addr} {fs : List Str}
theorem fx_len {S : FX K} [E : Ents S.args] {vs : List V} {H : Hp} {Q : VK} {X : XK} (h : S.sp vs H Q X) : vs.length = E.len := by
  obtain ⟨d, ca, cs, n, B, a, _, r, _⟩ := h
  exact (E.ok r).2.1
theorem fx_body {S : FX K} [E : Ents S.args] {N : List Str} {vs : List V} {H : Hp} {Q : VK} {X : XK} {t : TS} (hN : E.len ≤ N.length) (hsp : S.sp vs H Q X)
    (body : ∀ (w : Wd) (n : Option Nat) (a : S.A), S.pre a → May S.cost n → Wish K w (fun er n' _ => S.xpost a er ∧ CLe S.cost n n') (fun cls d _ H => X cls d H) →
      WpS K w n (E.ents a ++ List.replicate (N.length - E.len) .no) t S.res
      (fun n' _ => ∃ x, S.post a x ∧ S.res x = .im tN () ∧ CLe S.cost n n') (fun _ _ => False) (fun _ _ => False) (fun x n' => S.post a x ∧ CLe S.cost n n')) :
    t { nx := fun _ H' => Q .non H', rt := Q } (L2.start N vs) H := by
  obtain ⟨d, ca, cs, n, B, a, o, r, hp, hm, q, qx⟩ := hsp
  obtain ⟨l1, l2, l3⟩ := E.ok r
  have ok0 : Ok K ⟨d, ca, cs, B, H⟩ n (E.ents a ++ List.replicate (N.length - E.len) .no) (L2.start N vs) B H := by
    have noown : ∀ (i : Nat) e, (E.ents a ++ List.replicate (N.length - E.len) Ent.no)[i]? = some e → ∀ s a, ¬ e.owns s a := fun i e z => by
      by_cases hi : i < (E.ents a).length
      · rw [List.getElem?_append_left hi] at z
        exact (l3 H ⟨d, ca, cs, B, H⟩ rfl i _ z).1
      · rw [List.getElem?_append_right (by omega), List.getElem?_replicate] at z
        split at z
        · cases z; exact fun _ _ y => y
        · cases z
    refine ⟨o.ex, o.ex0, o.nw, o.kp, o.hd, o.hh, o.pn, ?_, fun i e z => ?_, fun i j e e' a _ z _ oi => absurd oi (noown i e z _ a)⟩
    · unfold L2.start; simp [l1, l2]
    · by_cases hi : i < (E.ents a).length
      · rw [List.getElem?_append_left hi] at z
        have := (l3 H ⟨d, ca, cs, B, H⟩ rfl i _ z).2
        unfold L2.start
        rw [List.getElem?_append_left (by simpa [← l1] using hi)]
        exact this
      · rw [List.getElem?_append_right (by omega), List.getElem?_replicate] at z
        split at z
        · cases z; trivial
        · cases z
  have fin : ∀ {n' : Option Nat} {B' H' : Hp}, CLe S.cost n n' → Ok K ⟨d, ca, cs, B, H⟩ n' [] [] B' H' → ∃ n2, Costs S.cost n n2 ∧ Ok K ⟨d, ca, cs, B, H⟩ n2 [] [] B' H' := fun {n' B' H'} c o1 => by
    rcases c with ⟨c0, rfl⟩ | ⟨m, m', rfl, rfl, hle⟩
    · exact ⟨n', .inl ⟨c0, rfl⟩, o1⟩
    · exact ⟨some (m + S.cost), .inr ⟨m, rfl, rfl⟩, o1.le hle⟩
  refine body ⟨d, ca, cs, B, H⟩ n a hp hm (fun cls dd er n' Γ' σ' B' H' ⟨hx, hc⟩ o' r' => ?_) (L2.start N vs) B H ok0 _ (fun n' Γ' σ' B' H' ⟨x, hx, hr, hc⟩ e o' => ?_) (fun _ _ _ _ _ h _ _ => h.elim) (fun _ _ _ _ _ h _ _ => h.elim) (fun x v n' B' H' ⟨hx, hc⟩ e o' s => ?_)
  · obtain ⟨n2, c2, o2⟩ := fin hc o'.nil
    exact qx er cls dd n2 B' H' hx c2 o'.ex0 o2 r'
  · obtain ⟨n2, c2, o2⟩ := fin hc o'.nil
    exact q x .non n2 B' H' hx c2 e o2 (by rw [hr]; exact ⟨.non, rfl, rfl⟩)
  · obtain ⟨n2, c2, o2⟩ := fin hc o'
    exact q x v n2 B' H' hx c2 e o2 s
/-- a call that gives a datum, or raises -/
theorem we_callE {S : FX K} {t : Ty S.ρ} {k : S.ρ → NK} (hW : Wish K w xp W) (hres : S.res = fun x => .im t x)
    (h : WpA K w n Γ tr S.args (fun a n Γ => S.pre a ∧ May S.cost n ∧ (∀ x n', S.post a x → Costs S.cost n n' → k x n' Γ) ∧ ∀ er n', S.xpost a er → Costs S.cost n n' → xp er n' Γ)) : WpE K w n Γ (tCallS S.sp (WE W) tr) t k := fun σ B H ok Q c =>
  h σ B H ok _ fun a vs n1 Γ1 B1 H1 ⟨hp, hm, q, qx⟩ e o r => by
    refine ⟨w.d, w.ca, w.cs, n1, B1, a, o.entry, r, hp, hm, fun x v n' B' H' hx hc e' o' s => ?_, fun er cls dd n' B' H' hx hc e' o' r' => hW cls dd er n' Γ1 σ B' H' (qx er n' hx hc) (o.back o') r'⟩
    rw [hres] at s
    obtain ⟨v', h1, h2⟩ := s
    cases h1
    exact c x v n' Γ1 B' H' (q x n' hx hc) (e.trans e') (o.back o') h2
/-- a call that gives a datum and does not raise here -/
theorem we_callE0 {S : FX K} {E : XK} {t : Ty S.ρ} {k : S.ρ → NK} (hres : S.res = fun x => .im t x)
    (h : WpA K w n Γ tr S.args (fun a n Γ => S.pre a ∧ May S.cost n ∧ (∀ x n', S.post a x → Costs S.cost n n' → k x n' Γ) ∧ ∀ er, ¬ S.xpost a er)) : WpE K w n Γ (tCall S.sp [] E tr) t k := fun σ B H ok Q c =>
  h σ B H ok _ fun a vs n1 Γ1 B1 H1 ⟨hp, hm, q, qx⟩ e o r => by
    rw [List.append_nil]
    refine ⟨w.d, w.ca, w.cs, n1, B1, a, o.entry, r, hp, hm, fun x v n' B' H' hx hc e' o' s => ?_, fun er cls dd n' B' H' hx hc e' o' r' => absurd hx (qx er)⟩
    rw [hres] at s
    obtain ⟨v', h1, h2⟩ := s
    cases h1
    exact c x v n' Γ1 B' H' (q x n' hx hc) (e.trans e') (o.back o') h2

/-! ### try -/
/-- the world as seen from a later base -/
theorem Ok.late {σ : L2.St} {B H : Hp} (o : Ok K w n Γ σ B H) : Ok K { w with B0 := B } n Γ σ B H := ⟨o.ex, Ex.refl _, fun a u q => .inl q, o.kp, o.hd, o.hh, fun k e => (o.pn k e).cast rfl rfl rfl, o.ln, fun i e q => (o.sl i e q).keep (Ex.refl _) rfl fun a ha => by
  obtain ⟨u, h1, h2, h3⟩ := (o.sl i e q).owned ha
  exact ⟨rfl, h2, h3⟩, o.ds⟩
theorem Ok.early {σ σ' : L2.St} {B H B' H' : Hp} {n' : Option Nat} (o : Ok K w n Γ σ B H) (o' : Ok K { w with B0 := B } n' Γ' σ' B' H') : Ok K w n' Γ' σ' B' H' :=
  ⟨o'.ex, o.ex0.trans o'.ex0, fun a u q => by
    rcases o'.nw a u q with z | z
    · exact o.nw a u z
    · exact .inr z, o'.kp, o'.hd, o'.hh, fun k e => (o'.pn k e).cast rfl rfl rfl, o'.ln, fun i e q => (o'.sl i e q).keep (Ex.refl _) rfl fun a ha => by
    obtain ⟨u, h1, h2, h3⟩ := (o'.sl i e q).owned ha
    exact ⟨rfl, h2, h3⟩, o'.ds⟩
theorem Ok.unset {σ : L2.St} {B H : Hp} {i : Nat} (k : Ok K w n Γ σ B H) : Ok K w n (Γ.set i .no) (σ.set i none) B H := by
  refine ⟨k.ex, k.ex0, k.nw, k.kp, k.hd, k.hh, k.pn, by rw [List.length_set, List.length_set]; exact k.ln, fun j e he => ?_, k.ds_of fun x e hx => ?_⟩
  · rw [List.getElem?_set] at he
    by_cases z : i = j
    · subst z
      rw [if_pos rfl] at he
      split at he
      · cases he; trivial
      · cases he
    · rw [if_neg z] at he
      rw [List.getElem?_set, if_neg z]
      exact k.sl j e he
  · rw [List.getElem?_set] at hx
    by_cases z : i = x
    · subst z
      rw [if_pos rfl] at hx
      split at hx
      · cases hx; exact .inl fun a z => z
      · cases hx
    · rw [if_neg z] at hx
      rw [List.getElem?_set, if_neg z]
      exact .inr ⟨e, hx, fun a ha => ha⟩
/-- what a clause does with an error: takes it, or lets it by -/
def Clause (K : Frag) (c : Value) (er : Err) (P Q : Prop) : Prop := ∃ b, PySem.W.exmOne K (.ref er.C) c = some b ∧ (b = true → P) ∧ (b = false → Q)
theorem ws_tryAs {c : Value} {i : Nat} {tb : WX → TS} {tu : Addr → Value → Option Addr → TS} {Wout : WX} (hWo : Wish K w xo Wout)
    (hb : ∀ w' W, Wish K w' xp W → WpS K w' n Γ (tb W) res nx bk ct rt)
    (hx : ∀ er n Γ, xp er n Γ → Clause K c er (∀ w' a cls d, cls = .ref er.C → SetE (Γ.set i (.im (tXc a cls d er) ())) fun Γ => WpS K w' n Γ (tu a cls d) res (fun n Γ => SetE (Γ.set i .no) (nx n)) (fun n Γ => SetE (Γ.set i .no) (bk n)) (fun n Γ => SetE (Γ.set i .no) (ct n)) rt) (xo er n Γ)) :
    WpS K w n Γ (fun D σ H => tb (wAs K c i tu Wout D) D σ H) res nx bk ct rt := fun σ B H ok D a b c' d => by
  refine hb { w with B0 := B } _ (fun cls dd er n1 Γ1 σ1 B1 H1 hxp o1 r1 => ?_) σ B H ok.late D (fun n' Γ' σ' B' H' q e o' => a n' Γ' σ' B' H' q e (ok.early o')) (fun n' Γ' σ' B' H' q e o' => b n' Γ' σ' B' H' q e (ok.early o')) (fun n' Γ' σ' B' H' q e o' => c' n' Γ' σ' B' H' q e (ok.early o'))
    (fun x v n' B' H' q e o' s => d x v n' B' H' q e (ok.early o') ?_)
  · obtain ⟨bb, h1, h2, h3⟩ := hx er n1 Γ1 hxp
    have hc := r1.1
    refine ⟨bb, by rw [hc]; exact h1, fun hb1 ad had => ?_, fun hb1 => hWo cls dd er n1 Γ1 σ1 B1 H1 (h3 hb1) (ok.early o1) r1⟩
    have o2 := o1.setIm (i := i) (t := tXc ad cls dd er) (x := ()) (v := .ref ad) ⟨rfl, r1⟩
    refine h2 hb1 { w with B0 := B } ad cls dd hc (σ1.set i (some (.ref ad))) B1 H1 o2 _ (fun n' Γ' σ' B' H' q e o' => ?_) (fun n' Γ' σ' B' H' q e o' => ?_) (fun n' Γ' σ' B' H' q e o' => ?_) (fun x v n' B' H' q e o' s => ?_)
    · exact a n' _ _ B' H' q o'.ex0 (ok.early o').unset
    · exact b n' _ _ B' H' q o'.ex0 (ok.early o').unset
    · exact c' n' _ _ B' H' q o'.ex0 (ok.early o').unset
    · refine d x v n' B' H' q o'.ex0 (ok.early o') (s.keep (Ex.refl _) rfl fun a ha => ?_)
      obtain ⟨u, h1, h2, h3⟩ := s.owned ha
      exact ⟨rfl, h2, h3⟩
  · refine s.keep (Ex.refl _) rfl fun a ha => ?_
    obtain ⟨u, h1, h2, h3⟩ := s.owned ha
    exact ⟨rfl, h2, h3⟩
theorem ws_tryOnly {c : Value} {tb : WX → TS} {tu : Addr → Value → Option Addr → TS} {Wout : WX} (hWo : Wish K w xo Wout)
    (hb : ∀ w' W, Wish K w' xp W → WpS K w' n Γ (tb W) res nx bk ct rt)
    (hx : ∀ er n Γ, xp er n Γ → Clause K c er (∀ w' a cls d, cls = .ref er.C → WpS K w' n Γ (tu a cls d) res nx bk ct rt) (xo er n Γ)) :
    WpS K w n Γ (fun D σ H => tb (wOnly K c tu Wout D) D σ H) res nx bk ct rt := fun σ B H ok D a b c' d => by
  refine hb { w with B0 := B } _ (fun cls dd er n1 Γ1 σ1 B1 H1 hxp o1 r1 => ?_) σ B H ok.late D (fun n' Γ' σ' B' H' q e o' => a n' Γ' σ' B' H' q e (ok.early o')) (fun n' Γ' σ' B' H' q e o' => b n' Γ' σ' B' H' q e (ok.early o')) (fun n' Γ' σ' B' H' q e o' => c' n' Γ' σ' B' H' q e (ok.early o'))
    (fun x v n' B' H' q e o' s => d x v n' B' H' q e (ok.early o') ?_)
  · obtain ⟨bb, h1, h2, h3⟩ := hx er n1 Γ1 hxp
    have hc := r1.1
    refine ⟨bb, by rw [hc]; exact h1, fun hb1 ad had => ?_, fun hb1 => hWo cls dd er n1 Γ1 σ1 B1 H1 (h3 hb1) (ok.early o1) r1⟩
    refine h2 hb1 { w with B0 := B } ad cls dd hc σ1 B1 H1 o1 _ (fun n' Γ' σ' B' H' q e o' => ?_) (fun n' Γ' σ' B' H' q e o' => ?_) (fun n' Γ' σ' B' H' q e o' => ?_) (fun x v n' B' H' q e o' s => ?_)
    · exact a n' _ _ B' H' q o'.ex0 (ok.early o')
    · exact b n' _ _ B' H' q o'.ex0 (ok.early o')
    · exact c' n' _ _ B' H' q o'.ex0 (ok.early o')
    · refine d x v n' B' H' q o'.ex0 (ok.early o') (s.keep (Ex.refl _) rfl fun a ha => ?_)
      obtain ⟨u, h1, h2, h3⟩ := s.owned ha
      exact ⟨rfl, h2, h3⟩
  · refine s.keep (Ex.refl _) rfl fun a ha => ?_
    obtain ⟨u, h1, h2, h3⟩ := s.owned ha
    exact ⟨rfl, h2, h3⟩
/-- a field of the error that a suite holds -/
theorem we_xf {a : Addr} {cls : Value} {d : Option Addr} {er : Err} {f : Str} {i : Nat} {x : α} {k : α → NK} (hi : Γ[i]? = some (.im (tXc a cls d er) ())) (hC : er.C = C) (hl : er.fl.lookup f = some ⟨t, x⟩) (q : k x n Γ) : WpE K w n Γ (tXf a cls d C f (tVar i)) t k := fun σ B H ok Q c => by
  obtain ⟨v, h1, rfl, hc, hcase⟩ := ok.sl i _ hi
  refine ⟨_, h1, rfl, by rw [hc, hC], ?_⟩
  rcases hcase with ⟨hn, _⟩ | ⟨dd, fs, hn, hd, hB, hr⟩
  · rw [hn] at hl; cases hl
  · obtain ⟨v, h2, h3⟩ := (hr f).2 _ hl
    exact ⟨dd, fs, v, hd, ok.ex _ _ hB, h2, c x v n Γ B H q (Ex.refl _) ok h3⟩
end
end
end TL

/-! # TL: a + b.replace(y, z) of written texts; isinstance of a caught error; own methods that raise -/
namespace TL
open PySem L2
open PySem.W (Frag)
/-! ### a + x.replace(y, z) -/
theorem replace_S {a c : List Nat} {d : Nat} (hd : d < 256) (ha : a ≠ []) : Txt.replace (SX.S a) (SX.S [d]) (SX.S c) = SX.S (joinL c (spl [d] 0 [] a)) := by
  have e1 : Txt.join (SX.S c) (Txt.split (SX.S a) (SX.S [d])) = SX.S (joinL c (spl [d] 0 [] a)) := by
    rw [SX.split_S (by simp) (by simpa using hd), SX.join_S]
  rw [← e1]
  unfold Txt.replace Txt.split Txt.join
  have hk : Builtin.Str.strKind (SX.S [d]) = 1 := by
    unfold Builtin.Str.strKind
    have : ((SX.S [d]).cps.all (· < 256)) = true := by simp [SX.S, hd]
    rw [if_pos this]
  have hk2 : 1 ≤ Builtin.Str.strKind (SX.S a) := by
    unfold Builtin.Str.strKind
    repeat (first | (split) | omega)
  have hz : ((SX.S [d]).length == 0 && (SX.S c).length == 0) = false := by rw [SX.S_len]; rfl
  cases a with
  | nil => exact absurd rfl ha
  | cons x r =>
    have h1 : ¬ (decide ((SX.S (x :: r)).length < (SX.S [d]).length) || decide (Builtin.Str.strKind (SX.S (x :: r)) < Builtin.Str.strKind (SX.S [d]))) = true := by
      rw [SX.S_len, SX.S_len, hk]
      simp only [List.length_cons, List.length_nil, Bool.or_eq_true, decide_eq_true_eq]
      omega
    rw [if_neg h1, hz, Bool.or_false]
    split
    · rfl
    · rfl
section
variable {X : Cx} {pins : List (Addr × Obj)} {σ : L2.St} {H : Hp} {s : Shared}
open PyProof.Rows
def tCatRepl (i : Nat) (a y z : Str) : TE := fun σ H Q => ∃ x, σ[i]? = some (some (.str x)) ∧ (y == z) = false ∧ x.length + (x.length + 1) * z.length ≤ 16777216 ∧ a.length + (Txt.replace x y z).length ≤ sizeLine ∧ Q (.str (a ++ Txt.replace x y z)) H
theorem pe_catRepl {i : Nat} {kx a y z : Str} {j0 j1 j2 : Nat} {p1 c0 c1 c2 apos pos pos2 : Pos} (hNk : X.N[i]? = some kx) (hvk : Vis X.env.scope kx) (hdk : (kx == ("__debug__" : Str)) = false := by decide) (hck : (kx == ("__classdict__" : Str)) = false := by decide)
    (hst : starEach [.Constant (.str y) j1 c1, .Constant (.str z) j2 c2] X.env = [(false, eval (.Constant (.str y) j1 c1) X.env), (false, eval (.Constant (.str z) j2 c2) X.env)] := by rfl)
    (hbase : attributeBase (.Name kx p1) "replace" X.env (eval (.Name kx p1) X.env) = eval (.Name kx p1) X.env := by rfl) (hline : (apos.endLine == pos.line) = true := by rfl) :
    PE X (.BinOp (.Constant (.str a) j0 c0) .Add (.Call (.Attribute (.Name kx p1) "replace" apos) [.Constant (.str y) j1 c1, .Constant (.str z) j2 c2] [] pos) pos2) (tCatRepl i a y z) := by
  refine ⟨fun pins s σ H Q I h => ?_⟩
  obtain ⟨x, hx, hyz, hb, hl, q⟩ := h
  refine wpAny_BinOp (wpAny_Constant_str ?_)
  have I1 := I.tok (s.toks + 1)
  refine PySem.Call_method2 hbase hst hline (raw_name hNk hvk I1 hx (fun v r => ?_) hdk hck)
  obtain ⟨tx, e⟩ := r
  subst e
  refine ⟨"str", _, F.plainAttrs_str, F.slot_str_replace, F.type_str_replace, typeIs_str _ _ _, (fun _ e => nomatch e), Calls.callWith_builtin rfl (Calls.evalArgs_plain (Calls.spliced_cons ?_))⟩
  refine wpAny_Constant_str (Calls.spliced_cons (wpAny_Constant_str (Calls.spliced_nil ?_)))
  refine PySem.SC.replace (by show s.toks + 1 ≠ 0; omega) (by show s.toks + 1 + 1 ≠ 0; omega) (by show s.toks + 1 ≠ s.toks + 1 + 1; omega) hyz hb fun t' k => ?_
  have I2 := I.tok k
  exact op_add_str pins _ σ H (.str a) (.str (Txt.replace x y z)) _ _ Q I2 ⟨_, rfl⟩ ⟨t', rfl⟩ ⟨a, _, rfl, rfl, hl, q⟩
end
section
variable {K : Frag} {w : Wd} {n : Option Nat} {Γ : Env} {α β γ δ ρ A : Type}
theorem we_catRepl {i : Nat} {x : List Nat} {sa sy sz : Str} {a c : List Nat} {d : Nat} {k : List Nat → NK} (ha : sa = SX.S a) (hy : sy = SX.S [d]) (hz : sz = SX.S c) (hd : d < 256) (hne : c ≠ [d]) (hx0 : x ≠ []) (hi : Γ[i]? = some (.im tX x)) (hx : x.length ≤ 1000) (hc : c.length ≤ 100) (hl : a.length + (joinL c (spl [d] 0 [] x)).length ≤ 100000)
    (q : k (a ++ joinL c (spl [d] 0 [] x)) n Γ) : WpE K w n Γ (tCatRepl i sa sy sz) tX k := fun σ B H ok Q cc => by
  obtain ⟨v, h1, h2⟩ := ok.sl i _ hi
  subst ha hy hz
  refine ⟨SX.S x, by rw [h1, h2], ?_, ?_, ?_, ?_⟩
  · rw [beq_eq_false_iff_ne]
    intro z
    exact hne (SX.S_inj z).symm
  · rw [SX.S_len, SX.S_len]
    have := Nat.mul_le_mul (show x.length + 1 ≤ 1001 by omega) hc
    omega
  · rw [replace_S hd hx0, SX.S_len, SX.S_len]; exact sz hl
  · rw [replace_S hd hx0, SX.S_cat]; exact cc _ _ n Γ B H q (Ex.refl _) ok rfl
end
/-! ### isinstance(e, T) of a caught error -/
def rIsX (K : Frag) (a : Addr) (cls : Value) (d : Option Addr) : List V → Hp → VK → Prop := fun xs H Q => ∃ (c : V) (cv : Value) (D : Addr) (b : Bool), xs = [.ref a, c] ∧ (∀ u, RelV c u → u = cv) ∧ cls = .ref D ∧ ExcC K D ∧ PySem.W.kitOne K (.ref D) cv = some b ∧
  (d = none ∨ ∃ dd fs, d = some dd ∧ H dd = some (.xd fs)) ∧ Q (.bl b) H
theorem call_isX {X : Cx} {a : Addr} {oe : Obj} {cls : Value} {d : Option Addr} {pn : List (Addr × Obj)} (hz : Zc cls d oe) (hf : ∃ vs, oe.data = .fields vs) : CallR (X.suite a ((a, oe) :: pn)) (.builtin "isinstance") (rIsX X.K a cls d) := by
  intro pins s σ H xs us Q I r h
  obtain ⟨c, cv, D, b, rfl, hcv, rfl, C, e, hd, q⟩ := h
  cases r with
  | cons rx rr =>
    cases rr with
    | cons rt rr =>
      cases rr
      cases rx
      have ec := hcv _ rt
      subst ec
      obtain ⟨hget, _⟩ := I.pin (a, oe) (List.mem_append.mpr (.inl List.mem_cons_self))
      obtain ⟨vs, hv⟩ := hf
      obtain ⟨od, J⟩ : ∃ od, PySem.W.InstAt s.heap a oe D od := by
        obtain ⟨oc, odd, oda, osl⟩ := oe
        obtain ⟨h1, h2⟩ := hz
        dsimp only at h1 h2 hv
        subst h1 h2 hv
        rcases hd with rfl | ⟨dd, fs, rfl, hx⟩
        · exact ⟨none, hget, rfl, rfl, trivial⟩
        · have ho : ObjOk X.prog X.w H s.heap dd (.xd fs) := I.hok dd _ hx
          obtain ⟨mA, ⟨o, _, _, ho, _⟩, _⟩ := ho
          exact ⟨some o, hget, rfl, rfl, ho⟩
      have hcl : (PySem.W.clsIn X.K D).isSome = true := by
        obtain ⟨cd, hc, _⟩ := PySem.W.any_some C.hd
        rw [hc]; rfl
      exact PySem.W.kia_one (PySem.W.kitx_exc hcl C.hg C.hk C.hs C.ha C.hn C.ht C.hm) I.kIn J e (fun z => nomatch z) fun tk => ⟨.bl b, H, I.kept (t' := tk) fun _ _ z => z, rfl, q⟩
/-- a class value, by its name -/
def tCls (c : Addr) : Ty Unit := ⟨fun _ v _ => v = .ref c, fun _ h => h⟩
section
variable {K : Frag} {w : Wd} {n : Option Nat} {Γ : Env} {α β γ δ ρ A : Type}
theorem kit_sub {D c : Addr} {b : Bool} (hD : PySem.W.typeIn K (.ref c) = some (.type "type")) (hc : (PySem.W.clsIn K c).isSome = true) (h : PySem.W.subIn K (.ref D) (.ref c) = some b) (hs : D = c → b = true) : PySem.W.kitOne K (.ref D) (.ref c) = some b := by
  unfold PySem.W.kitOne
  by_cases e : D = c
  · subst e
    rw [hs rfl, if_pos (by simp)]
  · rw [if_neg (by simpa using e)]
    unfold PySem.W.kitCls
    first
      | (rw [hD, hc]; exact h)
      | (simp [hD, hc, h])
end
end TL
namespace TL
open PySem L2
open PySem.W (Frag)
/-! ### try, by name -/
def tTryAs (K : Frag) (c : Value) (i : Nat) (tb : WX → TS) (ts : Addr → Value → Option Addr → TS) (Wout : WX) : TS := fun D σ H => tb (wAs K c i ts Wout D) D σ H
def tTryOnly (K : Frag) (c : Value) (tb : WX → TS) (ts : Addr → Value → Option Addr → TS) (Wout : WX) : TS := fun D σ H => tb (wOnly K c ts Wout D) D σ H
section
variable {X : Cx} {x n : Str} {c : Value} {i : Nat} {body suite : List Stmt} {b₀ : Stmt} {np pos pos' : Pos} {tb : WX → TS} {ts : Addr → Value → Option Addr → TS} {Wout : WX}
theorem ps_tryAsK (K : Frag) (hK : X.K = K) (hs : X.stack = X.env :: X.outer) (hf : X.env.frame = some X.env.locals) (hN : X.N.Nodup) (hi : X.N[i]? = some n) (hln : X.env.kindOf n = some .local) (hc : Names X x c) (tk : Takes X Wout)
    (hb : ∀ (W : WX) (pn : List (Addr × Obj)) (xe : Value → Shared → Prop), Takes (X.tr pn xe) W → PassesOwn (model X.prog X.w) X.A X.env xe → PSs (X.tr pn xe) body (tb W))
    (hsu : ∀ (a : Addr) (oe : Obj) (cls : Value) (d : Option Addr) (pn : List (Addr × Obj)), Zc cls d oe → (∃ vs, oe.data = .fields vs) → PSs (X.suite a ((a, oe) :: pn)) (b₀ :: suite) (ts a cls d)) :
    PS X (.Try body [.ExceptHandler (some (.Name x np)) (some n) (b₀ :: suite) pos'] [] [] pos) (tTryAs K c i tb ts Wout) := hK ▸ ps_try_as hs hf hN hi hln hc tk hb hsu
theorem ps_tryOnlyK (K : Frag) (hK : X.K = K) (hs : X.stack = X.env :: X.outer) (hf : X.env.frame = some X.env.locals) (hc : Names X x c) (tk : Takes X Wout)
    (hb : ∀ (W : WX) (pn : List (Addr × Obj)) (xe : Value → Shared → Prop), Takes (X.tr pn xe) W → PassesOwn (model X.prog X.w) X.A X.env xe → PSs (X.tr pn xe) body (tb W))
    (hsu : ∀ (a : Addr) (oe : Obj) (cls : Value) (d : Option Addr) (pn : List (Addr × Obj)), Zc cls d oe → (∃ vs, oe.data = .fields vs) → PSs (X.suite a ((a, oe) :: pn)) (b₀ :: suite) (ts a cls d)) :
    PS X (.Try body [.ExceptHandler (some (.Name x np)) none (b₀ :: suite) pos'] [] [] pos) (tTryOnly K c tb ts Wout) := hK ▸ ps_try_only hs hf hc tk hb hsu
end
section
variable {K : Frag} {w : Wd} {n : Option Nat} {Γ Γ' : Env} {α β γ δ ρ A : Type} {t : Ty α} {u : Ty β} {ta tb te : TE} {tr : TA} {ts ts' : TS} {res : ρ → Ent} {nx bk ct : NK} {rt : ρ → Option Nat → Prop} {xp xo : Err → NK} {W : WX} {C : Addr} {fs : List Str}
theorem Wish.none : Wish K w (fun _ _ _ => False) W := fun _ _ _ _ _ _ _ _ h => h.elim
theorem ws_tryA {c : Value} {i : Nat} {tb : WX → TS} {tu : Addr → Value → Option Addr → TS} {Wout : WX} (xp xo : Err → NK) (hWo : Wish K w xo Wout)
    (hb : ∀ w' W, Wish K w' xp W → WpS K w' n Γ (tb W) res nx bk ct rt)
    (hx : ∀ er n Γ, xp er n Γ → Clause K c er (∀ w' a cls d, cls = .ref er.C → SetE (Γ.set i (.im (tXc a cls d er) ())) fun Γ => WpS K w' n Γ (tu a cls d) res (fun n Γ => SetE (Γ.set i .no) (nx n)) (fun n Γ => SetE (Γ.set i .no) (bk n)) (fun n Γ => SetE (Γ.set i .no) (ct n)) rt) (xo er n Γ)) :
    WpS K w n Γ (tTryAs K c i tb tu Wout) res nx bk ct rt := ws_tryAs hWo hb hx
theorem ws_tryO {c : Value} {tb : WX → TS} {tu : Addr → Value → Option Addr → TS} {Wout : WX} (xp xo : Err → NK) (hWo : Wish K w xo Wout)
    (hb : ∀ w' W, Wish K w' xp W → WpS K w' n Γ (tb W) res nx bk ct rt)
    (hx : ∀ er n Γ, xp er n Γ → Clause K c er (∀ w' a cls d, cls = .ref er.C → WpS K w' n Γ (tu a cls d) res nx bk ct rt) (xo er n Γ)) :
    WpS K w n Γ (tTryOnly K c tb tu Wout) res nx bk ct rt := ws_tryOnly hWo hb hx
/-- the clause's class takes the error -/
theorem Clause.yes {c : Addr} {er : Err} {P Q : Prop} (x : XfC K c) (ht : PySem.W.typeIn K (.ref c) = some (.type "type")) (h : PySem.W.subIn K (.ref er.C) (.ref c) = some true) (p : P) : Clause K (.ref c) er P Q :=
  ⟨true, PySem.W.exm_ref x.exC x.hdC ht h, fun _ => p, fun z => Bool.noConfusion z⟩
theorem Clause.no {c : Addr} {er : Err} {P Q : Prop} (x : XfC K c) (ht : PySem.W.typeIn K (.ref c) = some (.type "type")) (h : PySem.W.subIn K (.ref er.C) (.ref c) = some false) (q : Q) : Clause K (.ref c) er P Q :=
  ⟨false, PySem.W.exm_ref x.exC x.hdC ht h, fun z => Bool.noConfusion z, fun _ => q⟩
/-- isinstance(e, T): e in slot i -/
theorem we_isX {a c D : Addr} {cls : Value} {d : Option Addr} {er : Err} {i : Nat} {b : Bool} {k : Bool → NK} (hi : Γ[i]? = some (.im (tXc a cls d er) ())) (hC : er.C = D) (x : ExcC K D) (hb : PySem.W.kitOne K (.ref D) (.ref c) = some b) (q : k b n Γ) :
    WpE K w n Γ (tCB (rIsX K a cls d) (tCons (tVar i) (tCons (tC (.ref c)) tNil))) tBo k := fun σ B H ok Q cc => by
  obtain ⟨v, h1, rfl, hc, hcase⟩ := ok.sl i _ hi
  refine ⟨_, h1, .ref c, .ref c, D, b, rfl, fun u hu => hu, by rw [hc, hC], x, hb, ?_, cc b _ n Γ B H q (Ex.refl _) ok rfl⟩
  rcases hcase with ⟨_, hd⟩ | ⟨dd, fs, _, hd, hB, _⟩
  · exact .inl hd
  · exact .inr ⟨dd, fs, hd, ok.ex _ _ hB⟩
end
theorem Costs.zero {n n' : Option Nat} (h : Costs 0 n n') : n' = n := by
  rcases h with ⟨_, h⟩ | ⟨m, h1, h2⟩
  · exact h
  · rw [h1, h2]; rfl
theorem call_isXK {X : Cx} (K : Frag) (hK : X.K = K) {a : Addr} {oe : Obj} {cls : Value} {d : Option Addr} {pn : List (Addr × Obj)} (hz : Zc cls d oe) (hf : ∃ vs, oe.data = .fields vs) : CallR (X.suite a ((a, oe) :: pn)) (.builtin "isinstance") (rIsX K a cls d) := hK ▸ call_isX hz hf
section
variable {K : Frag} {w : Wd} {n : Option Nat} {Γ Γ' : Env} {ta tb : TE}
/-- a sign, many times -/
theorem we_mulL1 {k : List Nat → NK} (h : WpE K w n Γ ta tX (fun a n Γ => ∃ c, a = [c] ∧ WpE K w n Γ tb tI (fun i n Γ => (-(2 ^ 63) ≤ i ∧ i ≤ 100000) ∧ k (List.replicate i.toNat c) n Γ))) : WpE K w n Γ (tOp rMulS ta tb) tX k := fun σ B H ok Q cc =>
  h σ B H ok _ fun a v n1 Γ1 B1 H1 ⟨c, ha, q1⟩ e1 o1 r1 => q1 σ B1 H1 o1 _ fun i v2 n2 Γ2 B2 H2 ⟨hz, q⟩ e2 o2 r2 => by
    subst ha
    exact ⟨SX.S [c], i, r1, r2, by rw [SX.S_len]; exact (Nat.le_of_ble_eq_true rfl : 1 ≤ 16), hz.1, by omega, by rw [mul_one]; exact cc _ _ n2 Γ2 B2 H2 q (e1.trans e2) o2 rfl⟩
end
/-! ### == of data of unlike kinds -/
/-- what stands for a datum of the kind t is data of the library's == -/
structure IsP (K : Frag) {α : Type} (t : Ty α) where
  enc : α → PyData
  dp : ∀ {B v x}, t.rep B v x → Dp K B v (enc x)
  dep : Nat
  dp_le : ∀ x, (enc x).depth ≤ dep
def IsD.p {K : Frag} {α : Type} {t : Ty α} (D : IsD K t) : IsP K t := ⟨D.enc, D.dp, D.dep, D.dp_le⟩
section
variable {K : Frag} {w : Wd} {n : Option Nat} {Γ Γ' : Env} {α β : Type} {t : Ty α} {u : Ty β} {ta tb : TE}
def pO (D : IsP K t) : IsP K (tO t) := ⟨fun x => match x with | none => .none | some y => D.enc y, fun {B v x} h => by
  cases x with
  | none => cases (show v = .non from h); exact .non
  | some y => exact D.dp h, D.dep, fun x => by
  cases x with
  | none => exact Nat.zero_le _
  | some y => exact D.dp_le y⟩
theorem IsP.sh (D : IsP K t) (hd : D.dep ≤ 64) {x : α} (h : (D.enc x).canLay0 = true) : SeqAt.shaped (D.enc x) = true := by
  unfold SeqAt.shaped
  rw [h, Bool.true_and]
  exact decide_eq_true (Nat.le_trans (D.dp_le x) hd)
theorem we_eqP {k : Bool → NK} (D : IsP K t) (E : IsP K u) (hd : D.dep ≤ 64 ∧ E.dep ≤ 64) (h : WpE K w n Γ ta t (fun a n Γ => WpE K w n Γ tb u (fun b n Γ => ((D.enc a).canLay0 = true ∧ (E.enc b).canLay0 = true) ∧ k (PyData.eqv (D.enc a) (E.enc b)) n Γ))) : WpE K w n Γ (tOp (rEqU K) ta tb) tBo k :=
  we_op2 (s := tBo) (fun a b => PyData.eqv (D.enc a) (E.enc b)) (fun a b => (D.enc a).canLay0 = true ∧ (E.enc b).canLay0 = true) (fun B x y a b H Q h1 h2 e hc q =>
    .inr ⟨_, _, D.dp (t.mono e h1), E.dp (u.mono e h2), D.sh hd.1 hc.1, E.sh hd.2 hc.2, q _ rfl⟩) h
theorem we_neP {k : Bool → NK} (D : IsP K t) (E : IsP K u) (hd : D.dep ≤ 64 ∧ E.dep ≤ 64) (h : WpE K w n Γ ta t (fun a n Γ => WpE K w n Γ tb u (fun b n Γ => ((D.enc a).canLay0 = true ∧ (E.enc b).canLay0 = true) ∧ k (!PyData.eqv (D.enc a) (E.enc b)) n Γ))) : WpE K w n Γ (tOp (rNeU K) ta tb) tBo k :=
  we_op2 (s := tBo) (fun a b => !PyData.eqv (D.enc a) (E.enc b)) (fun a b => (D.enc a).canLay0 = true ∧ (E.enc b).canLay0 = true) (fun B x y a b H Q h1 h2 e hc q =>
    .inr ⟨_, _, D.dp (t.mono e h1), E.dp (u.mono e h2), D.sh hd.1 hc.1, E.sh hd.2 hc.2, q _ rfl⟩) h
end
end TL

namespace Lw
open PySem L2 TL
open PySem.W (Frag)
/-! ### how the walk goes on -/
local macro_rules | `(tactic| walk_at "sd") => `(tactic| with_unfolding_all (first | omega | (simp only [List.length_cons, List.length_nil]; omega) | (constructor <;> omega) | (refine Or.inl (Or.inl ?_); constructor <;> omega) | (refine Or.inl (Or.inr ?_); constructor <;> omega) | (refine divw ?_ ?_ <;> omega) | (refine ⟨?_, ?_, ?_⟩ <;> omega) | (simp only [Int.reduceToNat] at *; first | omega | (constructor <;> omega))))
local macro_rules | `(tactic| walk_at "gs") => `(tactic| first
  | ((with_reducible refine ws_seq ?_); walk_at "gs")
  | ((with_reducible refine ws_ret ?_); walk_at "gs")
  | ((with_reducible refine ws_next ?_); walk_at "gs")
  | ((with_reducible apply ws_set); walk_at "gs")
  | ((with_reducible refine we_int ?_); walk_at "gs")
  | ((with_reducible refine we_var (by with_unfolding_all rfl) ?_); walk_at "gs")
  | ((with_reducible refine setE_go (by dsimp only [List.set, hideE, Ent.hide, List.map]) ?_); walk_at "gs")
  | ((with_reducible refine we_add ?_); walk_at "gs")
  | ((with_reducible refine we_sub ?_); walk_at "gs")
  | ((with_reducible refine we_mul ?_); walk_at "gs")
  | ((with_reducible refine we_mod ?_); walk_at "gs")
  | ((with_reducible refine we_div ?_); walk_at "gs")
  | ((with_reducible refine we_pow ?_); walk_at "gs")
  | ((with_reducible refine we_neg ?_); walk_at "gs")
  | ((with_reducible refine we_intc ?_); walk_at "gs")
  | ((with_reducible refine we_lenVL (by with_unfolding_all rfl) ?_); walk_at "gs")
  | ((with_reducible refine we_lenVM (by with_unfolding_all rfl) ?_); walk_at "gs")
  | ((with_reducible refine we_lenVU (by with_unfolding_all rfl) ?_); walk_at "gs")
  | ((with_reducible refine we_lenVLs (by with_unfolding_all rfl) ?_); walk_at "gs")
  | ((with_reducible refine we_ixAny (t := tI) ?_); walk_at "gs")
  | ((with_reducible refine we_ixVL (by with_unfolding_all rfl) ?_); walk_at "gs")
  | ((with_reducible refine we_ixVM (by with_unfolding_all rfl) ?_); walk_at "gs")
  | ((with_reducible refine we_ixVU (by with_unfolding_all rfl) ?_); walk_at "gs")
  | ((with_reducible refine wt_val ?_); walk_at "gs")
  | ((with_reducible refine we_lt ?_); walk_at "gs")
  | ((with_reducible refine we_le ?_); walk_at "gs")
  | ((with_reducible refine we_gt ?_); walk_at "gs")
  | ((with_reducible refine we_ge ?_); walk_at "gs")
  | ((with_reducible refine we_neNil ?_); walk_at "gs")
  | ((with_reducible refine we_eqNil ?_); walk_at "gs")
  | ((with_reducible refine we_eqI ?_); walk_at "gs")
  | ((with_reducible refine we_neI ?_); walk_at "gs")
  | ((with_reducible refine wt_and ?_); walk_at "gs")
  | ((with_reducible refine wt_or ?_); walk_at "gs")
  | ((with_reducible refine wt_not ?_); walk_at "gs")
  | ((with_reducible refine we_if ?_); walk_at "gs")
  | ((with_reducible refine dec2 (fun _ => ?_) (fun _ => ?_)) <;> walk_at "gs")
  | ((with_reducible refine dec2n (fun _ => ?_) (fun _ => ?_)) <;> walk_at "gs")
  | ((with_reducible refine we_draw (by with_unfolding_all rfl) ?_); walk_at "gs")
  | ((with_reducible refine we_below (by with_unfolding_all rfl) ?_); walk_at "gs")
  | ((with_reducible refine we_far (by with_unfolding_all rfl) ?_); walk_at "gs")
  | ((with_reducible refine we_little (by with_unfolding_all rfl) ?_); walk_at "gs")
  | ((with_reducible refine we_size (by with_unfolding_all rfl) ?_); walk_at "gs")
  | ((with_reducible refine Exists.intro _ (And.intro rfl (And.intro (by omega) (fun _ _ _ => ?_)))); walk_at "gs")
  | ((with_reducible apply we_lst); walk_at "gs")
  | ((with_reducible refine wal_cons ?_); walk_at "gs")
  | ((with_reducible refine wal_nil ?_); walk_at "gs")
  | ((with_reducible refine wi_range1 ?_); walk_at "gs")
  | ((with_reducible refine wi_range2 ?_); walk_at "gs")
  | ((with_reducible refine wg_name ?_); walk_at "gs")
  | ((with_reducible refine CLe_some ?_); omega)
  | ((with_reducible exact CLe_refl))
  | ((with_reducible refine wt_yes ?_); walk_at "gs")
  | ((with_reducible refine wt_truB ?_); walk_at "gs")
  | ((with_reducible refine we_isiI_int ?_); walk_at "gs")
  | ((with_reducible refine we_isiI_bool ?_); walk_at "gs")
  | ((with_reducible refine true2 ?_); walk_at "gs")
  | ((with_reducible refine false2 ?_); walk_at "gs")
  | ((with_reducible refine And.intro (by walk_at "sd") ?_); walk_at "gs")
  | skip)
local macro_rules | `(tactic| walk_at "go") => `(tactic| first
  | ((with_reducible refine ws_seq ?_); walk_at "go")
  | ((with_reducible refine ws_ret ?_); walk_at "go")
  | ((with_reducible refine ws_if ?_); walk_at "go")
  | ((with_reducible refine ws_next ?_); walk_at "go")
  | ((with_reducible apply ws_set); walk_at "go")
  | ((with_reducible refine we_int ?_); walk_at "go")
  | ((with_reducible refine we_var (by with_unfolding_all rfl) ?_); walk_at "go")
  | ((with_reducible refine setE_go (by dsimp only [List.set, hideE, Ent.hide, List.map]) ?_); walk_at "go")
  | ((with_reducible refine we_add ?_); walk_at "go")
  | ((with_reducible refine we_sub ?_); walk_at "go")
  | ((with_reducible refine we_mul ?_); walk_at "go")
  | ((with_reducible refine we_mod ?_); walk_at "go")
  | ((with_reducible refine we_div ?_); walk_at "go")
  | ((with_reducible refine we_pow ?_); walk_at "go")
  | ((with_reducible refine we_neg ?_); walk_at "go")
  | ((with_reducible refine we_intc ?_); walk_at "go")
  | ((with_reducible refine we_lenVL (by with_unfolding_all rfl) ?_); walk_at "go")
  | ((with_reducible refine we_lenVM (by with_unfolding_all rfl) ?_); walk_at "go")
  | ((with_reducible refine we_lenVU (by with_unfolding_all rfl) ?_); walk_at "go")
  | ((with_reducible refine we_lenVLs (by with_unfolding_all rfl) ?_); walk_at "go")
  | ((with_reducible refine we_ixAny (t := tI) ?_); walk_at "go")
  | ((with_reducible refine we_ixVL (by with_unfolding_all rfl) ?_); walk_at "go")
  | ((with_reducible refine we_ixVM (by with_unfolding_all rfl) ?_); walk_at "go")
  | ((with_reducible refine we_ixVU (by with_unfolding_all rfl) ?_); walk_at "go")
  | ((with_reducible refine wt_val ?_); walk_at "go")
  | ((with_reducible refine we_lt ?_); walk_at "go")
  | ((with_reducible refine we_le ?_); walk_at "go")
  | ((with_reducible refine we_gt ?_); walk_at "go")
  | ((with_reducible refine we_ge ?_); walk_at "go")
  | ((with_reducible refine we_neNil ?_); walk_at "go")
  | ((with_reducible refine we_eqNil ?_); walk_at "go")
  | ((with_reducible refine we_eqI ?_); walk_at "go")
  | ((with_reducible refine we_neI ?_); walk_at "go")
  | ((with_reducible refine wt_and ?_); walk_at "go")
  | ((with_reducible refine wt_or ?_); walk_at "go")
  | ((with_reducible refine wt_not ?_); walk_at "go")
  | ((with_reducible refine we_if ?_); walk_at "go")
  | ((with_reducible refine dec2 (fun _ => ?_) (fun _ => ?_)) <;> walk_at "go")
  | ((with_reducible refine dec2n (fun _ => ?_) (fun _ => ?_)) <;> walk_at "go")
  | ((with_reducible refine we_draw (by with_unfolding_all rfl) ?_); walk_at "go")
  | ((with_reducible refine we_below (by with_unfolding_all rfl) ?_); walk_at "go")
  | ((with_reducible refine we_far (by with_unfolding_all rfl) ?_); walk_at "go")
  | ((with_reducible refine we_little (by with_unfolding_all rfl) ?_); walk_at "go")
  | ((with_reducible refine we_size (by with_unfolding_all rfl) ?_); walk_at "go")
  | ((with_reducible refine Exists.intro _ (And.intro rfl (And.intro (by omega) (fun _ _ _ => ?_)))); walk_at "go")
  | ((with_reducible apply we_lst); walk_at "go")
  | ((with_reducible refine wal_cons ?_); walk_at "go")
  | ((with_reducible refine wal_nil ?_); walk_at "go")
  | ((with_reducible refine wi_range1 ?_); walk_at "go")
  | ((with_reducible refine wi_range2 ?_); walk_at "go")
  | ((with_reducible refine wg_name ?_); walk_at "go")
  | ((with_reducible refine CLe_some ?_); omega)
  | ((with_reducible exact CLe_refl))
  | ((with_reducible refine wt_yes ?_); walk_at "go")
  | ((with_reducible refine wt_truB ?_); walk_at "go")
  | ((with_reducible refine we_isiI_int ?_); walk_at "go")
  | ((with_reducible refine we_isiI_bool ?_); walk_at "go")
  | ((with_reducible refine true2 ?_); walk_at "go")
  | ((with_reducible refine false2 ?_); walk_at "go")
  | ((with_reducible refine And.intro (by walk_at "sd") ?_); walk_at "go")
  | skip)

def topS (i : Nat) : Stmt := PySem.Challenge.pw_tugtext_k12_wrong_tokens_anywhere.main.body.getD i (.Pass ⟨0, 0, 0, 0⟩)
structure Bts (mg : Str → Option Value) : Prop where
  b_int : mg "int" = none
  b_len : mg "len" = none
  b_list : mg "list" = none
  b_min : mg "min" = none
  b_range : mg "range" = none
  g_MARKS : ∃ u, mg "MARKS" = some u ∧ RelV (.str "(),=<+*-") u
  g_DIGITS : ∃ u, mg "DIGITS" = some u ∧ RelV (.str "0123456789") u
  g_LETTERS : ∃ u, mg "LETTERS" = some u ∧ RelV (.str "abcdefghijklmnopqrstuvwxyz") u
  g_LONGEST_WORD : ∃ u, mg "LONGEST_WORD" = some u ∧ RelV (.int (16)) u
  g_IN_WORDS : ∃ u, mg "IN_WORDS" = some u ∧ RelV (.str "abcdefghijklmnopqrstuvwxyz0123456789") u
  g_BEHIND : ∃ u, mg "BEHIND" = some u ∧ RelV (.str "abcdefghijklmnopqrstuvwxyz0123456789!") u
  g_BEFORE : ∃ u, mg "BEFORE" = some u ∧ RelV (.str "abcdefghijklmnopqrstuvwxyz0123456789!-") u
  g_MOST_DIGITS : ∃ u, mg "MOST_DIGITS" = some u ∧ RelV (.int (60)) u
abbrev s_has_sign : Stmt := topS 12
theorem sc_has_sign : FnScope ["line", "at", "signs"] ["line", "at", "signs"] (defScope s_has_sign) := ⟨rfl, rfl, rfl, by decide +kernel, rfl, by decide +kernel, by decide +kernel⟩
abbrev s_run_end : Stmt := topS 13
theorem sc_run_end : FnScope ["line", "at", "signs"] ["line", "at", "signs"] (defScope s_run_end) := ⟨rfl, rfl, rfl, by decide +kernel, rfl, by decide +kernel, by decide +kernel⟩
abbrev s_word_at : Stmt := topS 14
theorem sc_word_at : FnScope ["line", "at", "word"] ["line", "at"] (defScope s_word_at) := ⟨rfl, rfl, rfl, by decide +kernel, rfl, by decide +kernel, by decide +kernel⟩
abbrev s_numeral_at : Stmt := topS 15
theorem sc_numeral_at : FnScope ["line", "at", "first", "end", "digits", "stop"] ["line", "at"] (defScope s_numeral_at) := ⟨rfl, rfl, rfl, by decide +kernel, rfl, by decide +kernel, by decide +kernel⟩
abbrev s_token_at : Stmt := topS 16
theorem sc_token_at : FnScope ["line", "at"] ["line", "at"] (defScope s_token_at) := ⟨rfl, rfl, rfl, by decide +kernel, rfl, by decide +kernel, by decide +kernel⟩
abbrev s_scan : Stmt := topS 17
theorem sc_scan : FnScope ["line", "number", "tokens", "at", "token"] ["line", "number"] (defScope s_scan) := ⟨rfl, rfl, rfl, by decide +kernel, rfl, by decide +kernel, by decide +kernel⟩
abbrev s__law_pen : Stmt := topS 19
theorem sc__law_pen : FnScope ["_law_script"] ["_law_script"] (defScope s__law_pen) := ⟨rfl, rfl, rfl, by decide +kernel, rfl, by decide +kernel, by decide +kernel⟩
abbrev s__law_draw : Stmt := topS 20
theorem sc__law_draw : FnScope ["_law_pen_here", "_law_many", "_law_digit", "_law_at", "_law_cell", "_law_mixed"] ["_law_pen_here", "_law_many"] (defScope s__law_draw) := ⟨rfl, rfl, rfl, by decide +kernel, rfl, by decide +kernel, by decide +kernel⟩
abbrev s__law_pick : Stmt := topS 21
theorem sc__law_pick : FnScope ["_law_pen_here", "_law_items"] ["_law_pen_here", "_law_items"] (defScope s__law_pick) := ⟨rfl, rfl, rfl, by decide +kernel, rfl, by decide +kernel, by decide +kernel⟩
abbrev s__law_apart : Stmt := topS 22
theorem sc__law_apart : FnScope ["_law_left", "_law_right", "_law_inside", "_law_number"] ["_law_left", "_law_right"] (defScope s__law_apart) := ⟨rfl, rfl, rfl, by decide +kernel, rfl, by decide +kernel, by decide +kernel⟩
abbrev s__law_row : Stmt := topS 23
theorem sc__law_row : FnScope ["_law_pen_here", "_law_tokens", "_law_line", "_law_columns", "_law_k", "_law_few"] ["_law_pen_here", "_law_tokens"] (defScope s__law_row) := ⟨rfl, rfl, rfl, by decide +kernel, rfl, by decide +kernel, by decide +kernel⟩
abbrev s__law_word : Stmt := topS 24
theorem sc__law_word : FnScope ["_law_pen_here", "_law_letters", "_law_digits", "_law_size", "_law_found", "_law_k"] ["_law_pen_here"] (defScope s__law_word) := ⟨rfl, rfl, rfl, by decide +kernel, rfl, by decide +kernel, by decide +kernel⟩
abbrev s__law_keywords : Stmt := topS 25
theorem sc__law_keywords : FnScope [] [] (defScope s__law_keywords) := ⟨rfl, rfl, rfl, by decide +kernel, rfl, by decide +kernel, by decide +kernel⟩
abbrev s__law_numeral : Stmt := topS 26
theorem sc__law_numeral : FnScope ["_law_pen_here", "_law_size", "_law_digits", "_law_sign", "_law_k"] ["_law_pen_here"] (defScope s__law_numeral) := ⟨rfl, rfl, rfl, by decide +kernel, rfl, by decide +kernel, by decide +kernel⟩
abbrev s__law_piece : Stmt := topS 27
theorem sc__law_piece : FnScope ["_law_pen_here", "_law_letters", "_law_digits", "_law_odd", "_law_number", "_law_word_here", "_law_sign", "_law_letter", "_law_digit", "_law_mark", "_law_most", "_law_choice", "_law_short", "_law_zeros", "_law_less", "_law_many", "_law_ahead", "_law_k"] ["_law_pen_here"] (defScope s__law_piece) := ⟨rfl, rfl, rfl, by decide +kernel, rfl, by decide +kernel, by decide +kernel⟩
abbrev s__law_wrong : Stmt := topS 28
theorem sc__law_wrong : FnScope ["_law_row_here", "_law_number", "e"] ["_law_row_here", "_law_number"] (defScope s__law_wrong) := ⟨rfl, rfl, rfl, by decide +kernel, rfl, by decide +kernel, by decide +kernel⟩
abbrev s_law : Stmt := topS 29
theorem sc_law : FnScope ["_law_script", "_law_pen_here", "_law_turn", "_law_tokens", "_law_at", "_law_number", "_law_ahead", "_law_behind", "_law_piece_here", "_law_few", "_law_other", "_law_row_here", "_law_right", "_law_bare", "_law_k"] ["_law_script"] (defScope s_law) := ⟨rfl, rfl, rfl, by decide +kernel, rfl, by decide +kernel, by decide +kernel⟩
abbrev es_BadText : Stmt := inClass (topS 2) 0
theorem eb_BadText : Er.Body (defBody es_BadText) ["line", "column"] := ⟨_, _, _, _, _, _, _, _, _, by with_unfolding_all rfl, (.cons (.cons .nil)), fun _ => ⟨_, by with_unfolding_all rfl⟩⟩
structure Xc (P : Program) (K : Frag) (mg : Str → Option Value) (C_BadText : Addr) : Prop where
  g_BadText : mg "BadText" = some (.ref C_BadText)
  e_BadText : Er.ErrC P K mg C_BadText "BadText" es_BadText ["line", "column"]
  x_BadText : XfC K C_BadText
  i_BadText : ExcC K C_BadText
  c_BadText : PySem.W.typeIn K (.ref C_BadText) = some (.type "type")
  s_BadText_BadText : PySem.W.subIn K (.ref C_BadText) (.ref C_BadText) = some true

theorem ok__law_draw {P : Program} {w : World} {K : Frag} {mg : Str → Option Value} {base : Heap} {f C_BadText : Addr} {fd : FuncData} (F : Fun K "_law_draw" "_law_draw" s__law_draw f fd) (T : Bts mg) (XC : Xc P K mg C_BadText) : FnOk P w K mg base CX0 1 f fd ["_law_pen_here", "_law_many"] (sp__law_draw K) := by
  refine F.ok sc__law_draw (fun vs H Q E h => fs_len h) (fun cdv A outer s H vs Q E hr h => ⟨_, (pss_cons (ps_if (pt_cmpR op_geU (pe_dget (hu_of hr) (pv 0) pe_str (fun _ _ => rfl)) (pv 1) (nomark _)) (pss_cons (ps_set (i := 2) sc__law_draw.nd rfl (by first | exact Or.inl rfl | exact Or.inr rfl) (pe_op op_modU (pe_callTy call_intU (by rfl) T.b_int PyProof.Rows.boot_int (pa_cons (pe_dget (hu_of hr) (pv 0) pe_str (fun _ _ => rfl)) pa_nil)) (pv 1)))
      (pss_cons (ps_dput (hu_of hr) (pv 0) pe_str (pe_op op_divU (pe_dget (hu_of hr) (pv 0) pe_str (fun _ _ => rfl)) (pv 1)) rfl)
      (pss_one (ps_ret (pv 2))))) pss_nil)
      (pss_cons (ps_set (i := 3) sc__law_draw.nd rfl (by first | exact Or.inl rfl | exact Or.inr rfl) (pe_dget (hu_of hr) (pv 0) pe_str (fun _ _ => rfl)))
      (pss_cons (ps_dput (hu_of hr) (pv 0) pe_str (pe_op op_addU (pv 3) pe_int) rfl)
      (pss_cons (ps_set (i := 4) sc__law_draw.nd rfl (by first | exact Or.inl rfl | exact Or.inr rfl) (pe_op op_addU (pe_op op_mulU pe_int (pv 3)) pe_int))
      (pss_cons (ps_if (pt_cmpR (op_neK K rfl hr.units) (pe_dget (hu_of hr) (pv 0) pe_str (fun _ _ => rfl)) (pe_lst pa_nil) (nomark _)) (pss_one (ps_set (i := 4) sc__law_draw.nd rfl (by first | exact Or.inl rfl | exact Or.inr rfl) (pe_ix (ix_seqK K rfl) (pe_dget (hu_of hr) (pv 0) pe_str (fun _ _ => rfl)) (pe_op op_modU (pe_callTy call_intU (by rfl) T.b_int PyProof.Rows.boot_int (pa_cons (pv 3) pa_nil)) (pe_callB (call_lenK K rfl) (by rfl) T.b_len PySem.boot_len (pa_cons (pe_dget (hu_of hr) (pv 0) pe_str (fun _ _ => rfl)) pa_nil))) (fun _ _ => rfl)))) pss_nil)
      (pss_cons (ps_if (PW.pt (pw_and (pt_cmpR op_ltU (pv 3) (pe_callB (call_lenK K rfl) (by rfl) T.b_len PySem.boot_len (pa_cons (pe_dget (hu_of hr) (pv 0) pe_str (fun _ _ => rfl)) pa_nil)) (nomark _)) (pw_and1 (pt_cmpR op_geU (pv 4) (pe_op op_powU pe_int pe_int) (nomark _))))) (pss_cons (ps_dput (hu_of hr) (pv 0) pe_str (pe_op op_divU (pe_op op_subU (pv 4) (pe_op op_powU pe_int pe_int)) (pv 1)) rfl)
      (pss_one (ps_ret (pe_op op_modU (pe_callTy call_intU (by rfl) T.b_int PyProof.Rows.boot_int (pa_cons (pe_op op_subU (pv 4) (pe_op op_powU pe_int pe_int)) pa_nil)) (pv 1))))) pss_nil)
      (pss_cons (ps_set (i := 5) sc__law_draw.nd rfl (by first | exact Or.inl rfl | exact Or.inr rfl) (pe_op op_addU (pe_op op_addU (pe_op op_addU (pe_op op_mulU (pe_op op_modU (pe_callTy call_intU (by rfl) T.b_int PyProof.Rows.boot_int (pa_cons (pv 4) pa_nil)) pe_int) pe_int) (pe_op op_mulU (pe_op op_mulU pe_int (pv 3)) (pv 3))) (pe_op op_mulU pe_int (pv 3))) pe_int))
      (pss_cons (ps_set (i := 5) sc__law_draw.nd rfl (by first | exact Or.inl rfl | exact Or.inr rfl) (pe_op op_modU (pe_callTy call_intU (by rfl) T.b_int PyProof.Rows.boot_int (pa_cons (pv 5) pa_nil)) pe_int))
      (pss_cons (ps_set (i := 5) sc__law_draw.nd rfl (by first | exact Or.inl rfl | exact Or.inr rfl) (pe_op op_modU (pe_callTy call_intU (by rfl) T.b_int PyProof.Rows.boot_int (pa_cons (pe_op op_mulU (pv 5) (pe_op op_addU (pv 5) pe_int)) pa_nil)) pe_int))
      (pss_one (ps_ret (pe_op op_modU (pe_callTy call_intU (by rfl) T.b_int PyProof.Rows.boot_int (pa_cons (pe_op op_divU (pe_op op_modU (pe_callTy call_intU (by rfl) T.b_int PyProof.Rows.boot_int (pa_cons (pe_op op_mulU (pv 5) (pv 5)) pa_nil)) pe_int) pe_int) pa_nil)) (pv 1))))))))))))), fs_body (Nat.le_of_ble_eq_true rfl) h fun w n a hp hm => ?_⟩)
  try dsimp only [S__law_draw, List.map_cons, List.map_nil] at hp hm ⊢

  obtain ⟨many, _⟩ := a
  obtain ⟨h1, h2⟩ := hp
  dsimp only at h1 h2
  obtain ⟨m, rfl, hb⟩ : ∃ m, n = some m ∧ m + 1 ≤ 2 ^ 60 := by
    rcases hm with z | z
    · cases z
    · exact z
  show WpS K w (some m) [.pen, .im tI many, .no, .no, .no, .no] _ _ _ _ _ _
  walk_at "go"
  refine we_penL rfl rfl fun l hl => ?_
  walk_at "go"
  · -- a digit is left
    walk_at "go"
    refine we_penL rfl rfl fun l2 hl2 => ?_
    walk_at "go"
    refine ws_penL rfl ?_
    walk_at "go"
    refine we_penL rfl rfl fun l3 hl3 => ?_
    walk_at "go"
    refine ⟨Int.ediv_nonneg hl3 (by omega), _, rfl, ?_⟩
    walk_at "go"
    exact ⟨mod_in (by omega), .inr ⟨m, m, rfl, rfl, by omega⟩⟩
  walk_at "go"
  refine we_penA rfl rfl fun at0 ha hb' => ?_
  walk_at "go"
  refine ws_penA rfl ?_
  walk_at "go"
  refine ⟨_, m + 1, rfl, by omega, ?_⟩
  walk_at "gs"
  refine ws_cut (fun n Γ => ∃ cell : Int, n = some (m + 1) ∧ Γ = [.pen, .im tI many, .no, .im tI at0, .im tI cell, .no]) ?_ ?_
  · refine ws_if ?_
    walk_at "go"
    refine we_penC rfl rfl fun hc => ?_
    walk_at "go"
    · refine we_ixL (t := tI) ?_
      refine we_penC rfl rfl fun hc => ?_
      walk_at "go"
      refine we_lenL (t := tI) (we_penC rfl rfl fun hc => ?_)
      have hl : 0 < (w.cs.length : Int) := by
        rename_i hne _
        have := List.length_pos_iff.mpr hne
        omega
      walk_at "go"
      have hm2 := mod_in (a := at0) hl
      refine ⟨_, atI_int hm2.1 (by omega), ?_⟩
      walk_at "go"
      exact ⟨_, rfl, rfl⟩
    · walk_at "go"
      exact ⟨_, rfl, rfl⟩
  rintro n Γ ⟨cell, rfl, rfl⟩
  walk_at "gs"
  refine ws_cut (fun n Γ => n = some (m + 1) ∧ Γ = [.pen, .im tI many, .no, .im tI at0, .im tI cell, .no]) ?_ ?_
  · refine ws_if ?_
    walk_at "go"
    refine we_lenL (t := tI) (we_penC rfl rfl fun hc => ?_)
    walk_at "go"
    · refine ws_penL rfl ?_
      walk_at "go"
      refine ⟨Int.ediv_nonneg (by omega) (by omega), _, rfl, ?_⟩
      walk_at "go"
      exact ⟨mod_in (by omega), .inr ⟨m, m + 1, rfl, rfl, by omega⟩⟩
    · walk_at "go"
      exact rfl
    · walk_at "go"
      exact rfl
  rintro n Γ ⟨rfl, rfl⟩
  walk_at "go"
  exact ⟨mod_in (by omega), .inr ⟨m, m + 1, rfl, rfl, by omega⟩⟩

/-! ### texts' signs -/
abbrev Tx := List Nat
def LET : Tx := (Str.ofString "abcdefghijklmnopqrstuvwxyz").cps.toList
def DIG : Tx := (Str.ofString "0123456789").cps.toList
def INW : Tx := (Str.ofString "abcdefghijklmnopqrstuvwxyz0123456789").cps.toList
def BEF : Tx := (Str.ofString "abcdefghijklmnopqrstuvwxyz0123456789!-").cps.toList
def BEH : Tx := (Str.ofString "abcdefghijklmnopqrstuvwxyz0123456789!").cps.toList
def MRK : Tx := (Str.ofString "(),=<+*-").cps.toList
def BNG : Tx := (Str.ofString "!").cps.toList
def sWord : Tx := (Str.ofString "word").cps.toList
def sFree : Tx := (Str.ofString "free").cps.toList
def sFrozen : Tx := (Str.ofString "frozen").cps.toList
def sMark : Tx := (Str.ofString "mark").cps.toList
theorem let_eq : LET = [97, 98, 99, 100, 101, 102, 103, 104, 105, 106, 107, 108, 109, 110, 111, 112, 113, 114, 115, 116, 117, 118, 119, 120, 121, 122] := by decide +kernel
theorem dig_eq : DIG = [48, 49, 50, 51, 52, 53, 54, 55, 56, 57] := by decide +kernel
theorem inw_eq : INW = LET ++ DIG := by decide +kernel
theorem bef_eq : BEF = LET ++ DIG ++ [33, 45] := by decide +kernel
theorem beh_eq : BEH = LET ++ DIG ++ [33] := by decide +kernel
theorem mrk_eq : MRK = [40, 41, 44, 61, 60, 43, 42, 45] := by decide +kernel
theorem bng_eq : BNG = [33] := by decide +kernel
def inS (a : Tx) (i : Int) (s : Tx) : Bool := decide (0 ≤ i) && (decide (i < a.length) && decide (a.getD i.toNat 0 ∈ s))
theorem getD_app {a : Tx} {i : Nat} (h : i < a.length) : a.getD i 0 = a[i] := by rw [List.getD_eq_getElem?_getD, List.getElem?_eq_getElem h]; rfl
theorem atX {a : Tx} {i : Int} (h0 : 0 ≤ i) (h : i < a.length) : atI a i = some (a.getD i.toNat 0) := by
  have hn : i.toNat < a.length := by omega
  rw [getD_app hn]
  unfold atI
  rw [ixN_int h0 (by omega)]
  simp [List.getElem?_eq_getElem hn]
def S_has_sign (K : Frag) : FS K := { A := Tx × Int × Tx × Unit, args := aCons tX (aCons tI (aCons tX aNil)), ρ := Bool, res := fun x => .im tBo x, cost := 0, pre := fun a => a.1.length ≤ 100000, post := fun a r => r = inS a.1 a.2.1 a.2.2.1 }
abbrev sp_has_sign (K : Frag) : Sp := (S_has_sign K).sp
instance (K : Frag) : Ents (S_has_sign K).args := inferInstanceAs (Ents (aCons tX (aCons tI (aCons tX aNil))))
theorem ok_has_sign {P : Program} {w : World} {K : Frag} {mg : Str → Option Value} {base : Heap} {f C_BadText : Addr} {fd : FuncData} (F : Fun K "has_sign" "has_sign" s_has_sign f fd) (T : Bts mg) (XC : Xc P K mg C_BadText) : FnOk P w K mg base CX0 1 f fd ["line", "at", "signs"] (sp_has_sign K) := by
  refine F.ok sc_has_sign (fun vs H Q E h => fs_len h) (fun cdv A outer s H vs Q E hr h => ⟨_, (pss_one (ps_ret (pe_and (pe_chain op_leU op_ltU pe_int (pv 1) (pe_callB (call_lenK K rfl) (by rfl) T.b_len PySem.boot_len (pa_cons (pv 0) pa_nil))) (pe_one (pe_cmpR op_inStr (pe_ix (ix_seqK K rfl) (pv 0) (pv 1) (fun _ _ => rfl)) (pv 2) (by with_unfolding_all rfl)))))), fs_body (Nat.le_of_ble_eq_true rfl) h fun w n a hp hm => ?_⟩)
  try dsimp only [S_has_sign, List.map_cons, List.map_nil] at hp hm ⊢

  obtain ⟨line, i, signs, _⟩ := a
  have hp : line.length ≤ 100000 := hp
  show WpS K w n [.im tX line, .im tI i, .im tX signs] _ _ _ _ _ _
  refine ws_ret (we_andV (we_chainLeLt (we_int (we_var rfl ⟨fun h0 => we_lenVX rfl hp ?_, fun h0 => ?_⟩))))
  · refine dec2 (fun h1 => ?_) (fun h1 => ?_)
    · refine we_inX (we_ixX (we_var rfl (we_var rfl ⟨hp, _, atX h0 h1, we_var rfl ⟨_, rfl, ?_, CLe_refl⟩⟩)))
      show _ = inS line i signs
      unfold inS
      rw [decide_eq_true h0, decide_eq_true h1]; simp
    · refine ⟨?_, CLe_refl⟩
      show _ = inS line i signs
      unfold inS
      rw [decide_eq_false h1]; simp
  · refine ⟨fun z => (by cases z), fun _ => ⟨?_, CLe_refl⟩⟩
    show _ = inS line i signs
    unfold inS
    rw [decide_eq_false h0]; simp
/-- where the run of signs that begins at i ends -/
def runF (a : Tx) (i : Nat) (s : Tx) : Nat := i + ((a.drop i).takeWhile fun c => decide (c ∈ s)).length
theorem runF_le {a s : Tx} {i : Nat} (h : i ≤ a.length) : i ≤ runF a i s ∧ runF a i s ≤ a.length := by
  unfold runF
  have := (List.takeWhile_sublist (l := a.drop i) fun c => decide (c ∈ s)).length_le
  rw [List.length_drop] at this
  omega
theorem inS_step {a s : Tx} {i : Nat} (h : inS a (i : Int) s = true) : i < a.length ∧ runF a i s = runF a (i + 1) s := by
  unfold inS at h
  simp only [Bool.and_eq_true, decide_eq_true_eq] at h
  obtain ⟨_, h1, h2⟩ := h
  have hi : i < a.length := by omega
  refine ⟨hi, ?_⟩
  unfold runF
  rw [List.drop_eq_getElem_cons hi, List.takeWhile_cons]
  rw [Int.toNat_natCast, getD_app hi] at h2
  rw [if_pos (decide_eq_true h2), List.length_cons]
  omega
theorem inS_stop {a s : Tx} {i : Nat} (h : inS a (i : Int) s = false) : runF a i s = i := by
  unfold runF
  by_cases hi : i < a.length
  · rw [List.drop_eq_getElem_cons hi, List.takeWhile_cons]
    have : ¬ a[i] ∈ s := by
      intro z
      unfold inS at h
      rw [decide_eq_true (show (0 : Int) ≤ i by omega), decide_eq_true (show (i : Int) < a.length by omega), Int.toNat_natCast, getD_app hi, decide_eq_true z] at h
      simp at h
    rw [if_neg (by simpa using this)]; rfl
  · rw [List.drop_eq_nil_of_le (by omega)]; rfl
def S_run_end (K : Frag) : FS K := { A := Tx × Int × Tx × Unit, args := aCons tX (aCons tI (aCons tX aNil)), ρ := Int, res := fun x => .im tI x, cost := 0, pre := fun a => a.1.length ≤ 100000 ∧ 0 ≤ a.2.1, post := fun a r => r = (runF a.1 a.2.1.toNat a.2.2.1 : Nat) }
abbrev sp_run_end (K : Frag) : Sp := (S_run_end K).sp
instance (K : Frag) : Ents (S_run_end K).args := inferInstanceAs (Ents (aCons tX (aCons tI (aCons tX aNil))))
theorem ok_run_end {P : Program} {w : World} {K : Frag} {mg : Str → Option Value} {base : Heap} {f C_BadText : Addr} {fd : FuncData} (F : Fun K "run_end" "run_end" s_run_end f fd) (T : Bts mg) (XC : Xc P K mg C_BadText) (c_has_sign : Callee P w K mg base CX0 1 "has_sign" ["line", "at", "signs"] (sp_has_sign K)) : FnOk P w K mg base CX0 2 f fd ["line", "at", "signs"] (sp_run_end K) := by
  refine F.ok sc_run_end (fun vs H Q E h => fs_len h) (fun cdv A outer s H vs Q E hr h => ⟨_, (pss_cons (ps_while PassesOwn.never (pt_truthK K rfl (pe_callC c_has_sign (hr.mono (by decide)) rfl (pa_cons (pv 0) (pa_cons (pv 1) (pa_cons (pv 2) pa_nil)))) (by intro _; rfl)) (pss_one (ps_aug (i := 1) sc_run_end.nd rfl (by first | exact Or.inl rfl | exact Or.inr rfl) pe_int ip_add)))
      (pss_one (ps_ret (pv 1)))), fs_body (Nat.le_of_ble_eq_true rfl) h fun w n a hp hm => ?_⟩)
  try dsimp only [S_run_end, List.map_cons, List.map_nil] at hp hm ⊢

  obtain ⟨line, i, signs, _⟩ := a
  obtain ⟨hp, h0⟩ : line.length ≤ 100000 ∧ 0 ≤ i := hp
  show WpS K w n [.im tX line, .im tI i, .im tX signs] _ _ _ _ _ _
  refine ws_seq (ws_while (fun m n' Γ => n' = n ∧ ∃ j : Nat, line.length - j ≤ m ∧ runF line j signs = runF line i.toNat signs ∧ Γ = [.im tX line, .im tI (j : Int), .im tX signs]) line.length (Up.of ⟨rfl, i.toNat, by omega, rfl, by rw [Int.toNat_of_nonneg h0]⟩) ?_)
  rintro m n' Γ ⟨rfl, j, hj, hr, rfl⟩
  refine wt_truB (we_call0 (S := S_has_sign K) rfl rfl (wa_cons (we_var rfl (wa_cons (we_var rfl (wa_cons (we_var rfl (wa_nil ⟨hp, ?_⟩))))))))
  intro (b : Bool) (hb : b = inS line j signs)
  refine ⟨fun h1 => ?_, fun h1 => ?_⟩
  · rw [hb] at h1
    obtain ⟨q1, q2⟩ := inS_step h1
    refine ws_augI rfl (we_int (setE_go (by dsimp only [List.set]) ⟨m - 1, by omega, Up.of ⟨rfl, j + 1, by omega, by rw [← q2, hr], by rw [show ((j : Int) + 1) = ((j + 1 : Nat) : Int) by omega]⟩⟩))
  · rw [hb] at h1
    refine ws_ret (we_var rfl ⟨?_, CLe_refl⟩)
    show (j : Int) = (runF line i.toNat signs : Nat)
    rw [← hr, inS_stop h1]
def sliceT (a : Tx) (i j : Nat) : Tx := (a.drop i).take (j - i)
def wordF (a : Tx) (i : Nat) : Option (Tx × Tx) := if 16 < (sliceT a i (runF a i INW)).length then none else some (sWord, sliceT a i (runF a i INW))
theorem slice_len {a : Tx} {i j : Nat} : (sliceT a i j).length ≤ a.length := by
  unfold sliceT; rw [List.length_take, List.length_drop]; omega
theorem cutT {a : Tx} {i j : Nat} (h1 : i ≤ j) (h2 : j ≤ a.length) : cutX a (some (i : Int)) (some (j : Int)) = sliceT a i j := cutX_mid h1 h2
abbrev tTok : Ty (Option (Tx × Tx)) := tO (tP tX tX)
def S_word_at (K : Frag) : FS K := { A := Tx × Int × Unit, args := aCons tX (aCons tI aNil), ρ := Option (Tx × Tx), res := fun x => .im tTok x, cost := 0, pre := fun a => a.1.length ≤ 100000 ∧ 0 ≤ a.2.1 ∧ a.2.1 ≤ a.1.length, post := fun a r => r = wordF a.1 a.2.1.toNat }
abbrev sp_word_at (K : Frag) : Sp := (S_word_at K).sp
instance (K : Frag) : Ents (S_word_at K).args := inferInstanceAs (Ents (aCons tX (aCons tI aNil)))
theorem ok_word_at {P : Program} {w : World} {K : Frag} {mg : Str → Option Value} {base : Heap} {f C_BadText : Addr} {fd : FuncData} (F : Fun K "word_at" "word_at" s_word_at f fd) (T : Bts mg) (XC : Xc P K mg C_BadText) (c_run_end : Callee P w K mg base CX0 2 "run_end" ["line", "at", "signs"] (sp_run_end K)) : FnOk P w K mg base CX0 3 f fd ["line", "at"] (sp_word_at K) := by
  refine F.ok sc_word_at (fun vs H Q E h => fs_len h) (fun cdv A outer s H vs Q E hr h => ⟨_, (pss_cons (ps_set (i := 2) sc_word_at.nd rfl (by first | exact Or.inl rfl | exact Or.inr rfl) (pe_slice C8.sl_txt (pv 0) (po_some (pv 1)) (po_some (pe_callC c_run_end (hr.mono (by decide)) rfl (pa_cons (pv 0) (pa_cons (pv 1) (pa_cons (C8.pe_gc (v := (.str "abcdefghijklmnopqrstuvwxyz0123456789")) rfl T.g_IN_WORDS) pa_nil)))))))
      (pss_cons (ps_if (pt_cmpR op_gtU (pe_callB (call_lenK K rfl) (by rfl) T.b_len PySem.boot_len (pa_cons (pv 2) pa_nil)) (C8.pe_gc (v := (.int (16))) rfl T.g_LONGEST_WORD) (nomark _)) (pss_one (ps_ret pe_non)) pss_nil)
      (pss_one (ps_ret (pe_tup (pa_cons pe_str (pa_cons (pv 2) pa_nil))))))), fs_body (Nat.le_of_ble_eq_true rfl) h fun w n a hp hm => ?_⟩)
  try dsimp only [S_word_at, List.map_cons, List.map_nil] at hp hm ⊢

  obtain ⟨line, i, _⟩ := a
  obtain ⟨hp, h0, h1⟩ : line.length ≤ 100000 ∧ 0 ≤ i ∧ i ≤ line.length := hp
  obtain ⟨j, rfl⟩ := Int.eq_ofNat_of_zero_le h0
  have hj : j ≤ line.length := by omega
  show WpS K w n [.im tX line, .im tI (j : Int), .no] _ (fun x => .im tTok x) _ _ _ _
  refine ws_seq <| ws_set (t := tX) <| we_slX <| we_var rfl ⟨hp, wo_some <| we_var rfl <| wo_some <| we_call0 (S := S_run_end K) rfl rfl <| wa_cons <| we_var rfl <| wa_cons <| we_var rfl <| wa_cons <| we_X <| wa_nil ⟨⟨hp, h0⟩, ?_⟩⟩
  intro (e : Int) (he : e = (runF line (j : Int).toNat INW : Nat))
  subst he
  rw [Int.toNat_natCast, cutT (runF_le hj).1 (runF_le hj).2]
  refine setE_go (by dsimp only [List.set]) ?_
  have hs := slice_len (a := line) (i := j) (j := runF line j INW)
  refine ws_seq (ws_if (wt_val (we_gt (we_lenVX rfl (by omega) (we_int (dec2 (fun h => ?_) (fun h => ?_)))))))
  · refine ws_ret (t := tTok) (we_noneO ⟨?_, CLe_refl⟩)
    show none = wordF line (j : Int).toNat
    unfold wordF
    rw [Int.toNat_natCast, if_pos (by omega)]
  · refine ws_next (ws_ret (t := tTok) (we_someO (we_tup2 (t := tX) (u := tX) (we_X (we_var rfl ⟨?_, CLe_refl⟩)))))
    show _ = wordF line (j : Int).toNat
    unfold wordF
    rw [Int.toNat_natCast, if_neg (by omega)]
    rfl
def numSt (a : Tx) (e : Nat) : Nat := if inS a e BNG = true then e + 1 else e
def numFirst (a : Tx) (i : Nat) : Nat := if a.getD i 0 = 45 then i + 1 else i
def numF (a : Tx) (i : Nat) : Option (Tx × Tx) :=
  if 60 < (sliceT a (numFirst a i) (runF a (numFirst a i) DIG)).length then none
  else if (sliceT a (numFirst a i) (runF a (numFirst a i) DIG)).getD 0 0 = 48 ∧ (1 < (sliceT a (numFirst a i) (runF a (numFirst a i) DIG)).length ∨ i < numFirst a i) then none
  else if inS a ((i : Int) - 1) BEF = true ∨ inS a (numSt a (runF a (numFirst a i) DIG)) BEH = true then none
  else some (if runF a (numFirst a i) DIG < numSt a (runF a (numFirst a i) DIG) then sFrozen else sFree, sliceT a i (numSt a (runF a (numFirst a i) DIG)))
theorem inS_at {a s : Tx} {i : Nat} (h : i < a.length) : inS a (i : Int) s = decide (a.getD i 0 ∈ s) := by
  unfold inS
  rw [decide_eq_true (show (0 : Int) ≤ i by omega), decide_eq_true (show (i : Int) < a.length by omega), Int.toNat_natCast]; simp
theorem inS_lt {a s : Tx} {i : Nat} (h : inS a (i : Int) s = true) : i < a.length ∧ a.getD i 0 ∈ s := by
  have h1 := (inS_step h).1
  rw [inS_at h1] at h
  exact ⟨h1, of_decide_eq_true h⟩
theorem lit1 {s : Str} {c d : Nat} (hs : s.cps.toList = [d]) : decide ([c] = s.cps.toList) = decide (c = d) := by
  rw [hs]; by_cases z : c = d <;> simp [z]
def S_numeral_at (K : Frag) : FS K := { A := Tx × Int × Unit, args := aCons tX (aCons tI aNil), ρ := Option (Tx × Tx), res := fun x => .im tTok x, cost := 0, pre := fun a => a.1.length ≤ 100000 ∧ 0 ≤ a.2.1 ∧ inS a.1 (numFirst a.1 a.2.1.toNat) DIG = true, post := fun a r => r = numF a.1 a.2.1.toNat }
abbrev sp_numeral_at (K : Frag) : Sp := (S_numeral_at K).sp
instance (K : Frag) : Ents (S_numeral_at K).args := inferInstanceAs (Ents (aCons tX (aCons tI aNil)))
theorem numFirst_le {a : Tx} {i : Nat} : i ≤ numFirst a i ∧ numFirst a i ≤ i + 1 := by unfold numFirst; split <;> omega
theorem numSt_le {a : Tx} {e : Nat} (h : e ≤ a.length) : e ≤ numSt a e ∧ numSt a e ≤ a.length := by
  unfold numSt
  split
  · rename_i z; have := (inS_lt z).1; omega
  · omega
theorem ok_numeral_at {P : Program} {w : World} {K : Frag} {mg : Str → Option Value} {base : Heap} {f C_BadText : Addr} {fd : FuncData} (F : Fun K "numeral_at" "numeral_at" s_numeral_at f fd) (T : Bts mg) (XC : Xc P K mg C_BadText) (c_has_sign : Callee P w K mg base CX0 1 "has_sign" ["line", "at", "signs"] (sp_has_sign K)) (c_run_end : Callee P w K mg base CX0 2 "run_end" ["line", "at", "signs"] (sp_run_end K)) : FnOk P w K mg base CX0 3 f fd ["line", "at"] (sp_numeral_at K) := by
  refine F.ok sc_numeral_at (fun vs H Q E h => fs_len h) (fun cdv A outer s H vs Q E hr h => ⟨_, (pss_cons (ps_set (i := 2) sc_numeral_at.nd rfl (by first | exact Or.inl rfl | exact Or.inr rfl) (pe_ifExp (pt_cmpR (op_eqK K rfl hr.units) (pe_ix (ix_seqK K rfl) (pv 0) (pv 1) (fun _ _ => rfl)) pe_str (nomark _)) (pe_op op_addU (pv 1) pe_int) (pv 1)))
      (pss_cons (ps_set (i := 3) sc_numeral_at.nd rfl (by first | exact Or.inl rfl | exact Or.inr rfl) (pe_callC c_run_end (hr.mono (by decide)) rfl (pa_cons (pv 0) (pa_cons (pv 2) (pa_cons (C8.pe_gc (v := (.str "0123456789")) rfl T.g_DIGITS) pa_nil)))))
      (pss_cons (ps_set (i := 4) sc_numeral_at.nd rfl (by first | exact Or.inl rfl | exact Or.inr rfl) (pe_slice C8.sl_txt (pv 0) (po_some (pv 2)) (po_some (pv 3))))
      (pss_cons (ps_set (i := 5) sc_numeral_at.nd rfl (by first | exact Or.inl rfl | exact Or.inr rfl) (pe_ifExp (pt_truthK K rfl (pe_callC c_has_sign (hr.mono (by decide)) rfl (pa_cons (pv 0) (pa_cons (pv 3) (pa_cons pe_str pa_nil)))) (by intro _; rfl)) (pe_op op_addU (pv 3) pe_int) (pv 3)))
      (pss_cons (ps_if (pt_cmpR op_gtU (pe_callB (call_lenK K rfl) (by rfl) T.b_len PySem.boot_len (pa_cons (pv 4) pa_nil)) (C8.pe_gc (v := (.int (60))) rfl T.g_MOST_DIGITS) (nomark _)) (pss_one (ps_ret pe_non)) pss_nil)
      (pss_cons (ps_if (PW.pt (pw_and (pt_cmpR (op_eqK K rfl hr.units) (pe_ix (ix_seqK K rfl) (pv 4) pe_int (fun _ _ => rfl)) pe_str (nomark _)) (pw_and1 (PW.pt (pw_or (pt_cmpR op_gtU (pe_callB (call_lenK K rfl) (by rfl) T.b_len PySem.boot_len (pa_cons (pv 4) pa_nil)) pe_int (nomark _)) (pw_or1 (pt_cmpR op_gtU (pv 2) (pv 1) (nomark _)))))))) (pss_one (ps_ret pe_non)) pss_nil)
      (pss_cons (ps_if (PW.pt (pw_or (pt_truthK K rfl (pe_callC c_has_sign (hr.mono (by decide)) rfl (pa_cons (pv 0) (pa_cons (pe_op op_subU (pv 1) pe_int) (pa_cons (C8.pe_gc (v := (.str "abcdefghijklmnopqrstuvwxyz0123456789!-")) rfl T.g_BEFORE) pa_nil)))) (by intro _; rfl)) (pw_or1 (pt_truthK K rfl (pe_callC c_has_sign (hr.mono (by decide)) rfl (pa_cons (pv 0) (pa_cons (pv 5) (pa_cons (C8.pe_gc (v := (.str "abcdefghijklmnopqrstuvwxyz0123456789!")) rfl T.g_BEHIND) pa_nil)))) (by intro _; rfl))))) (pss_one (ps_ret pe_non)) pss_nil)
      (pss_one (ps_ret (pe_tup (pa_cons (pe_ifExp (pt_cmpR op_gtU (pv 5) (pv 3) (nomark _)) pe_str pe_str) (pa_cons (pe_slice C8.sl_txt (pv 0) (po_some (pv 1)) (po_some (pv 5))) pa_nil)))))))))))), fs_body (Nat.le_of_ble_eq_true rfl) h fun w n a hp hm => ?_⟩)
  try dsimp only [S_numeral_at, List.map_cons, List.map_nil] at hp hm ⊢

  obtain ⟨line, i, _⟩ := a
  obtain ⟨hp, h0, h1⟩ : line.length ≤ 100000 ∧ 0 ≤ i ∧ inS line (numFirst line i.toNat) DIG = true := hp
  obtain ⟨j, rfl⟩ := Int.eq_ofNat_of_zero_le h0
  rw [Int.toNat_natCast] at h1
  obtain ⟨hf, hd⟩ := inS_lt h1
  have hfl := numFirst_le (a := line) (i := j)
  have hj : j < line.length := by omega
  show WpS K w n [.im tX line, .im tI (j : Int), .no, .no, .no, .no] _ (fun x => .im tTok x) _ _ _ _
  have post : ∀ r, r = numF line j → (S_numeral_at K).post (line, (j : Int), ()) r := fun r h => h
  refine ws_seq (ws_set (t := tI) (we_mono (k := fun (x : Int) n' Γ' => x = ((numFirst line j : Nat) : Int) ∧ n' = n ∧ Γ' = [.im tX line, .im tI (j : Int), .no, .no, .no, .no]) ?_ ?_))
  · refine we_if (wt_val (we_eqX (we_ixX (we_var rfl (we_var rfl ⟨hp, _, atX h0 (by omega), we_X ?_⟩)))))
    rw [lit1 (d := 45) (by decide +kernel), Int.toNat_natCast]
    refine dec2 (fun h => we_add (we_var rfl (we_int ⟨?_, rfl, rfl⟩))) (fun h => we_var rfl ⟨?_, rfl, rfl⟩)
    · unfold numFirst; rw [if_pos h]; omega
    · unfold numFirst; rw [if_neg h]
  rintro _ n _ ⟨rfl, rfl, rfl⟩
  refine setE_go (by dsimp only [List.set]) ?_
  generalize hF : numFirst line j = f at h1 hf hd hfl
  refine ws_seq (ws_set (t := tI) (we_call0 (S := S_run_end K) rfl rfl (wa_cons (we_var rfl (wa_cons (we_var rfl (wa_cons (we_X (wa_nil ⟨⟨hp, by show (0 : Int) ≤ (f : Nat); omega⟩, ?_⟩)))))))))
  intro (e : Int) (he : e = (runF line ((f : Nat) : Int).toNat DIG : Nat))
  rw [Int.toNat_natCast] at he
  subst he
  refine setE_go (by dsimp only [List.set]) ?_
  have hr := runF_le (a := line) (s := DIG) (i := f) (by omega)
  have hrs := (inS_step h1).2
  have hr2 := runF_le (a := line) (s := DIG) (i := f + 1) (by omega)
  generalize hE : runF line f DIG = e at hr hrs
  refine ws_seq (ws_set (t := tX) (we_slX (we_var rfl ⟨hp, wo_some (we_var rfl (wo_some (we_var rfl ?_)))⟩)))
  rw [cutT hr.1 hr.2]
  refine setE_go (by dsimp only [List.set]) ?_
  have hds := slice_len (a := line) (i := f) (j := e)
  have hdl : (sliceT line f e).length = e - f := by unfold sliceT; rw [List.length_take, List.length_drop]; omega
  generalize hD : sliceT line f e = ds at hds hdl
  refine ws_seq (ws_set (t := tI) (we_mono (k := fun (x : Int) n' Γ' => x = ((numSt line e : Nat) : Int) ∧ n' = n ∧ Γ' = [.im tX line, .im tI (j : Int), .im tI (f : Int), .im tI (e : Int), .im tX ds, .no]) ?_ ?_))
  · refine we_if (wt_truB (we_call0 (S := S_has_sign K) rfl rfl (wa_cons (we_var rfl (wa_cons (we_var rfl (wa_cons (we_X (wa_nil ⟨hp, ?_⟩)))))))))
    intro (b : Bool) (hb : b = inS line (e : Int) BNG)
    refine ⟨fun h => we_add (we_var rfl (we_int ⟨?_, rfl, rfl⟩)), fun h => we_var rfl ⟨?_, rfl, rfl⟩⟩
    · unfold numSt; rw [if_pos (by rw [← hb]; exact h)]; omega
    · unfold numSt; rw [if_neg (by rw [← hb, h]; exact Bool.false_ne_true)]
  rintro _ n _ ⟨rfl, rfl, rfl⟩
  refine setE_go (by dsimp only [List.set]) ?_
  have hst := numSt_le (a := line) (e := e) hr.2
  generalize hS : numSt line e = st at hst
  have num : numF line j = if 60 < ds.length then none else if ds.getD 0 0 = 48 ∧ (1 < ds.length ∨ j < f) then none else if inS line ((j : Int) - 1) BEF = true ∨ inS line (st : Int) BEH = true then none else some (if e < st then sFrozen else sFree, sliceT line j st) := by
    unfold numF; rw [hF, hE, hD, hS]
  refine ws_seq (ws_if (wt_val (we_gt (we_lenVX rfl (by omega) (we_int (dec2 (fun h => ?_) (fun h => ?_)))))))
  · exact ws_ret (t := tTok) (we_noneO ⟨post _ (by rw [num, if_pos (by omega)]), CLe_refl⟩)
  refine ws_next ?_
  have h60 : ¬ 60 < ds.length := by omega
  rw [if_neg h60] at num
  refine ws_seq (ws_cut (fun n' Γ' => n' = n ∧ (¬ (ds.getD 0 0 = 48 ∧ (1 < ds.length ∨ j < f))) ∧ Γ' = [.im tX line, .im tI (j : Int), .im tI (f : Int), .im tI (e : Int), .im tX ds, .im tI (st : Int)]) ?_ ?_)
  · refine ws_if (wt_and (wt_val (we_eqX (we_ixX (we_var rfl (we_int ⟨by omega, _, atX (by omega) (by show (0 : Int) < _; omega), we_X ?_⟩))))))
    rw [lit1 (d := 48) (by decide +kernel)]
    refine dec2 (fun h => ?_) (fun h => ws_next ⟨rfl, fun z => h z.1, rfl⟩)
    refine wt_or (wt_val (we_gt (we_lenVX rfl (by omega) (we_int (dec2 (fun h2 => ?_) (fun h2 => ?_))))))
    · exact ws_ret (t := tTok) (we_noneO ⟨post _ (by rw [num, if_pos ⟨h, .inl (by omega)⟩]), CLe_refl⟩)
    refine wt_val (we_gt (we_var rfl (we_var rfl (dec2 (fun h3 => ?_) (fun h3 => ?_)))))
    · exact ws_ret (t := tTok) (we_noneO ⟨post _ (by rw [num, if_pos ⟨h, .inr (by omega)⟩]), CLe_refl⟩)
    · exact ws_next ⟨rfl, fun z => by rcases z.2 with q | q <;> omega, rfl⟩
  rintro n _ ⟨rfl, h48, rfl⟩
  rw [if_neg h48] at num
  refine ws_seq (ws_if (wt_or (wt_truB (we_call0 (S := S_has_sign K) rfl rfl (wa_cons (we_var rfl (wa_cons (we_sub (we_var rfl (we_int (wa_cons (we_X (wa_nil ⟨hp, ?_⟩)))))))))))))
  intro (b1 : Bool) (hb1 : b1 = inS line ((j : Int) - 1) BEF)
  refine ⟨fun h => ?_, fun h => ?_⟩
  · exact ws_ret (t := tTok) (we_noneO ⟨post _ (by rw [num, if_pos (.inl (by rw [← hb1]; exact h))]), CLe_refl⟩)
  refine wt_truB (we_call0 (S := S_has_sign K) rfl rfl (wa_cons (we_var rfl (wa_cons (we_var rfl (wa_cons (we_X (wa_nil ⟨hp, ?_⟩))))))))
  intro (b2 : Bool) (hb2 : b2 = inS line (st : Int) BEH)
  refine ⟨fun h2 => ?_, fun h2 => ws_next ?_⟩
  · exact ws_ret (t := tTok) (we_noneO ⟨post _ (by rw [num, if_pos (.inr (by rw [← hb2]; exact h2))]), CLe_refl⟩)
  have nz : ¬ (inS line ((j : Int) - 1) BEF = true ∨ inS line (st : Int) BEH = true) := fun z => by
    rcases z with q | q
    · rw [← hb1, h] at q; cases q
    · rw [← hb2, h2] at q; cases q
  rw [if_neg nz] at num
  refine ws_ret (t := tTok) (we_someO (we_tup2 (t := tX) (u := tX) (we_mono (k := fun (x : Tx) n' Γ' => x = (if e < st then sFrozen else sFree) ∧ n' = n ∧ Γ' = [.im tX line, .im tI (j : Int), .im tI (f : Int), .im tI (e : Int), .im tX ds, .im tI (st : Int)]) ?_ ?_)))
  · refine we_if (wt_val (we_gt (we_var rfl (we_var rfl (dec2 (fun h => we_X ⟨?_, rfl, rfl⟩) (fun h => we_X ⟨?_, rfl, rfl⟩))))))
    · rw [if_pos (by omega)]; rfl
    · rw [if_neg (by omega)]; rfl
  rintro _ n _ ⟨rfl, rfl, rfl⟩
  refine we_slX (we_var rfl ⟨hp, wo_some (we_var rfl (wo_some (we_var rfl ⟨post _ ?_, CLe_refl⟩)))⟩)
  rw [num, cutT (by omega) hst.2]

def tokF (a : Tx) (i : Nat) : Option (Tx × Tx) :=
  if inS a i LET = true then wordF a i
  else if inS a i DIG = true ∨ (a.getD i 0 = 45 ∧ inS a ((i + 1 : Nat) : Int) DIG = true) then numF a i
  else if inS a i MRK = true then some (sMark, [a.getD i 0]) else none
def S_token_at (K : Frag) : FS K := { A := Tx × Int × Unit, args := aCons tX (aCons tI aNil), ρ := Option (Tx × Tx), res := fun x => .im tTok x, cost := 0, pre := fun a => a.1.length ≤ 100000 ∧ 0 ≤ a.2.1 ∧ a.2.1 < a.1.length, post := fun a r => r = tokF a.1 a.2.1.toNat }
abbrev sp_token_at (K : Frag) : Sp := (S_token_at K).sp
instance (K : Frag) : Ents (S_token_at K).args := inferInstanceAs (Ents (aCons tX (aCons tI aNil)))
theorem ok_token_at {P : Program} {w : World} {K : Frag} {mg : Str → Option Value} {base : Heap} {f C_BadText : Addr} {fd : FuncData} (F : Fun K "token_at" "token_at" s_token_at f fd) (T : Bts mg) (XC : Xc P K mg C_BadText) (c_has_sign : Callee P w K mg base CX0 1 "has_sign" ["line", "at", "signs"] (sp_has_sign K)) (c_numeral_at : Callee P w K mg base CX0 3 "numeral_at" ["line", "at"] (sp_numeral_at K)) (c_word_at : Callee P w K mg base CX0 3 "word_at" ["line", "at"] (sp_word_at K)) : FnOk P w K mg base CX0 4 f fd ["line", "at"] (sp_token_at K) := by
  refine F.ok sc_token_at (fun vs H Q E h => fs_len h) (fun cdv A outer s H vs Q E hr h => ⟨_, (pss_cons (ps_if (pt_truthK K rfl (pe_callC c_has_sign (hr.mono (by decide)) rfl (pa_cons (pv 0) (pa_cons (pv 1) (pa_cons (C8.pe_gc (v := (.str "abcdefghijklmnopqrstuvwxyz")) rfl T.g_LETTERS) pa_nil)))) (by intro _; rfl)) (pss_one (ps_ret (pe_callC c_word_at (hr.mono (by decide)) rfl (pa_cons (pv 0) (pa_cons (pv 1) pa_nil))))) pss_nil)
      (pss_cons (ps_if (PW.pt (pw_or (pt_truthK K rfl (pe_callC c_has_sign (hr.mono (by decide)) rfl (pa_cons (pv 0) (pa_cons (pv 1) (pa_cons (C8.pe_gc (v := (.str "0123456789")) rfl T.g_DIGITS) pa_nil)))) (by intro _; rfl)) (pw_or1 (PW.pt (pw_and (pt_cmpR (op_eqK K rfl hr.units) (pe_ix (ix_seqK K rfl) (pv 0) (pv 1) (fun _ _ => rfl)) pe_str (nomark _)) (pw_and1 (pt_truthK K rfl (pe_callC c_has_sign (hr.mono (by decide)) rfl (pa_cons (pv 0) (pa_cons (pe_op op_addU (pv 1) pe_int) (pa_cons (C8.pe_gc (v := (.str "0123456789")) rfl T.g_DIGITS) pa_nil)))) (by intro _; rfl)))))))) (pss_one (ps_ret (pe_callC c_numeral_at (hr.mono (by decide)) rfl (pa_cons (pv 0) (pa_cons (pv 1) pa_nil))))) pss_nil)
      (pss_cons (ps_if (pt_truthK K rfl (pe_callC c_has_sign (hr.mono (by decide)) rfl (pa_cons (pv 0) (pa_cons (pv 1) (pa_cons (C8.pe_gc (v := (.str "(),=<+*-")) rfl T.g_MARKS) pa_nil)))) (by intro _; rfl)) (pss_one (ps_ret (pe_tup (pa_cons pe_str (pa_cons (pe_ix (ix_seqK K rfl) (pv 0) (pv 1) (fun _ _ => rfl)) pa_nil))))) pss_nil)
      (pss_one (ps_ret pe_non))))), fs_body (Nat.le_of_ble_eq_true rfl) h fun w n a hp hm => ?_⟩)
  try dsimp only [S_token_at, List.map_cons, List.map_nil] at hp hm ⊢

  obtain ⟨line, i, _⟩ := a
  obtain ⟨hp, h0, h1⟩ : line.length ≤ 100000 ∧ 0 ≤ i ∧ i < line.length := hp
  obtain ⟨j, rfl⟩ := Int.eq_ofNat_of_zero_le h0
  have hj : j < line.length := by omega
  show WpS K w n [.im tX line, .im tI (j : Int)] _ (fun x => .im tTok x) _ _ _ _
  have post : ∀ r, r = tokF line j → (S_token_at K).post (line, (j : Int), ()) r := fun r h => h
  refine ws_seq <| ws_if <| wt_truB <| we_call0 (S := S_has_sign K) rfl rfl <| wa_cons <| we_var rfl <| wa_cons <| we_var rfl <| wa_cons <| we_X <| wa_nil ⟨hp, ?_⟩
  intro (b : Bool) (hb : b = inS line (j : Int) LET)
  refine ⟨fun h => ?_, fun h => ws_next ?_⟩
  · refine ws_ret (t := tTok) <| we_call0 (S := S_word_at K) rfl rfl <| wa_cons <| we_var rfl <| wa_cons <| we_var rfl <| wa_nil ⟨⟨hp, h0, Int.le_of_lt h1⟩, ?_⟩
    intro (r : Option (Tx × Tx)) (hr : r = wordF line (j : Int).toNat)
    refine ⟨post _ ?_, CLe_refl⟩
    unfold tokF
    rw [if_pos (by rw [← hb]; exact h), hr, Int.toNat_natCast]
  have hL : ¬ inS line (j : Int) LET = true := by rw [← hb, h]; exact Bool.false_ne_true
  have goNum : (inS line (j : Int) DIG = true ∨ (line.getD j 0 = 45 ∧ inS line ((j + 1 : Nat) : Int) DIG = true)) → WpS K w n [.im tX line, .im tI (j : Int)] (tRet (tCall (sp_numeral_at K) [] E0 (tCons (tVar 0) (tCons (tVar 1) tNil)))) (fun x => .im tTok x) (fun _ _ => False) (fun _ _ => False) (fun _ _ => False) (fun x n' => (S_token_at K).post (line, (j : Int), ()) x ∧ CLe (S_token_at K).cost n n') := fun hc => by
    refine ws_ret (t := tTok) <| we_call0 (S := S_numeral_at K) rfl rfl <| wa_cons <| we_var rfl <| wa_cons <| we_var rfl <| wa_nil ⟨⟨hp, h0, ?_⟩, ?_⟩
    · show inS line ((numFirst line (j : Int).toNat : Nat) : Int) DIG = true
      rw [Int.toNat_natCast]
      unfold numFirst
      rcases hc with q | ⟨q1, q2⟩
      · have := (inS_lt q).2
        rw [if_neg (fun z => by rw [z, dig_eq] at this; revert this; decide)]
        exact q
      · rw [if_pos q1]; exact q2
    · intro (r : Option (Tx × Tx)) (hr : r = numF line (j : Int).toNat)
      refine ⟨post _ ?_, CLe_refl⟩
      unfold tokF
      rw [if_neg hL, if_pos hc, hr, Int.toNat_natCast]
  have weak : ∀ {nx1 bk1 ct1 : NK} {ts : TS}, WpS K w n [.im tX line, .im tI (j : Int)] ts (fun x => .im tTok x) (fun _ _ => False) (fun _ _ => False) (fun _ _ => False) (fun x n' => (S_token_at K).post (line, (j : Int), ()) x ∧ CLe (S_token_at K).cost n n') → WpS K w n [.im tX line, .im tI (j : Int)] ts (fun x => .im tTok x) nx1 bk1 ct1 (fun x n' => (S_token_at K).post (line, (j : Int), ()) x ∧ CLe (S_token_at K).cost n n') := fun h => ws_mono h (fun _ _ z => z.elim) (fun _ _ z => z.elim) (fun _ _ z => z.elim) (fun _ _ z => z)
  refine ws_seq <| ws_if <| wt_or <| wt_truB <| we_call0 (S := S_has_sign K) rfl rfl <| wa_cons <| we_var rfl <| wa_cons <| we_var rfl <| wa_cons <| we_X <| wa_nil ⟨hp, ?_⟩
  intro (b1 : Bool) (hb1 : b1 = inS line (j : Int) DIG)
  refine ⟨fun h2 => weak (goNum (.inl (by rw [← hb1]; exact h2))), fun h2 => ?_⟩
  have nD : ¬ inS line (j : Int) DIG = true := by rw [← hb1, h2]; exact Bool.false_ne_true
  have rest : ¬ (line.getD j 0 = 45 ∧ inS line ((j + 1 : Nat) : Int) DIG = true) → WpS K w n [.im tX line, .im tI (j : Int)] (tSeq (tIfS (tTru K (tCall (sp_has_sign K) [] E0 (tCons (tVar 0) (tCons (tVar 1) (tCons (tC (.str "(),=<+*-")) tNil))))) (tRet (tTup (tCons (tC (.str "mark")) (tCons (tOp (rIx K) (tVar 0) (tVar 1)) tNil)))) tNext) (tRet (tC .non))) (fun x => .im tTok x) (fun _ _ => False) (fun _ _ => False) (fun _ _ => False) (fun x n' => (S_token_at K).post (line, (j : Int), ()) x ∧ CLe (S_token_at K).cost n n') := fun hc => by
    refine ws_seq <| ws_if <| wt_truB <| we_call0 (S := S_has_sign K) rfl rfl <| wa_cons <| we_var rfl <| wa_cons <| we_var rfl <| wa_cons <| we_X <| wa_nil ⟨hp, ?_⟩
    intro (b3 : Bool) (hb3 : b3 = inS line (j : Int) MRK)
    have e0 : tokF line j = if inS line (j : Int) MRK = true then some (sMark, [line.getD j 0]) else none := by
      unfold tokF
      rw [if_neg hL, if_neg (fun z => by
        rcases z with q | q
        · exact nD q
        · exact hc q)]
    refine ⟨fun h3 => ?_, fun h3 => ws_next ?_⟩
    · refine ws_ret (t := tTok) <| we_someO <| we_tup2 (t := tX) (u := tX) <| we_X <| we_ixX <| we_var rfl <| we_var rfl ⟨hp, _, atX h0 h1, post _ ?_, CLe_refl⟩
      rw [e0, if_pos (by rw [← hb3]; exact h3)]; rfl
    · refine ws_ret (t := tTok) <| we_noneO ⟨post _ ?_, CLe_refl⟩
      rw [e0, if_neg (by rw [← hb3, h3]; exact Bool.false_ne_true)]
  refine wt_and <| wt_val <| we_eqX <| we_ixX <| we_var rfl <| we_var rfl ⟨hp, _, atX h0 h1, we_X ?_⟩
  rw [lit1 (d := 45) (by decide +kernel), Int.toNat_natCast]
  refine dec2 (fun h3 => ?_) (fun h3 => ws_next (weak (rest fun z => h3 z.1)))
  refine wt_truB <| we_call0 (S := S_has_sign K) rfl rfl <| wa_cons <| we_var rfl <| wa_cons <| we_add <| we_var rfl <| we_int <| wa_cons <| we_X <| wa_nil ⟨hp, ?_⟩
  intro (b4 : Bool) (hb4 : b4 = inS line ((j : Int) + 1) DIG)
  refine ⟨fun h4 => weak (goNum (.inr ⟨h3, ?_⟩)), fun h4 => ws_next (weak (rest fun z => ?_))⟩
  · rw [show ((j + 1 : Nat) : Int) = (j : Int) + 1 by omega, ← hb4]; exact h4
  · have z2 := z.2
    rw [show ((j + 1 : Nat) : Int) = (j : Int) + 1 by omega, ← hb4, h4] at z2; cases z2

/-! ### scan, which may raise -/
abbrev Tk := Tx × Int × Tx
inductive Scan (a : Tx) : Nat → List Tk → Prop
  | stop {i : Nat} (h : i < a.length → a.getD i 0 = 35) : Scan a i []
  | space {i : Nat} {ts : List Tk} (h : i < a.length) (h1 : a.getD i 0 = 32) (r : Scan a (i + 1) ts) : Scan a i ts
  | tok {i : Nat} {k w : Tx} {ts : List Tk} (h : i < a.length) (h1 : a.getD i 0 ≠ 35) (h2 : a.getD i 0 ≠ 32) (e : tokF a i = some (k, w)) (ne : w ≠ []) (hb : i + w.length ≤ a.length) (r : Scan a (i + w.length) ts) : Scan a i ((k, (i : Int) + 1, w) :: ts)
theorem scan_end {a : Tx} {i : Nat} {ts : List Tk} (h : Scan a i ts) (q : i < a.length → a.getD i 0 = 35) : ts = [] := by
  cases h with
  | stop _ => rfl
  | space h h1 _ => rw [q h] at h1; cases h1
  | tok h h1 _ _ _ _ _ => exact absurd (q h) h1
theorem scan_space {a : Tx} {i : Nat} {ts : List Tk} (h : Scan a i ts) (hi : i < a.length) (q : a.getD i 0 = 32) : Scan a (i + 1) ts := by
  cases h with
  | stop z => rw [z hi] at q; cases q
  | space _ _ r => exact r
  | tok _ _ h2 _ _ _ _ => exact absurd q h2
theorem scan_tok {a : Tx} {i : Nat} {ts : List Tk} (h : Scan a i ts) (hi : i < a.length) (q : a.getD i 0 ≠ 35) (q2 : a.getD i 0 ≠ 32) : ∃ k w ts', tokF a i = some (k, w) ∧ w ≠ [] ∧ i + w.length ≤ a.length ∧ Scan a (i + w.length) ts' ∧ ts = (k, (i : Int) + 1, w) :: ts' := by
  cases h with
  | stop z => exact absurd (z hi) q
  | space _ z _ => exact absurd z q2
  | tok _ _ _ e ne hb r => exact ⟨_, _, _, e, ne, hb, r, rfl⟩
/-- the first wrong token begins at j -/
inductive Bad (a : Tx) (j : Nat) : Nat → Prop
  | here (h : j < a.length) (h1 : a.getD j 0 ≠ 35) (h2 : a.getD j 0 ≠ 32) (e : tokF a j = none) : Bad a j j
  | space {i : Nat} (h : i < a.length) (h1 : a.getD i 0 = 32) (r : Bad a j (i + 1)) : Bad a j i
  | tok {i : Nat} {k w : Tx} (h : i < a.length) (h1 : a.getD i 0 ≠ 35) (h2 : a.getD i 0 ≠ 32) (e : tokF a i = some (k, w)) (ne : w ≠ []) (hb : i + w.length ≤ a.length) (r : Bad a j (i + w.length)) : Bad a j i
/-- from i on: the tokens, or the place of the first wrong one -/
def Runs (a : Tx) (i : Nat) : List Tk ⊕ Nat → Prop
  | .inl ts => Scan a i ts
  | .inr j => Bad a j i
theorem runs_go {a : Tx} {i : Nat} {g : List Tk ⊕ Nat} (h : Runs a i g) (hi : i < a.length) (q : a.getD i 0 ≠ 35) : (a.getD i 0 = 32 ∧ Runs a (i + 1) g) ∨ (a.getD i 0 ≠ 32 ∧ tokF a i = none ∧ g = .inr i) ∨
    (a.getD i 0 ≠ 32 ∧ ∃ k w g', tokF a i = some (k, w) ∧ w ≠ [] ∧ i + w.length ≤ a.length ∧ Runs a (i + w.length) g' ∧ match g' with | .inl ts' => g = .inl ((k, (i : Int) + 1, w) :: ts') | .inr j => g = .inr j) := by
  by_cases z : a.getD i 0 = 32
  · left
    refine ⟨z, ?_⟩
    cases g with
    | inl ts => exact scan_space h hi z
    | inr j =>
      cases h with
      | here _ _ h2 _ => exact absurd z h2
      | space _ _ r => exact r
      | tok _ _ h2 _ _ _ _ => exact absurd z h2
  · right
    cases g with
    | inl ts =>
      obtain ⟨k, w, ts', e, ne, hb, r, rfl⟩ := scan_tok h hi q z
      exact .inr ⟨z, k, w, .inl ts', e, ne, hb, r, rfl⟩
    | inr j =>
      cases h with
      | here _ _ _ e => exact .inl ⟨z, e, rfl⟩
      | space _ h1 _ => exact absurd h1 z
      | tok _ _ _ e ne hb r => exact .inr ⟨z, _, _, .inr j, e, ne, hb, r, rfl⟩
theorem runs_end {a : Tx} {i : Nat} {g : List Tk ⊕ Nat} (h : Runs a i g) (q : i < a.length → a.getD i 0 = 35) : g = .inl [] := by
  cases g with
  | inl ts => rw [scan_end h q]
  | inr j =>
    cases h with
    | here h h1 _ _ => exact absurd (q h) h1
    | space h h1 _ => rw [q h] at h1; cases h1
    | tok h h1 _ _ _ _ _ => exact absurd (q h) h1
abbrev tTk : Ty Tk := tP3 tX tI tX
def badText (C : Addr) (line column : Int) : Err := ⟨C, [("line", ⟨tI, line⟩), ("column", ⟨tI, column⟩)]⟩
def S_scan (K : Frag) (C_BadText : Addr) : FX K := { A := (Tx × Int × Unit) × (List Tk ⊕ Nat), args := aGh (aCons tX (aCons tI aNil)), ρ := List Tk, res := fun x => .im (tL tTk) x, cost := 0, pre := fun a => a.1.1.length ≤ 90000 ∧ Runs a.1.1 0 a.2, post := fun a r => a.2 = .inl r, xpost := fun a er => ∃ j : Nat, a.2 = .inr j ∧ er = badText C_BadText a.1.2.1 ((j : Int) + 1) }
abbrev sp_scan (K : Frag) (C_BadText : Addr) : Sp := (S_scan K C_BadText).sp
instance (K : Frag) (C_BadText : Addr) : Ents (S_scan K C_BadText).args := inferInstanceAs (Ents (aGh (aCons tX (aCons tI aNil))))
theorem notNonP {B : Hp} {v : V} {x : Tx × Tx} (h : (tP tX tX).rep B v x) : ¬ v = .non := by
  obtain ⟨a, p, q, rfl, _⟩ := h
  intro z; cases z
theorem ok_scan {P : Program} {w : World} {K : Frag} {mg : Str → Option Value} {base : Heap} {f C_BadText : Addr} {fd : FuncData} (F : Fun K "scan" "scan" s_scan f fd) (T : Bts mg) (XC : Xc P K mg C_BadText) (c_token_at : Callee P w K mg base CX0 4 "token_at" ["line", "at"] (sp_token_at K)) : FnOk P w K mg base (L2.CX P w) 5 f fd ["line", "number"] (sp_scan K C_BadText) := by
  refine F.okX sc_scan (fun vs H Q E h => fx_len h) (fun cdv A outer s H vs Q E hr h => ⟨_, (pss_cons (ps_set (i := 2) sc_scan.nd rfl (by first | exact Or.inl rfl | exact Or.inr rfl) (pe_lst pa_nil))
      (pss_cons (ps_set (i := 3) sc_scan.nd rfl (by first | exact Or.inl rfl | exact Or.inr rfl) pe_int)
      (pss_cons (ps_while (passes_of rfl) (PW.pt (pw_and (pt_cmpR op_ltU (pv 3) (pe_callB (call_lenK K rfl) (by rfl) T.b_len PySem.boot_len (pa_cons (pv 0) pa_nil)) (nomark _)) (pw_and1 (pt_cmpR (op_neK K rfl hr.units) (pe_ix (ix_seqK K rfl) (pv 0) (pv 3) (fun _ _ => rfl)) pe_str (nomark _))))) (pss_cons (ps_if (pt_cmpR (op_eqK K rfl hr.units) (pe_ix (ix_seqK K rfl) (pv 0) (pv 3) (fun _ _ => rfl)) pe_str (nomark _)) (pss_cons (ps_aug (i := 3) sc_scan.nd rfl (by first | exact Or.inl rfl | exact Or.inr rfl) pe_int ip_add)
      (pss_one ps_continue)) pss_nil)
      (pss_cons (ps_set (i := 4) sc_scan.nd rfl (by first | exact Or.inl rfl | exact Or.inr rfl) (pe_callC c_token_at (hr.mono (by decide)) rfl (pa_cons (pv 0) (pa_cons (pv 3) pa_nil))))
      (pss_cons (ps_if (pt_cmpR op_isN (pv 4) pe_non (nomark _)) (pss_one (ps_raiseE rfl XC.e_BadText hr (by decide) (takes_of rfl rfl rfl rfl) rfl (pa_cons (pv 1) (pa_cons (pe_op op_addU (pv 3) pe_int) pa_nil)))) pss_nil)
      (pss_cons (ps_expr (pe_bm PySem.F.plainAttrs_list PySem.F.slot_list_append PySem.F.type_list_append mt_append (pv 2) (pa_cons (pe_tup (pa_cons (pe_ix (ix_seqK K rfl) (pv 4) pe_int (fun _ _ => rfl)) (pa_cons (pe_op op_addU (pv 3) pe_int) (pa_cons (pe_ix (ix_seqK K rfl) (pv 4) pe_int (fun _ _ => rfl)) pa_nil)))) pa_nil)))
      (pss_one (ps_aug (i := 3) sc_scan.nd rfl (by first | exact Or.inl rfl | exact Or.inr rfl) (pe_callB (call_lenK K rfl) (by rfl) T.b_len PySem.boot_len (pa_cons (pe_ix (ix_seqK K rfl) (pv 4) pe_int (fun _ _ => rfl)) pa_nil)) ip_add)))))))
      (pss_one (ps_ret (pv 2)))))), fx_body (Nat.le_of_ble_eq_true rfl) h fun w n a hp hm hW => ?_⟩)
  try dsimp only [S_scan, List.map_cons, List.map_nil] at hp hm hW ⊢

  obtain ⟨⟨line, num, _⟩, g0⟩ := a
  obtain ⟨hp9, hsc⟩ : line.length ≤ 90000 ∧ Runs line 0 g0 := hp
  have hp : line.length ≤ 100000 := by omega
  show WpS K w n [.im tX line, .im tI num, .no, .no, .no] _ _ _ _ _ _
  refine ws_seq <| ws_setM <| wm_lst (t := tTk) <| wal_nil ⟨Nat.zero_le _, setE_go (by dsimp only [List.set]) ?_⟩
  refine ws_seq <| ws_set (t := tI) <| we_int <| setE_go (by dsimp only [List.set]) ?_
  refine ws_seq <| ws_while (fun m n' Γ => n' = n ∧ ∃ (j : Nat) (got : List Tk) (g : List Tk ⊕ Nat), Runs line j g ∧ g0 = (match g with | .inl left => .inl (got ++ left) | .inr b => .inr b) ∧ line.length - j ≤ m ∧ got.length ≤ j ∧ Γ = [.im tX line, .im tI num, .ml tTk got, .im tI (j : Int), .no]) line.length (Up.of ⟨rfl, 0, [], g0, hsc, by cases g0 <;> rfl, by omega, Nat.le_refl _, rfl⟩) ?_
  rintro m n' Γ ⟨rfl, j, got, g, hs, hts, hm', hgl, rfl⟩
  have fin : (j < line.length → line.getD j 0 = 35) → WpS K w n' [.im tX line, .im tI num, .ml tTk got, .im tI (j : Int), .no] (tRet (tVar 2)) (fun x => .im (tL tTk) x) (fun _ _ => False) (fun _ _ => False) (fun _ _ => False) (fun x n2 => g0 = .inl x ∧ CLe 0 n' n2) := fun q => by
    have e := runs_end hs q
    subst e
    have hts : g0 = .inl got := by rw [hts]; simp
    exact ws_ret (t := tL tTk) <| we_varL rfl <| setE_go (by dsimp only [List.set]) ⟨hts, CLe_refl⟩
  have weak : ∀ {nx1 bk1 ct1 : NK}, WpS K w n' [.im tX line, .im tI num, .ml tTk got, .im tI (j : Int), .no] (tRet (tVar 2)) (fun x => .im (tL tTk) x) (fun _ _ => False) (fun _ _ => False) (fun _ _ => False) (fun x n2 => g0 = .inl x ∧ CLe 0 n' n2) → WpS K w n' [.im tX line, .im tI num, .ml tTk got, .im tI (j : Int), .no] (tRet (tVar 2)) (fun x => .im (tL tTk) x) nx1 bk1 ct1 (fun x n2 => g0 = .inl x ∧ CLe 0 n' n2) := fun h => ws_mono h (fun _ _ z => z.elim) (fun _ _ z => z.elim) (fun _ _ z => z.elim) (fun _ _ z => z)
  refine wt_and <| wt_val <| we_lt <| we_var rfl <| we_lenVX rfl hp <| dec2 (fun h1 => ?_) (fun h1 => weak (fin fun z => absurd z (by omega)))
  have hj : j < line.length := by omega
  have h0 : (0 : Int) ≤ j := by omega
  refine wt_val <| we_neX <| we_ixX <| we_var rfl <| we_var rfl ⟨hp, _, atX h0 h1, we_X ?_⟩
  rw [lit1 (d := 35) (by decide +kernel), Int.toNat_natCast]
  refine dec2n (fun h2 => ?_) (fun h2 => weak (fin fun _ => h2))
  refine ws_seq <| ws_if <| wt_val <| we_eqX <| we_ixX <| we_var rfl <| we_var rfl ⟨hp, _, atX h0 h1, we_X ?_⟩
  rw [lit1 (d := 32) (by decide +kernel), Int.toNat_natCast]
  have go := runs_go hs hj h2
  refine dec2 (fun h3 => ?_) (fun h3 => ws_next ?_)
  · refine ws_seq <| ws_augI rfl <| we_int <| setE_go (by dsimp only [List.set]) ?_
    rcases go with ⟨_, r⟩ | ⟨z, _⟩ | ⟨z, _⟩
    · exact ws_cont ⟨m - 1, by omega, Up.of ⟨rfl, j + 1, got, g, r, hts, by omega, by omega, by rw [show ((j : Int) + 1) = ((j + 1 : Nat) : Int) by omega]⟩⟩
    · exact absurd h3 z
    · exact absurd h3 z
  refine ws_seq <| ws_set (t := tTok) <| we_call0 (S := S_token_at K) rfl rfl <| wa_cons <| we_var rfl <| wa_cons <| we_var rfl <| wa_nil ⟨⟨hp, h0, h1⟩, ?_⟩
  intro (r : Option (Tx × Tx)) (hr : r = tokF line (j : Int).toNat)
  rw [Int.toNat_natCast] at hr
  refine setE_go (by dsimp only [List.set]) ?_
  rcases go with ⟨z, _⟩ | ⟨_, e, hg⟩ | ⟨_, k, tw, g', e, ne, hwb, hs', hg⟩
  · exact absurd z h3
  · rw [e] at hr
    subst hr
    subst hg
    refine ws_seq <| ws_if <| wt_val <| we_isNone notNonP <| we_var rfl ⟨fun _ => ?_, fun z => (by cases z)⟩
    refine ws_raiseE hW (wf_cons (t := tI) <| we_var rfl <| wf_cons (t := tI) <| we_add <| we_var rfl <| we_int <| wf_nil ⟨⟨j, hts, rfl⟩, CLe_refl⟩)
  rw [e] at hr
  subst hr
  refine ws_seq <| ws_if <| wt_val <| we_isNone notNonP <| we_var rfl ⟨fun z => (by cases z), fun _ => ws_next ?_⟩
  refine ws_view (View.some (t := tP tX tX) (i := 4) (x := (k, tw)) rfl) ?_
  show WpS K w n' [.im tX line, .im tI num, .ml tTk got, .im tI (j : Int), .im (tP tX tX) (k, tw)] _ _ _ _ _ _
  refine ws_seq <| ws_append (t := tTk) rfl <| we_tup3 (t := tX) (u := tI) (s := tX) <| we_ix20 (u := tX) <| we_var rfl <| we_add <| we_var rfl <| we_int <| we_ix21 (t := tX) <| we_var rfl ⟨rfl, by omega, setE_go (by dsimp only [List.set]) ?_⟩
  have hwl : tw.length ≠ 0 := fun z => ne (List.length_eq_zero_iff.mp z)
  refine ws_augI rfl <| we_lenX <| we_ix21 (t := tX) <| we_var rfl ⟨?_, setE_go (by dsimp only [List.set]) ?_⟩
  · show tw.length ≤ 100000
    omega
  · refine ⟨m - 1, by omega, Up.drop 4 ⟨rfl, j + tw.length, got ++ [(k, (j : Int) + 1, tw)], g', hs', ?_, by omega, by rw [List.length_append]; simp; omega, ?_⟩⟩
    · rw [hts]
      cases g' with
      | inl ts' => rw [hg]; simp
      | inr b => rw [hg]
    show [_, _, _, Ent.im tI ((j : Int) + (tw.length : Int)), _] = _
    rw [show ((j : Int) + (tw.length : Int)) = ((j + tw.length : Nat) : Int) by omega]

abbrev tPl : Ty (Option (Int × Int)) := tO (tP tI tI)
def wrongR (num : Int) : List Tk ⊕ Nat → Option (Int × Int)
  | .inl _ => none
  | .inr j => some (num, (j : Int) + 1)
def S__law_wrong (K : Frag) : FS K := { A := (Tx × Int × Unit) × (List Tk ⊕ Nat), args := aGh (aCons tX (aCons tI aNil)), ρ := Option (Int × Int), res := fun x => .im tPl x, cost := 0, pre := fun a => a.1.1.length ≤ 90000 ∧ Runs a.1.1 0 a.2, post := fun a r => r = wrongR a.1.2.1 a.2 }
abbrev sp__law_wrong (K : Frag) : Sp := (S__law_wrong K).sp
instance (K : Frag) : Ents (S__law_wrong K).args := inferInstanceAs (Ents (aGh (aCons tX (aCons tI aNil))))
theorem ok__law_wrong {P : Program} {w : World} {K : Frag} {mg : Str → Option Value} {base : Heap} {f C_BadText : Addr} {fd : FuncData} (F : Fun K "_law_wrong" "_law_wrong" s__law_wrong f fd) (T : Bts mg) (XC : Xc P K mg C_BadText) (c_scan : Callee P w K mg base (L2.CX P w) 5 "scan" ["line", "number"] (sp_scan K C_BadText)) : FnOk P w K mg base CX0 6 f fd ["_law_row_here", "_law_number"] (sp__law_wrong K) := by
  refine F.ok sc__law_wrong (fun vs H Q E h => fs_len h) (fun cdv A outer s H vs Q E hr h => ⟨_, (pss_cons (ps_tryAsK K rfl (i := 2) rfl rfl sc__law_wrong.nd rfl rfl ⟨rfl, by decide, Or.inl XC.g_BadText⟩ takes0 (fun W pn xe tk po => (pss_one (ps_expr (pe_callX c_scan (hr.mono (by decide)) tk rfl (pa_cons (pv 0) (pa_cons (pv 1) pa_nil)))))) (fun a oe cls d pn hz hf => (pss_one (ps_ret (pe_tup (pa_cons (pe_xf XC.x_BadText (XC.e_BadText.no _ (by simp)) hz hf (pv 2)) (pa_cons (pe_xf XC.x_BadText (XC.e_BadText.no _ (by simp)) hz hf (pv 2)) pa_nil)))))))
      (pss_one (ps_ret pe_non))), fs_body (Nat.le_of_ble_eq_true rfl) h fun w n a hp hm => ?_⟩)
  try dsimp only [S__law_wrong, List.map_cons, List.map_nil] at hp hm ⊢

  obtain ⟨⟨row, num, _⟩, g⟩ := a
  obtain ⟨hp9, hsc⟩ : row.length ≤ 90000 ∧ Runs row 0 g := hp
  show WpS K w n [.im tX row, .im tI num, .no] _ (fun x => .im tPl x) _ _ _ _
  have post : ∀ r, r = wrongR num g → (S__law_wrong K).post ((row, num, ()), g) r := fun r h => h
  refine ws_seq <| ws_tryA (fun er n' Γ' => (∃ j : Nat, g = .inr j ∧ er = badText C_BadText num ((j : Int) + 1)) ∧ n' = n ∧ Γ' = [.im tX row, .im tI num, .no]) (fun _ _ _ => False) Wish.none (fun w' W hW => ?_) ?_
  · refine ws_drop <| we_callE (S := S_scan K C_BadText) hW rfl <| wa_gh g <| wa_cons <| we_var rfl <| wa_cons <| we_var rfl <| wa_nil ⟨⟨hp9, hsc⟩, .inl rfl, fun r n' hr hc => ?_, fun er n' hx hc => ⟨hx, Costs.zero hc, rfl⟩⟩
    have hr : g = .inl r := hr
    have := Costs.zero hc
    subst this hr
    exact ws_ret <| we_noneO ⟨post _ rfl, CLe_refl⟩
  · rintro er n' Γ' ⟨⟨j, rfl, rfl⟩, rfl, rfl⟩
    refine Clause.yes XC.x_BadText XC.c_BadText XC.s_BadText_BadText fun w' a cls d hc => setE_go (by dsimp only [List.set]) ?_
    exact ws_ret <| we_someO <| we_tup2 (t := tI) (u := tI) <| we_xf rfl rfl rfl <| we_xf rfl rfl rfl ⟨post _ rfl, CLe_refl⟩

/-! ### tokens in a row -/
theorem getD_appR {a b : Tx} {k : Nat} : (a ++ b).getD (a.length + k) 0 = b.getD k 0 := by
  rw [List.getD_eq_getElem?_getD, List.getD_eq_getElem?_getD, List.getElem?_append_right (by omega), Nat.add_sub_cancel_left]
theorem inS_app {a b s : Tx} {k : Nat} : inS (a ++ b) ((a.length + k : Nat) : Int) s = inS b (k : Int) s := by
  unfold inS
  rw [Int.toNat_natCast, Int.toNat_natCast, getD_appR]
  have e : decide (((a.length + k : Nat) : Int) < ((a ++ b).length : Nat)) = decide ((k : Int) < (b.length : Nat)) := by
    rw [List.length_append]; exact decide_eq_decide.mpr (by omega)
  rw [e, decide_eq_true (show (0 : Int) ≤ ((a.length + k : Nat) : Int) by omega), decide_eq_true (show (0 : Int) ≤ (k : Int) by omega)]
theorem drop_app {a b : Tx} {k : Nat} : (a ++ b).drop (a.length + k) = b.drop k := by
  rw [List.drop_append]; simp
theorem runF_app {a b s : Tx} {k : Nat} : runF (a ++ b) (a.length + k) s = a.length + runF b k s := by
  unfold runF; rw [drop_app]; omega
theorem slice_app {a b : Tx} {i j : Nat} : sliceT (a ++ b) (a.length + i) (a.length + j) = sliceT b i j := by
  unfold sliceT; rw [drop_app]; congr 1; omega
theorem tw_app {s w post : Tx} (h : ∀ x ∈ w, x ∈ s) (hp : ∀ c, post.head? = some c → c ∉ s) : (w ++ post).takeWhile (fun c => decide (c ∈ s)) = w := by
  induction w with
  | nil =>
    cases post with
    | nil => rfl
    | cons c r => rw [List.nil_append, List.takeWhile_cons, if_neg (by simpa using hp c rfl)]
  | cons c w ih => rw [List.cons_append, List.takeWhile_cons, if_pos (by simpa using h c (by simp)), ih fun x hx => h x (by simp [hx])]
theorem runF_tw {p w post s : Tx} (h : ∀ x ∈ w, x ∈ s) (hp : ∀ c, post.head? = some c → c ∉ s) : runF (p ++ (w ++ post)) p.length s = p.length + w.length := by
  unfold runF
  have e : (p ++ (w ++ post)).drop p.length = w ++ post := by simp
  rw [e, tw_app h hp]
theorem slice_mid {p w post : Tx} : sliceT (p ++ (w ++ post)) p.length (p.length + w.length) = w := by
  unfold sliceT
  have e : (p ++ (w ++ post)).drop p.length = w ++ post := by simp
  rw [e, Nat.add_sub_cancel_left, List.take_left']; rfl
theorem inS_head {p s : Tx} {c : Nat} {r : Tx} : inS (p ++ c :: r) (p.length : Int) s = decide (c ∈ s) := by
  have := inS_app (a := p) (b := c :: r) (s := s) (k := 0)
  rw [Nat.add_zero] at this
  rw [this, inS_at (by simp)]; rfl
theorem inS_post {p s post : Tx} (hp : ∀ c, post.head? = some c → c ∉ s) : inS (p ++ post) (p.length : Int) s = false := by
  cases post with
  | nil =>
    rw [List.append_nil]
    unfold inS
    have z : decide ((p.length : Int) < (p.length : Nat)) = false := decide_eq_false (by omega)
    rw [z]; simp
  | cons c r => rw [inS_head, decide_eq_false (hp c rfl)]
theorem inS_pre {pre s r : Tx} (hp : ∀ c, pre.getLast? = some c → c ∉ s) : inS (pre ++ r) ((pre.length : Int) - 1) s = false := by
  rcases List.eq_nil_or_concat pre with rfl | ⟨q, c, rfl⟩
  · unfold inS
    rw [decide_eq_false (p := ((0 : Int) ≤ ((([] : Tx).length : Nat) : Int) - 1)) (by simp)]; rfl
  · have hc : c ∉ s := hp c (by simp)
    have e : (((q.concat c).length : Int) - 1) = (q.length : Int) := by simp
    rw [e, List.concat_eq_append, List.append_assoc, List.singleton_append, inS_head, decide_eq_false hc]
inductive TokOk : Tx → Prop
  | word (c : Nat) (r : Tx) (h1 : c ∈ LET) (h2 : ∀ x ∈ r, x ∈ INW) (h3 : r.length ≤ 15) : TokOk (c :: r)
  | mark (c : Nat) (h : c ∈ MRK) : TokOk [c]
  | num (neg bang : Bool) (ds : Tx) (h1 : ∀ x ∈ ds, x ∈ DIG) (h2 : 1 ≤ ds.length) (h3 : ds.length ≤ 60) (h4 : ds.getD 0 0 = 48 → ds.length = 1 ∧ neg = false) : TokOk ((if neg then [45] else []) ++ (ds ++ (if bang then [33] else [])))
def kindF (w : Tx) : Tx := if w.getD 0 0 ∈ LET then sWord else if w.length = 1 ∧ w.getD 0 0 ∈ MRK then sMark else if w.getD (w.length - 1) 0 = 33 then sFrozen else sFree
def numX (w : Tx) : Prop := w ≠ [45] ∧ (w.getD 0 0 = 45 ∨ w.getD 0 0 ∈ DIG)
structure Sep (pre w post : Tx) : Prop where
  word : w.getD 0 0 ∈ LET → ∀ c, post.head? = some c → c ∉ INW
  minus : w = [45] → ∀ c, post.head? = some c → c ∉ DIG
  num : numX w → (∀ c, pre.getLast? = some c → c ∉ BEF) ∧ ∀ c, post.head? = some c → c ∉ BEH
theorem mrk_not : ∀ c ∈ MRK, c ∉ LET ∧ c ∉ DIG ∧ c ≠ 33 ∧ c ≠ 35 ∧ c ≠ 32 := by rw [mrk_eq, let_eq, dig_eq]; decide
theorem let_not : ∀ c ∈ LET, c ∉ DIG ∧ c ≠ 45 ∧ c ≠ 35 ∧ c ≠ 32 ∧ c ≠ 33 := by rw [let_eq, dig_eq]; decide
theorem dig_not : ∀ c ∈ DIG, c ∉ LET ∧ c ≠ 45 ∧ c ≠ 33 ∧ c ∉ MRK ∧ c ≠ 35 ∧ c ≠ 32 := by rw [let_eq, dig_eq, mrk_eq]; decide
theorem m45 : 45 ∉ LET ∧ 45 ∉ DIG ∧ 45 ∈ MRK := by rw [let_eq, dig_eq, mrk_eq]; decide
theorem inw_let {c : Nat} (h : c ∈ LET) : c ∈ INW := by rw [inw_eq]; exact List.mem_append_left _ h
theorem beh_dig {c : Nat} (h : c ∉ BEH) : c ∉ DIG ∧ c ≠ 33 := by
  rw [beh_eq] at h
  exact ⟨fun z => h (List.mem_append_left _ (List.mem_append_right _ z)), fun z => h (by rw [z]; simp)⟩
theorem tok_at {pre w post : Tx} (hw : TokOk w) (hs : Sep pre w post) : tokF (pre ++ (w ++ post)) pre.length = some (kindF w, w) := by
  cases hw with
  | word c r h1 h2 h3 =>
    have hp := hs.word h1
    have all : ∀ x ∈ c :: r, x ∈ INW := fun x hx => by
      rcases List.mem_cons.mp hx with rfl | hx
      · exact inw_let h1
      · exact h2 x hx
    have e1 : inS (pre ++ ((c :: r) ++ post)) (pre.length : Int) LET = true := by rw [List.cons_append, inS_head, decide_eq_true h1]
    unfold tokF
    rw [if_pos e1]
    unfold wordF
    rw [runF_tw all hp, slice_mid, if_neg (by simp; omega)]
    unfold kindF
    rw [if_pos (by exact h1)]
  | mark c h =>
    obtain ⟨n1, n2, n3, _, _⟩ := mrk_not c h
    have e1 : inS (pre ++ ([c] ++ post)) (pre.length : Int) LET = false := by rw [List.singleton_append, inS_head, decide_eq_false n1]
    have e2 : inS (pre ++ ([c] ++ post)) (pre.length : Int) DIG = false := by rw [List.singleton_append, inS_head, decide_eq_false n2]
    have e3 : inS (pre ++ ([c] ++ post)) (pre.length : Int) MRK = true := by rw [List.singleton_append, inS_head, decide_eq_true h]
    have g0 : (pre ++ ([c] ++ post)).getD pre.length 0 = c := by have := getD_appR (a := pre) (b := [c] ++ post) (k := 0); rw [Nat.add_zero] at this; rw [this]; rfl
    have e4 : ¬ ((pre ++ ([c] ++ post)).getD pre.length 0 = 45 ∧ inS (pre ++ ([c] ++ post)) ((pre.length + 1 : Nat) : Int) DIG = true) := by
      rintro ⟨z1, z2⟩
      rw [g0] at z1
      have := inS_post (p := pre ++ [c]) (s := DIG) (hs.minus (by rw [z1]))
      rw [List.append_assoc, List.length_append, List.length_singleton] at this
      rw [this] at z2; cases z2
    unfold tokF
    rw [if_neg (by rw [e1]; exact Bool.false_ne_true), if_neg (fun z => by
      rcases z with q | q
      · rw [e2] at q; cases q
      · exact e4 q), if_pos e3, g0]
    unfold kindF
    rw [if_neg (by exact n1), if_pos ⟨rfl, h⟩]
  | num neg bang ds h1 h2 h3 h4 =>
    generalize hsg : (if neg = true then [45] else [] : Tx) = sg at hs ⊢
    generalize hbg : (if bang = true then [33] else [] : Tx) = bg at hs ⊢
    obtain ⟨d, dr, rfl⟩ : ∃ d dr, ds = d :: dr := by
      cases ds with
      | nil => simp at h2
      | cons d dr => exact ⟨d, dr, rfl⟩
    have hd : d ∈ DIG := h1 d (by simp)
    obtain ⟨d1, d2, d3, d4, _, _⟩ := dig_not d hd
    have hh : (sg ++ (d :: dr ++ bg)).getD 0 0 = if neg = true then 45 else d := by
      cases neg <;> simp at hsg <;> subst hsg <;> rfl
    have nx : numX (sg ++ (d :: dr ++ bg)) := by
      refine ⟨fun z => ?_, ?_⟩
      · cases neg
        · simp at hsg; subst hsg; simp at z; exact d2 z.1
        · simp at hsg; subst hsg; simp at z
      · rw [hh]; cases neg
        · exact .inr hd
        · exact .inl rfl
    obtain ⟨hpre, hpost⟩ := hs.num nx
    have hsl : sg.length = if neg = true then 1 else 0 := by cases neg <;> simp at hsg <;> subst hsg <;> rfl
    -- the text, seen from the digits
    have t1 : pre ++ ((sg ++ (d :: dr ++ bg)) ++ post) = (pre ++ sg) ++ (d :: dr ++ (bg ++ post)) := by simp
    have t2 : pre ++ ((sg ++ (d :: dr ++ bg)) ++ post) = (pre ++ sg ++ (d :: dr)) ++ (bg ++ post) := by simp
    have t3 : pre ++ ((sg ++ (d :: dr ++ bg)) ++ post) = (pre ++ sg ++ (d :: dr) ++ bg) ++ post := by simp
    have bp : ∀ c, (bg ++ post).head? = some c → c ∉ DIG := fun c hc => by
      cases bang
      · simp at hbg; subst hbg; exact (beh_dig (hpost c hc)).1
      · simp at hbg; subst hbg; simp at hc; subst hc; rw [dig_eq]; decide
    generalize hT : pre ++ ((sg ++ (d :: dr ++ bg)) ++ post) = T at t1 t2 t3
    have g0 : T.getD pre.length 0 = if neg = true then 45 else d := by
      rw [← hT, ← hh]
      have := getD_appR (a := pre) (b := (sg ++ (d :: dr ++ bg)) ++ post) (k := 0)
      rw [Nat.add_zero] at this
      rw [this]
      cases neg <;> simp at hsg <;> subst hsg <;> rfl
    have dgt : inS T ((pre ++ sg).length : Int) DIG = true := by rw [t1, List.cons_append, inS_head, decide_eq_true hd]
    have len2 : (pre ++ sg).length = pre.length + sg.length := List.length_append
    have hF : numFirst T pre.length = (pre ++ sg).length := by
      unfold numFirst
      rw [g0, len2, hsl]
      cases neg
      · rw [if_neg (by simpa using d2)]; rfl
      · rfl
    have hL : inS T (pre.length : Int) LET = false := by
      have z : ∀ c r, T = pre ++ c :: r → c ∉ LET → inS T (pre.length : Int) LET = false := fun c r e hc => by rw [e, inS_head, decide_eq_false hc]
      cases neg
      · simp at hsg; subst hsg; exact z d (dr ++ bg ++ post) (by rw [← hT]; simp) d1
      · simp at hsg; subst hsg; exact z 45 (d :: dr ++ bg ++ post) (by rw [← hT]; simp) m45.1
    have hc2 : inS T (pre.length : Int) DIG = true ∨ (T.getD pre.length 0 = 45 ∧ inS T ((pre.length + 1 : Nat) : Int) DIG = true) := by
      cases neg
      · left; rw [len2, hsl] at dgt; exact dgt
      · right
        rw [len2, hsl] at dgt
        exact ⟨g0, dgt⟩
    have hR : runF T (pre ++ sg).length DIG = (pre ++ sg ++ (d :: dr)).length := by
      rw [t1, runF_tw h1 bp, List.length_append (as := pre ++ sg)]
    have hSl : sliceT T (pre ++ sg).length (pre ++ sg ++ (d :: dr)).length = d :: dr := by
      rw [t1, List.length_append (as := pre ++ sg), slice_mid]
    have hSt : numSt T (pre ++ sg ++ (d :: dr)).length = (pre ++ sg ++ (d :: dr) ++ bg).length := by
      unfold numSt
      rw [t2]
      cases bang
      · simp at hbg; subst hbg
        rw [if_neg]
        · simp
        · rw [inS_post (s := BNG) (fun c hc => by
            have := (beh_dig (hpost c hc)).2
            rw [bng_eq]; simpa using this)]
          exact Bool.false_ne_true
      · simp at hbg; subst hbg
        rw [if_pos]
        · simp; omega
        · rw [List.singleton_append, inS_head, bng_eq]; decide
    have hPre : inS T ((pre.length : Int) - 1) BEF = false := by rw [← hT, inS_pre hpre]
    have hPost : inS T ((pre ++ sg ++ (d :: dr) ++ bg).length : Int) BEH = false := by rw [t3, inS_post hpost]
    unfold tokF
    rw [if_neg (by rw [hL]; exact Bool.false_ne_true), if_pos hc2]
    unfold numF
    rw [hF, hR, hSl, hSt, if_neg (by omega), if_neg (fun z => by
      obtain ⟨q1, q2⟩ := h4 z.1
      rcases z.2 with q | q
      · omega
      · rw [len2, hsl, q2] at q; simp at q), if_neg (fun z => by
      rcases z with q | q
      · rw [hPre] at q; cases q
      · rw [hPost] at q; cases q)]
    have hw : sliceT T pre.length (pre ++ sg ++ (d :: dr) ++ bg).length = sg ++ (d :: dr ++ bg) := by
      rw [← hT]
      have e : (pre ++ sg ++ (d :: dr) ++ bg).length = pre.length + (sg ++ (d :: dr ++ bg)).length := by simp
      rw [e, slice_mid]
    rw [hw]
    congr 2
    unfold kindF
    rw [hh]
    have k1 : ¬ (if neg = true then 45 else d) ∈ LET := by cases neg; exact d1; exact m45.1
    have k2 : ¬ ((sg ++ (d :: dr ++ bg)).length = 1 ∧ (if neg = true then 45 else d) ∈ MRK) := by
      rintro ⟨z1, z2⟩
      cases neg
      · exact d4 z2
      · rw [List.length_append, hsl] at z1; simp at z1
    rw [if_neg k1, if_neg k2]
    cases bang
    · simp at hbg; subst hbg
      have : ¬ (sg ++ (d :: dr ++ [])).getD ((sg ++ (d :: dr ++ [])).length - 1) 0 = 33 := by
        have e : (sg ++ (d :: dr ++ [])).length - 1 = sg.length + dr.length := by simp
        rw [e, getD_appR, List.append_nil]
        have hm : (d :: dr).getD dr.length 0 ∈ DIG := by
          rw [getD_app (by simp)]
          exact h1 _ (List.getElem_mem _)
        exact (dig_not _ hm).2.2.1
      rw [if_neg this, if_neg (by simp)]
    · simp at hbg; subst hbg
      have : (sg ++ (d :: dr ++ [33])).getD ((sg ++ (d :: dr ++ [33])).length - 1) 0 = 33 := by
        have e : (sg ++ (d :: dr ++ [33])).length - 1 = sg.length + ((d :: dr).length + 0) := by simp
        rw [e, getD_appR, getD_appR]; rfl
      rw [if_pos this, if_pos (by simp)]

/-! ### rows of tokens -/
def MIN : Tx := (Str.ofString "-0123456789").cps.toList
theorem min_eq : MIN = 45 :: DIG := by decide +kernel
def lastX (w : Tx) : Nat := w.getD (w.length - 1) 0
def numR (r : Tx) : Bool := !decide (r = [45]) && decide (r.getD 0 0 ∈ MIN)
def apartF (l r : Tx) : Bool := (decide (lastX l ∈ BEH) && (decide (r.getD 0 0 ∈ BEH) || numR r)) || (decide (l = [45]) && numR r)
theorem numR_of {r : Tx} (h : numX r) : numR r = true := by
  unfold numR
  rw [decide_eq_false h.1, min_eq]
  rcases h.2 with q | q
  · rw [q]; simp
  · rw [decide_eq_true (List.mem_cons_of_mem _ q)]; rfl
structure TokF (w : Tx) : Prop where
  ne : w ≠ []
  h35 : w.getD 0 0 ≠ 35
  h32 : w.getD 0 0 ≠ 32
  wl : w.getD 0 0 ∈ LET → lastX w ∈ BEH
  nl : numX w → lastX w ∈ BEH
  ml : lastX w = 45 → w = [45]
  no : 35 ∉ w
  len : w.length ≤ 62
theorem inw_beh {c : Nat} (h : c ∈ INW) : c ∈ BEH := by rw [inw_eq] at h; rw [beh_eq]; exact List.mem_append_left _ h
theorem dig_beh {c : Nat} (h : c ∈ DIG) : c ∈ BEH := by rw [beh_eq]; exact List.mem_append_left _ (List.mem_append_right _ h)
theorem last_mem {w : Tx} (h : w ≠ []) : lastX w ∈ w := by
  unfold lastX
  have : w.length - 1 < w.length := by have := List.length_pos_iff.mpr h; omega
  rw [getD_app this]; exact List.getElem_mem _
theorem beh45 : 45 ∉ BEH ∧ 35 ∉ BEH ∧ 32 ∉ BEH := by rw [beh_eq, let_eq, dig_eq]; decide
theorem tokF_of {w : Tx} (h : TokOk w) : TokF w := by
  cases h with
  | word c r h1 h2 h3 =>
    obtain ⟨n1, n2, n3, n4, _⟩ := let_not c h1
    have all : ∀ x ∈ c :: r, x ∈ BEH := fun x hx => by
      rcases List.mem_cons.mp hx with rfl | hx
      · exact inw_beh (inw_let h1)
      · exact inw_beh (h2 x hx)
    have hl := all _ (last_mem (w := c :: r) (by simp))
    exact ⟨by simp, n3, n4, fun _ => hl, fun _ => hl, fun z => absurd (z ▸ hl) beh45.1, fun z => absurd (all _ z) beh45.2.1, by simp; omega⟩
  | mark c h =>
    obtain ⟨n1, n2, n3, n4, n5⟩ := mrk_not c h
    exact ⟨by simp, n4, n5, fun z => absurd z n1, fun z => by
      rcases z.2 with q | q
      · exact absurd (by rw [show c = 45 from q]) z.1
      · exact absurd q n2, fun z => by have z' : c = 45 := z; rw [z'], fun z => n4 (List.mem_singleton.mp z).symm, by simp⟩
  | num neg bang ds h1 h2 h3 h4 =>
    obtain ⟨d, dr, rfl⟩ : ∃ d dr, ds = d :: dr := by
      cases ds with
      | nil => simp at h2
      | cons d dr => exact ⟨d, dr, rfl⟩
    have hd : d ∈ DIG := h1 d (by simp)
    obtain ⟨d1, d2, d3, d4, d5, d6⟩ := dig_not d hd
    have hl : lastX ((if neg = true then [45] else []) ++ (d :: dr ++ (if bang = true then [33] else []))) ∈ BEH := by
      unfold lastX
      have e : ((if neg = true then [45] else [] : Tx) ++ (d :: dr ++ (if bang = true then [33] else []))).length - 1 = (if neg = true then [45] else [] : Tx).length + ((d :: dr ++ (if bang = true then [33] else [] : Tx)).length - 1) := by simp
      rw [e, getD_appR]
      cases bang
      · have hm : (d :: dr).getD dr.length 0 ∈ DIG := by rw [getD_app (by simp)]; exact h1 _ (List.getElem_mem _)
        simp only [Bool.false_eq_true, if_false, List.append_nil, List.length_cons, Nat.add_sub_cancel]
        exact dig_beh hm
      · have e2 : (d :: dr ++ [33]).length - 1 = (d :: dr).length + 0 := by simp
        simp only [if_true]
        rw [e2, getD_appR, beh_eq]; simp
    have h0 : ((if neg = true then [45] else []) ++ (d :: dr ++ (if bang = true then [33] else []))).getD 0 0 = if neg = true then 45 else d := by cases neg <;> rfl
    refine ⟨by simp, ?_, ?_, fun _ => hl, fun _ => hl, fun z => absurd (z ▸ hl) beh45.1, fun z => ?_, ?_⟩
    · rw [h0]; cases neg
      · exact d5
      · show (45 : Nat) ≠ 35
        decide
    · rw [h0]; cases neg
      · exact d6
      · show (45 : Nat) ≠ 32
        decide
    · rcases List.mem_append.mp z with q | q
      · cases neg <;> simp at q
      · rcases List.mem_append.mp q with q | q
        · exact absurd rfl (dig_not 35 (h1 35 q)).2.2.2.2.1
        · cases bang <;> simp at q
    · cases neg <;> cases bang <;> simp at h3 ⊢ <;> omega
def flat : List (Nat × Tx) → Tx
  | [] => []
  | (s, w) :: b => List.replicate s 32 ++ (w ++ flat b)
def toksOf (i : Nat) : List (Nat × Tx) → List Tk
  | [] => []
  | (s, w) :: b => (kindF w, ((i + s : Nat) : Int) + 1, w) :: toksOf (i + s + w.length) b
def Gaps : Option Tx → List (Nat × Tx) → Prop
  | _, [] => True
  | p, (s, w) :: b => (s = 0 → ∀ q, p = some q → apartF q w = false) ∧ TokOk w ∧ Gaps (some w) b
theorem scan_sp {ts : List Tk} : ∀ (s : Nat) (pre r : Tx), Scan (pre ++ (List.replicate s 32 ++ r)) (pre.length + s) ts → Scan (pre ++ (List.replicate s 32 ++ r)) pre.length ts
  | 0, pre, r, h => h
  | s + 1, pre, r, h => by
    have e : pre ++ (List.replicate (s + 1) 32 ++ r) = (pre ++ [32]) ++ (List.replicate s 32 ++ r) := by rw [List.replicate_succ]; simp
    have g : (pre ++ (List.replicate (s + 1) 32 ++ r)).getD pre.length 0 = 32 := by
      have z : (pre ++ (List.replicate (s + 1) 32 ++ r)).getD (pre.length + 0) 0 = _ := getD_appR
      rw [show pre.length + 0 = pre.length from rfl] at z
      rw [z, List.replicate_succ]; rfl
    refine .space (by rw [List.replicate_succ]; simp) g ?_
    have ih := scan_sp (ts := ts) s (pre ++ [32]) r
    rw [← e, List.length_append, List.length_singleton] at ih
    exact ih (by rw [show pre.length + 1 + s = pre.length + (s + 1) by omega]; exact h)
def Tail (tail : Tx) : Prop := tail = [] ∨ ∃ c, tail = 35 :: c
theorem head_end {e : Nat} {tail : Tx} (ht : Tail tail) {c : Nat} (h : (List.replicate e 32 ++ tail).head? = some c) : c = 32 ∨ c = 35 := by
  cases e with
  | zero =>
    rcases ht with rfl | ⟨d, rfl⟩
    · simp at h
    · simp at h; exact .inr h.symm
  | succ e => rw [List.replicate_succ] at h; simp at h; exact .inl h.symm
theorem inw_bad : 32 ∉ INW ∧ 35 ∉ INW ∧ 32 ∉ DIG ∧ 35 ∉ DIG ∧ 32 ∉ BEF ∧ 32 ∉ BEH ∧ 35 ∉ BEH := by rw [inw_eq, bef_eq, beh_eq, let_eq, dig_eq]; decide
/-- what stands behind a token -/
theorem head_flat {b : List (Nat × Tx)} {w : Tx} {e : Nat} {tail : Tx} (ht : Tail tail) (g : Gaps (some w) b) {c : Nat} (h : (flat b ++ (List.replicate e 32 ++ tail)).head? = some c) : c = 32 ∨ c = 35 ∨ ∃ w', apartF w w' = false ∧ TokOk w' ∧ w'.getD 0 0 = c := by
  cases b with
  | nil =>
    rcases head_end ht h with q | q
    · exact .inl q
    · exact .inr (.inl q)
  | cons x b =>
    obtain ⟨s, w'⟩ := x
    obtain ⟨g1, g2, _⟩ := g
    cases s with
    | zero =>
      refine .inr (.inr ⟨w', g1 rfl w rfl, g2, ?_⟩)
      have ne := (tokF_of g2).ne
      cases w' with
      | nil => exact absurd rfl ne
      | cons d r => simp [flat] at h; exact h
    | succ s => simp [flat, List.replicate_succ] at h; exact .inl h.symm
def PrevOk (prev : Option Tx) (pre : Tx) : Prop := match prev with
  | none => ∀ c, pre.getLast? = some c → c = 32
  | some p => TokOk p ∧ ∃ q, pre = q ++ p
theorem sep_of {b : List (Nat × Tx)} {prev : Option Tx} {pre w : Tx} {s e : Nat} {tail : Tx} (ht : Tail tail) (g : Gaps prev ((s, w) :: b)) (hp : PrevOk prev pre) : Sep (pre ++ List.replicate s 32) w (flat b ++ (List.replicate e 32 ++ tail)) := by
  obtain ⟨g1, g2, g3⟩ := g
  have F := tokF_of g2
  refine ⟨fun hL c hc z => ?_, fun hm c hc z => ?_, fun hn => ⟨fun c hc z => ?_, fun c hc z => ?_⟩⟩
  · rcases head_flat ht g3 hc with rfl | rfl | ⟨w', q1, q2, rfl⟩
    · exact inw_bad.1 z
    · exact inw_bad.2.1 z
    · unfold apartF at q1
      rw [decide_eq_true (F.wl hL), decide_eq_true (inw_beh z)] at q1
      simp at q1
  · rcases head_flat ht g3 hc with rfl | rfl | ⟨w', q1, q2, rfl⟩
    · exact inw_bad.2.2.1 z
    · exact inw_bad.2.2.2.1 z
    · have nx : numX w' := ⟨fun y => by rw [y] at z; exact m45.2.1 z, .inr z⟩
      unfold apartF at q1
      rw [numR_of nx, decide_eq_true hm] at q1
      simp at q1
  · cases s with
    | succ s =>
      rw [List.getLast?_append] at hc
      rw [List.getLast?_replicate] at hc
      simp at hc
      rw [← hc] at z
      exact inw_bad.2.2.2.2.1 z
    | zero =>
      rw [List.replicate_zero, List.append_nil] at hc
      cases prev with
      | none =>
        have := hp c hc
        rw [this] at z
        exact inw_bad.2.2.2.2.1 z
      | some p =>
        obtain ⟨tp, q, rfl⟩ := hp
        have Fp := tokF_of tp
        have hl : c = lastX p := by
          rw [List.getLast?_append] at hc
          rcases List.eq_nil_or_concat p with rfl | ⟨r, d, rfl⟩
          · exact absurd rfl Fp.ne
          · simp at hc
            unfold lastX
            have := getD_appR (a := r) (b := [d]) (k := 0)
            rw [Nat.add_zero] at this
            simp [this]
            rw [← hc]
        have q1 := g1 rfl p rfl
        have nr := numR_of hn
        unfold apartF at q1
        rw [nr] at q1
        have zz : c ∈ BEH ∨ c = 45 := by
          rw [bef_eq] at z
          rcases List.mem_append.mp z with y | y
          · left; rw [beh_eq]; exact List.mem_append_left _ y
          · simp at y
            rcases y with y | y
            · left; rw [beh_eq, y]; simp
            · exact .inr y
        rcases zz with y | y
        · rw [hl] at y
          rw [decide_eq_true y] at q1
          simp at q1
        · have := Fp.ml (by rw [← hl]; exact y)
          rw [decide_eq_true this] at q1
          simp at q1
  · rcases head_flat ht g3 hc with rfl | rfl | ⟨w', q1, q2, rfl⟩
    · exact inw_bad.2.2.2.2.2.1 z
    · exact inw_bad.2.2.2.2.2.2 z
    · unfold apartF at q1
      rw [decide_eq_true (F.nl hn), decide_eq_true z] at q1
      simp at q1
theorem scan_body {e : Nat} {tail : Tx} (ht : Tail tail) : ∀ (b : List (Nat × Tx)) (prev : Option Tx) (pre : Tx), Gaps prev b → PrevOk prev pre → Scan (pre ++ (flat b ++ (List.replicate e 32 ++ tail))) pre.length (toksOf pre.length b)
  | [], prev, pre, _, _ => by
    show Scan (pre ++ (List.replicate e 32 ++ tail)) pre.length []
    refine scan_sp e pre tail (.stop fun h => ?_)
    have : pre ++ (List.replicate e 32 ++ tail) = (pre ++ List.replicate e 32) ++ tail := by simp
    have l : pre.length + e = (pre ++ List.replicate e 32).length + 0 := by simp
    rw [this, l, getD_appR]
    rcases ht with rfl | ⟨d, rfl⟩
    · simp at h
    · rfl
  | (s, w) :: b, prev, pre, g, hp => by
    have hs := sep_of (e := e) ht g hp
    obtain ⟨g1, g2, g3⟩ := g
    have F := tokF_of g2
    have e1 : pre ++ (flat ((s, w) :: b) ++ (List.replicate e 32 ++ tail)) = pre ++ (List.replicate s 32 ++ (w ++ (flat b ++ (List.replicate e 32 ++ tail)))) := by simp [flat]
    have e2 : pre ++ (List.replicate s 32 ++ (w ++ (flat b ++ (List.replicate e 32 ++ tail)))) = (pre ++ List.replicate s 32) ++ (w ++ (flat b ++ (List.replicate e 32 ++ tail))) := by simp
    have lp : pre.length + s = (pre ++ List.replicate s 32).length := by simp
    rw [e1]
    refine scan_sp s pre _ ?_
    rw [e2, lp]
    have ta := tok_at g2 hs
    show Scan _ _ ((kindF w, ((pre.length + s : Nat) : Int) + 1, w) :: toksOf (pre.length + s + w.length) b)
    rw [lp]
    have g0 : ((pre ++ List.replicate s 32) ++ (w ++ (flat b ++ (List.replicate e 32 ++ tail)))).getD (pre ++ List.replicate s 32).length 0 = w.getD 0 0 := by
      have := getD_appR (a := pre ++ List.replicate s 32) (b := w ++ (flat b ++ (List.replicate e 32 ++ tail))) (k := 0)
      rw [Nat.add_zero] at this
      rw [this]
      cases w with
      | nil => exact absurd rfl F.ne
      | cons c r => rfl
    have wl : 0 < w.length := List.length_pos_iff.mpr F.ne
    refine .tok (by simp; omega) (by rw [g0]; exact F.h35) (by rw [g0]; exact F.h32) ta F.ne (by simp; omega) ?_
    have ih := scan_body (e := e) ht b (some w) ((pre ++ List.replicate s 32) ++ w) g3 ⟨g2, _, rfl⟩
    rw [List.append_assoc (pre ++ List.replicate s 32), List.length_append (as := pre ++ List.replicate s 32)] at ih
    exact ih

/-! ### wrong pieces -/
def WordT (w : Tx) : Prop := ∃ c r, w = c :: r ∧ c ∈ LET ∧ (∀ x ∈ r, x ∈ INW) ∧ r.length ≤ 15
theorem WordT.tok {w : Tx} (h : WordT w) : TokOk w := by obtain ⟨c, r, rfl, h1, h2, h3⟩ := h; exact .word c r h1 h2 h3
/-- a numeral's sign and digits -/
structure Dg (neg : Bool) (ds : Tx) : Prop where
  dig : ∀ x ∈ ds, x ∈ DIG
  one : 1 ≤ ds.length
  most : ds.length ≤ 60
  zero : ds.getD 0 0 = 48 → ds.length = 1 ∧ neg = false
def sg (neg : Bool) : Tx := if neg then [45] else []
def bg (bang : Bool) : Tx := if bang then [33] else []
def NumT (w : Tx) : Prop := ∃ neg bang ds, Dg neg ds ∧ w = sg neg ++ (ds ++ bg bang)
theorem Dg.tok {neg bang : Bool} {ds : Tx} (h : Dg neg ds) : TokOk (sg neg ++ (ds ++ bg bang)) := .num neg bang ds h.dig h.one h.most h.zero
theorem NumT.tok {w : Tx} (h : NumT w) : TokOk w := by obtain ⟨neg, bang, ds, h, rfl⟩ := h; exact h.tok
theorem getD_at {a b : Tx} : (a ++ b).getD a.length 0 = b.getD 0 0 := by
  have := getD_appR (a := a) (b := b) (k := 0)
  rw [Nat.add_zero] at this; exact this
theorem bad_odd {pre r : Tx} {m : Nat} (h1 : m ∉ LET) (h2 : m ∉ DIG) (h3 : m ∉ MRK) (h4 : m ≠ 35) (h5 : m ≠ 32) : Bad (pre ++ m :: r) pre.length pre.length := by
  refine .here (by simp) (by rw [getD_at]; exact h4) (by rw [getD_at]; exact h5) ?_
  unfold tokF
  rw [inS_head, inS_head, inS_head, getD_at]
  have n45 : (m :: r).getD 0 0 ≠ 45 := fun z => h3 (by rw [show m = 45 from z]; exact m45.2.2)
  rw [decide_eq_false h1, decide_eq_false h2, decide_eq_false h3, if_neg Bool.false_ne_true, if_neg (fun z => by
    rcases z with q | q
    · cases q
    · exact n45 q.1), if_neg Bool.false_ne_true]
theorem bad_long {pre post w : Tx} {c : Nat} {r : Tx} (hw : w = c :: r) (hc : c ∈ LET) (hr : ∀ x ∈ r, x ∈ INW) (hl : 16 ≤ r.length) : Bad (pre ++ (w ++ post)) pre.length pre.length := by
  subst hw
  obtain ⟨n1, n2, n3, n4, _⟩ := let_not c hc
  have all : ∀ x ∈ c :: r, x ∈ INW := fun x hx => by
    rcases List.mem_cons.mp hx with rfl | hx
    · exact inw_let hc
    · exact hr x hx
  refine .here (by simp) (by rw [getD_at]; exact n3) (by rw [getD_at]; exact n4) ?_
  unfold tokF
  rw [List.cons_append, inS_head, decide_eq_true hc, if_pos rfl]
  unfold wordF
  rw [if_pos]
  have e : (pre ++ c :: (r ++ post)).drop pre.length = (c :: r) ++ post := by simp
  unfold sliceT runF
  rw [e, List.length_take, List.takeWhile_append]
  have tw : ((c :: r).takeWhile fun c => decide (c ∈ INW)) = c :: r := by
    have := tw_app (s := INW) (w := c :: r) (post := []) all (fun c hc => by cases hc)
    simpa using this
  rw [tw, if_pos rfl]
  simp only [List.length_append, List.length_cons]
  omega
theorem bad_skip {pre w r : Tx} {J : Nat} (tw : TokOk w) (hs : Sep pre w r) (h : Bad ((pre ++ w) ++ r) J (pre ++ w).length) : Bad (pre ++ (w ++ r)) J pre.length := by
  have F := tokF_of tw
  have g0 : (pre ++ (w ++ r)).getD pre.length 0 = w.getD 0 0 := by
    rw [getD_at]
    cases w with
    | nil => exact absurd rfl F.ne
    | cons c r => rfl
  have wl : 0 < w.length := List.length_pos_iff.mpr F.ne
  refine .tok (by simp; omega) (by rw [g0]; exact F.h35) (by rw [g0]; exact F.h32) (tok_at tw hs) F.ne (by simp) ?_
  rw [List.append_assoc, List.length_append] at h
  exact h
theorem bad_sp {J : Nat} : ∀ (s : Nat) (pre r : Tx), Bad (pre ++ (List.replicate s 32 ++ r)) J (pre.length + s) → Bad (pre ++ (List.replicate s 32 ++ r)) J pre.length
  | 0, pre, r, h => h
  | s + 1, pre, r, h => by
    have e : pre ++ (List.replicate (s + 1) 32 ++ r) = (pre ++ [32]) ++ (List.replicate s 32 ++ r) := by rw [List.replicate_succ]; simp
    have g : (pre ++ (List.replicate (s + 1) 32 ++ r)).getD pre.length 0 = 32 := by rw [getD_at, List.replicate_succ]; rfl
    refine .space (by rw [List.replicate_succ]; simp) g ?_
    have ih := bad_sp (J := J) s (pre ++ [32]) r
    rw [← e, List.length_append, List.length_singleton] at ih
    exact ih (by rw [show pre.length + 1 + s = pre.length + (s + 1) by omega]; exact h)
/-- why a numeral is wrong -/
inductive Why (pre : Tx) (neg : Bool) (ds rest : Tx) : Prop
  | long (h : 60 < ds.length)
  | zero (h : ds.getD 0 0 = 48) (h2 : 1 < ds.length ∨ neg = true)
  | before (c : Nat) (h : pre.getLast? = some c) (h2 : c ∈ BEF)
  | behind (c : Nat) (r : Tx) (h : rest = c :: r) (h2 : c ∈ BEH) (h3 : c ≠ 33)
  | bang (c : Nat) (r : Tx) (h : rest = 33 :: c :: r) (h2 : c ∈ BEH)
theorem inS_last {pre r : Tx} {c : Nat} (h : pre.getLast? = some c) (hc : c ∈ BEF) : inS (pre ++ r) ((pre.length : Int) - 1) BEF = true := by
  rcases List.eq_nil_or_concat pre with rfl | ⟨q, d, rfl⟩
  · simp at h
  · have hd : d = c := by simpa using h
    subst hd
    have e : (((q.concat d).length : Int) - 1) = (q.length : Int) := by simp
    rw [e, List.concat_eq_append, List.append_assoc, List.singleton_append, inS_head, decide_eq_true hc]
theorem bad_num {pre ds rest : Tx} {neg : Bool} (h1 : ∀ x ∈ ds, x ∈ DIG) (h2 : 1 ≤ ds.length) (hr : ∀ c, rest.head? = some c → c ∉ DIG) (hy : Why pre neg ds rest) : Bad (pre ++ (sg neg ++ (ds ++ rest))) pre.length pre.length := by
  generalize hsg : sg neg = s
  obtain ⟨d, dr, rfl⟩ : ∃ d dr, ds = d :: dr := by
    cases ds with
    | nil => simp at h2
    | cons d dr => exact ⟨d, dr, rfl⟩
  have hd : d ∈ DIG := h1 d (by simp)
  obtain ⟨d1, d2, d3, d4, d5, d6⟩ := dig_not d hd
  have hsl : s.length = if neg = true then 1 else 0 := by rw [← hsg]; cases neg <;> rfl
  have t1 : pre ++ (s ++ (d :: dr ++ rest)) = (pre ++ s) ++ (d :: dr ++ rest) := by simp
  have t2 : pre ++ (s ++ (d :: dr ++ rest)) = (pre ++ s ++ (d :: dr)) ++ rest := by simp
  have hpl : pre.length < (pre ++ (s ++ (d :: dr ++ rest))).length := by simp; omega
  have hpre : ∀ c, pre.getLast? = some c → c ∈ BEF → inS (pre ++ (s ++ (d :: dr ++ rest))) ((pre.length : Int) - 1) BEF = true := fun c q z => inS_last q z
  generalize hT : pre ++ (s ++ (d :: dr ++ rest)) = T at t1 t2 hpl hpre ⊢
  have g0 : T.getD pre.length 0 = if neg = true then 45 else d := by
    rw [← hT, getD_at, ← hsg]
    cases neg <;> rfl
  have len2 : (pre ++ s).length = pre.length + s.length := List.length_append
  have dgt : inS T ((pre ++ s).length : Int) DIG = true := by rw [t1, List.cons_append, inS_head, decide_eq_true hd]
  have hF : numFirst T pre.length = (pre ++ s).length := by
    unfold numFirst
    rw [g0, len2, hsl]
    cases neg
    · rw [if_neg (by simpa using d2)]; rfl
    · rfl
  have hL : inS T (pre.length : Int) LET = false := by
    have z : ∀ c r, T = pre ++ c :: r → c ∉ LET → inS T (pre.length : Int) LET = false := fun c r e hc => by rw [e, inS_head, decide_eq_false hc]
    cases neg
    · exact z d (dr ++ rest) (by rw [← hT, ← hsg]; simp [sg]) d1
    · exact z 45 (d :: dr ++ rest) (by rw [← hT, ← hsg]; simp [sg]) m45.1
  have hc2 : inS T (pre.length : Int) DIG = true ∨ (T.getD pre.length 0 = 45 ∧ inS T ((pre.length + 1 : Nat) : Int) DIG = true) := by
    cases neg
    · left; rw [len2, hsl] at dgt; exact dgt
    · right
      rw [len2, hsl] at dgt
      exact ⟨g0, dgt⟩
  have hR : runF T (pre ++ s).length DIG = (pre ++ s ++ (d :: dr)).length := by
    rw [t1, runF_tw h1 hr, List.length_append (as := pre ++ s)]
  have hSl : sliceT T (pre ++ s).length (pre ++ s ++ (d :: dr)).length = d :: dr := by
    rw [t1, List.length_append (as := pre ++ s), slice_mid]
  refine .here hpl (by rw [g0]; cases neg <;> simp <;> omega) (by rw [g0]; cases neg <;> simp <;> omega) ?_
  unfold tokF
  rw [if_neg (by rw [hL]; exact Bool.false_ne_true), if_pos hc2]
  unfold numF
  rw [hF, hR, hSl]
  by_cases c1 : 60 < (d :: dr).length
  · rw [if_pos c1]
  rw [if_neg c1]
  by_cases c2 : (d :: dr).getD 0 0 = 48 ∧ (1 < (d :: dr).length ∨ pre.length < (pre ++ s).length)
  · rw [if_pos c2]
  rw [if_neg c2, if_pos]
  cases hy with
  | long h => exact absurd h c1
  | zero h h2 =>
    refine absurd ⟨h, ?_⟩ c2
    rcases h2 with q | q
    · exact .inl q
    · right; rw [len2, hsl, if_pos q]; omega
  | before c h h2 => exact .inl (hpre c h h2)
  | behind c r h h2 h3 =>
    right
    have : numSt T (pre ++ s ++ (d :: dr)).length = (pre ++ s ++ (d :: dr)).length := by
      unfold numSt
      rw [if_neg]
      rw [t2, h, inS_head, bng_eq]
      simpa using h3
    rw [this, t2, h, inS_head, decide_eq_true h2]
  | bang c r h h2 =>
    right
    have e1 : numSt T (pre ++ s ++ (d :: dr)).length = (pre ++ s ++ (d :: dr) ++ [33]).length := by
      unfold numSt
      rw [if_pos]
      · simp; omega
      · rw [t2, h, inS_head, bng_eq]; simp
    have e2 : T = (pre ++ s ++ (d :: dr) ++ [33]) ++ c :: r := by rw [t2, h]; simp
    rw [e1, e2, inS_head, decide_eq_true h2]
/-- minus signs, then a numeral with a sign -/
theorem bad_minus {ds rest : Tx} (h1 : ∀ x ∈ ds, x ∈ DIG) (h2 : 1 ≤ ds.length) (hr : ∀ c, rest.head? = some c → c ∉ DIG) : ∀ (k : Nat) (pre : Tx), (k = 0 → ∃ c, pre.getLast? = some c ∧ c ∈ BEF) → Bad (pre ++ (List.replicate k 45 ++ (45 :: (ds ++ rest)))) (pre.length + k) pre.length
  | 0, pre, h => by
    obtain ⟨c, q1, q2⟩ := h rfl
    exact bad_num (neg := true) h1 h2 hr (.before c q1 q2)
  | k + 1, pre, _ => by
    have ih := bad_minus h1 h2 hr k (pre ++ [45]) (fun _ => ⟨45, by simp, by rw [bef_eq]; simp⟩)
    have e : pre ++ (List.replicate (k + 1) 45 ++ (45 :: (ds ++ rest))) = pre ++ ([45] ++ (List.replicate k 45 ++ (45 :: (ds ++ rest)))) := by rw [List.replicate_succ]; rfl
    rw [e]
    refine bad_skip (.mark 45 m45.2.2) ⟨fun z => absurd z m45.1, fun _ c hc => ?_, fun z => absurd rfl z.1⟩ ?_
    · have : c = 45 := by
        cases k with
        | zero => simpa using hc.symm
        | succ k => simp [List.replicate_succ] at hc; exact hc.symm
      rw [this]; exact m45.2.1
    · rw [List.length_append, List.length_singleton] at ih ⊢
      rw [show pre.length + (k + 1) = pre.length + 1 + k by omega]
      exact ih
def Pre (pre : Tx) : Prop := ∀ c, pre.getLast? = some c → c = 32
def Post (post : Tx) : Prop := ∀ c, post.head? = some c → c = 32
structure PieceOk (p : Tx) (j : Nat) : Prop where
  len : p.length ≤ 300
  bad : ∀ pre post, Pre pre → Post post → Bad (pre ++ (p ++ post)) (pre.length + j) pre.length
theorem post_nd {post : Tx} (h : Post post) : ∀ c, post.head? = some c → c ∉ DIG := fun c hc => by rw [h c hc]; exact inw_bad.2.2.1
theorem sep_word {pre w r : Tx} (hw : WordT w) (h : ∀ c, r.head? = some c → c ∉ INW) : Sep pre w r := by
  obtain ⟨c, r', rfl, h1, h2, h3⟩ := hw
  obtain ⟨n1, n2, _⟩ := let_not c h1
  refine ⟨fun _ => h, fun z => ?_, fun z => ?_⟩
  · simp at z; exact absurd z.1 n2
  · rcases z.2 with q | q
    · exact absurd q n2
    · exact absurd q n1
theorem sep_num {pre w r : Tx} (hw : NumT w) (hp : Pre pre) (h : ∀ c, r.head? = some c → c ∉ BEH) : Sep pre w r := by
  obtain ⟨neg, bang, ds, hd, rfl⟩ := hw
  obtain ⟨d, dr, rfl⟩ : ∃ d dr, ds = d :: dr := by
    cases ds with
    | nil => have := hd.one; simp at this
    | cons d dr => exact ⟨d, dr, rfl⟩
  obtain ⟨d1, d2, _⟩ := dig_not d (hd.dig d (by simp))
  have hh : (sg neg ++ (d :: dr ++ bg bang)).getD 0 0 = if neg = true then 45 else d := by cases neg <;> rfl
  refine ⟨fun z => ?_, fun z => ?_, fun _ => ⟨fun c hc => by rw [hp c hc]; exact inw_bad.2.2.2.2.1, h⟩⟩
  · rw [hh] at z
    cases neg
    · exact absurd z d1
    · exact absurd z m45.1
  · have hl := congrArg List.length z
    cases neg
    · simp [sg] at z; exact absurd z.1 d2
    · simp [sg] at z
theorem pc_odd {m : Nat} {r : Tx} (h1 : m ∉ LET) (h2 : m ∉ DIG) (h3 : m ∉ MRK) (h4 : m ≠ 35) (h5 : m ≠ 32) (hl : r.length ≤ 200) : PieceOk (m :: r) 0 := ⟨by simp; omega, fun pre post _ _ => bad_odd h1 h2 h3 h4 h5⟩
theorem pc_wordOdd {m : Nat} {w : Tx} (hw : WordT w) (h1 : m ∉ LET) (h2 : m ∉ DIG) (h3 : m ∉ MRK) (h4 : m ≠ 35) (h5 : m ≠ 32) : PieceOk (w ++ [m]) w.length := by
  have hl : w.length ≤ 16 := by obtain ⟨c, r, rfl, _, _, q⟩ := hw; simp; omega
  refine ⟨by simp; omega, fun pre post _ _ => ?_⟩
  rw [List.append_assoc]
  refine bad_skip hw.tok (sep_word hw fun c hc => ?_) ?_
  · simp at hc; subst hc
    rw [inw_eq]; intro z
    rcases List.mem_append.mp z with q | q
    · exact h1 q
    · exact h2 q
  · have := bad_odd (pre := pre ++ w) (r := post) h1 h2 h3 h4 h5
    rw [List.length_append] at this ⊢
    exact this
theorem pc_long {c : Nat} {w : Tx} (hc : c ∈ LET) (hw : WordT w) : PieceOk (List.replicate 17 c ++ w) 0 := by
  obtain ⟨d, r, rfl, h1, h2, h3⟩ := hw
  refine ⟨by simp; omega, fun pre post _ _ => bad_long (c := c) (r := List.replicate 16 c ++ (d :: r)) (by rfl) hc (fun x hx => ?_) (by simp)⟩
  rcases List.mem_append.mp hx with q | q
  · rw [(List.mem_replicate.mp q).2]; exact inw_let hc
  · rcases List.mem_cons.mp q with rfl | q
    · exact inw_let h1
    · exact h2 x q
/-- a numeral that is wrong wherever it stands -/
theorem pc_num {neg : Bool} {ds t : Tx} (h1 : ∀ x ∈ ds, x ∈ DIG) (h2 : 1 ≤ ds.length) (hl : ds.length + t.length ≤ 200) (ht : ∀ c, t.head? = some c → c ∉ DIG) (hy : ∀ pre post, Post post → Why pre neg ds (t ++ post)) : PieceOk (sg neg ++ (ds ++ t)) 0 := by
  refine ⟨by cases neg <;> simp [sg] <;> omega, fun pre post _ hp => ?_⟩
  have := bad_num (pre := pre) (neg := neg) (ds := ds) (rest := t ++ post) h1 h2 (fun c hc => ?_) (hy pre post hp)
  · rw [List.append_assoc, List.append_assoc]; exact this
  · cases t with
    | nil => exact post_nd hp c hc
    | cons a t => exact ht c hc
theorem pc_minus {ds : Tx} {k : Nat} (h1 : ∀ x ∈ ds, x ∈ DIG) (h2 : 1 ≤ ds.length) (h3 : ds.length ≤ 60) (hk : 1 ≤ k) (hk2 : k ≤ 10) : PieceOk (List.replicate k 45 ++ (45 :: ds)) k := by
  refine ⟨by simp; omega, fun pre post _ hp => ?_⟩
  have := bad_minus (rest := post) h1 h2 (post_nd hp) k pre (fun z => by omega)
  rw [List.append_assoc, List.cons_append]; exact this
theorem bef_beh {c : Nat} (h : c ∈ BEH) : c ∈ BEF := by
  rw [beh_eq] at h; rw [bef_eq]
  rcases List.mem_append.mp h with q | q
  · exact List.mem_append_left _ q
  · rw [List.mem_singleton.mp q]; simp
theorem last_get {w pre : Tx} (h : w ≠ []) : (pre ++ w).getLast? = some (lastX w) := by
  have hl := List.length_pos_iff.mpr h
  rw [List.getLast?_append, List.getLast?_eq_getElem?, List.getElem?_eq_getElem (by omega)]
  unfold lastX
  rw [getD_app (by omega)]; rfl
theorem pc_ahead {a ds : Tx} (ha : WordT a ∨ NumT a) (h1 : ∀ x ∈ ds, x ∈ DIG) (h2 : 1 ≤ ds.length) (h3 : ds.length ≤ 60) : PieceOk (a ++ (45 :: ds)) a.length := by
  have tk : TokOk a := ha.elim (fun h => h.tok) (fun h => h.tok)
  have F := tokF_of tk
  have hlast : lastX a ∈ BEH := by
    rcases ha with h | h
    · obtain ⟨c, r, rfl, h1, _⟩ := h
      exact F.wl h1
    · obtain ⟨neg, bang, ds, hd, rfl⟩ := h
      refine F.nl ⟨fun z => ?_, ?_⟩
      · have h0 := hd.one
        have hl := congrArg List.length z
        cases neg
        · cases ds with
          | nil => simp at h0
          | cons d dr => simp [sg] at z; exact (dig_not d (hd.dig d (by simp))).2.1 z.1
        · simp [sg] at hl; simp [hl.1] at h0
      · cases neg
        · right
          cases ds with
          | nil => have := hd.one; simp at this
          | cons d dr => exact hd.dig d (by simp)
        · left; rfl
  refine ⟨by have := F.len; simp; omega, fun pre post hpre hp => ?_⟩
  rw [List.append_assoc, List.cons_append]
  have hh : ∀ c, (45 :: (ds ++ post)).head? = some c → c = 45 := fun c hc => by simpa using hc.symm
  refine bad_skip tk (ha.elim (fun h => sep_word h fun c hc => ?_) (fun h => sep_num h hpre fun c hc => ?_)) ?_
  · rw [hh c hc, inw_eq]
    intro z
    rcases List.mem_append.mp z with q | q
    · exact m45.1 q
    · exact m45.2.1 q
  · rw [hh c hc]; exact beh45.1
  · have := bad_num (pre := pre ++ a) (neg := true) (ds := ds) (rest := post) h1 h2 (post_nd hp) (.before _ (last_get F.ne) (bef_beh hlast))
    rw [List.length_append] at this ⊢
    exact this
/-! ### behind a row -/
theorem Sep.congr {pre w a b : Tx} (h : a.head? = b.head?) (s : Sep pre w a) : Sep pre w b := ⟨fun q c hc => s.word q c (by rw [h]; exact hc), fun q c hc => s.minus q c (by rw [h]; exact hc), fun q => ⟨(s.num q).1, fun c hc => (s.num q).2 c (by rw [h]; exact hc)⟩⟩
theorem bad_body {e J : Nat} {rest : Tx} : ∀ (b : List (Nat × Tx)) (prev : Option Tx) (pre : Tx), Gaps prev b → PrevOk prev pre → Bad (pre ++ (flat b ++ (List.replicate (e + 1) 32 ++ rest))) J (pre.length + (flat b).length + (e + 1)) → Bad (pre ++ (flat b ++ (List.replicate (e + 1) 32 ++ rest))) J pre.length
  | [], prev, pre, _, _, h => bad_sp (e + 1) pre rest (by simpa [flat] using h)
  | (s, w) :: b, prev, pre, g, hp, h => by
    have hs := sep_of (e := e + 1) (.inl rfl) g hp
    obtain ⟨g1, g2, g3⟩ := g
    have e1 : pre ++ (flat ((s, w) :: b) ++ (List.replicate (e + 1) 32 ++ rest)) = pre ++ (List.replicate s 32 ++ (w ++ (flat b ++ (List.replicate (e + 1) 32 ++ rest)))) := by simp [flat]
    have e2 : pre ++ (List.replicate s 32 ++ (w ++ (flat b ++ (List.replicate (e + 1) 32 ++ rest)))) = (pre ++ List.replicate s 32) ++ (w ++ (flat b ++ (List.replicate (e + 1) 32 ++ rest))) := by simp
    have e3 : pre ++ (flat ((s, w) :: b) ++ (List.replicate (e + 1) 32 ++ rest)) = ((pre ++ List.replicate s 32) ++ w) ++ (flat b ++ (List.replicate (e + 1) 32 ++ rest)) := by simp [flat]
    have lp : pre.length + s = (pre ++ List.replicate s 32).length := by simp
    have l2 : pre.length + (flat ((s, w) :: b)).length + (e + 1) = ((pre ++ List.replicate s 32) ++ w).length + (flat b).length + (e + 1) := by simp [flat]; omega
    rw [l2, e3] at h
    have ih := bad_body b (some w) ((pre ++ List.replicate s 32) ++ w) g3 ⟨g2, _, rfl⟩ h
    rw [e1]
    refine bad_sp s pre _ ?_
    rw [e2, lp]
    refine bad_skip g2 (hs.congr ?_) ih
    cases hb : flat b with
    | nil => simp [List.replicate_succ]
    | cons c r => simp
theorem bad_row {e j : Nat} {p post : Tx} {b : List (Nat × Tx)} (g : Gaps none b) (hp : PieceOk p j) (hq : Post post) : Bad ((flat b ++ List.replicate e 32) ++ ([32] ++ (p ++ post))) ((flat b ++ List.replicate e 32).length + 1 + j) 0 := by
  have e1 : (flat b ++ List.replicate e 32) ++ ([32] ++ (p ++ post)) = [] ++ (flat b ++ (List.replicate (e + 1) 32 ++ (p ++ post))) := by rw [List.replicate_succ']; simp
  have e2 : (flat b ++ List.replicate e 32) ++ ([32] ++ (p ++ post)) = (flat b ++ List.replicate (e + 1) 32) ++ (p ++ post) := by rw [List.replicate_succ']; simp
  have l1 : (flat b ++ List.replicate e 32).length + 1 = (flat b ++ List.replicate (e + 1) 32).length := by simp; omega
  have := hp.bad (flat b ++ List.replicate (e + 1) 32) post (fun c hc => by
    rw [List.replicate_succ', ← List.append_assoc] at hc
    simpa using hc.symm) hq
  rw [e1]
  refine bad_body b none [] g (fun c hc => by simp at hc) ?_
  rw [← e1, e2, l1]
  simpa [Nat.add_assoc] using this
theorem bad_bare {p : Tx} {j : Nat} (hp : PieceOk p j) : Bad p j 0 := by
  have := hp.bad [] [] (fun c hc => by simp at hc) (fun c hc => by simp at hc)
  simpa using this

/-! ### the law's own defs -/
inductive PK | I | X | S
def S_pickS (K : Frag) : FS K := { A := Tx × Unit, args := aPen (aCons tX aNil), ρ := Tx, res := fun x => .im tX x, cost := 1, pre := fun a => a.1 ≠ [] ∧ a.1.length < 1000, post := fun a r => ∃ c ∈ a.1, r = [c] }
instance (K : Frag) : Ents (S_pickS K).args := inferInstanceAs (Ents (aPen (aCons tX aNil)))
def SPk (K : Frag) : PK → FS K
  | .I => S_pick K tI
  | .X => S_pick K tX
  | .S => S_pickS K
abbrev sp__law_pick (K : Frag) : Sp := SpEx fun q => (SPk K q).sp
section
variable {K : Frag} {w : Wd} {n : Option Nat} {Γ : TL.Env} {tb : TE} {E : XK}
theorem we_pickI {i : Nat} {k : Int → NK} (hi : Γ[i]? = some .pen) (h : WpE K w n Γ tb (tL tI) (fun xs n Γ => (xs ≠ [] ∧ xs.length < 1000) ∧ ∃ c, n = some c ∧ c + 1 ≤ 2 ^ 60 ∧ ∀ x ∈ xs, k x (some (c + 1)) Γ)) : WpE K w n Γ (tCall (sp__law_pick K) [] E (tCons (tVar i) (tCons tb tNil))) tI k :=
  we_callXN (S := SPk K) .I rfl rfl (wa_pen hi (wa_cons (t := tL tI) (we_mono h fun m n' Γ' ⟨h1, c, hn, hc, h2⟩ => wa_nil ⟨h1, c, hn, hc, fun r hr => h2 r hr⟩)))
theorem we_pickX {i : Nat} {k : Tx → NK} (hi : Γ[i]? = some .pen) (h : WpE K w n Γ tb (tL tX) (fun xs n Γ => (xs ≠ [] ∧ xs.length < 1000) ∧ ∃ c, n = some c ∧ c + 1 ≤ 2 ^ 60 ∧ ∀ x ∈ xs, k x (some (c + 1)) Γ)) : WpE K w n Γ (tCall (sp__law_pick K) [] E (tCons (tVar i) (tCons tb tNil))) tX k :=
  we_callXN (S := SPk K) .X rfl rfl (wa_pen hi (wa_cons (t := tL tX) (we_mono h fun m n' Γ' ⟨h1, c, hn, hc, h2⟩ => wa_nil ⟨h1, c, hn, hc, fun r hr => h2 r hr⟩)))
theorem we_pickS {i : Nat} {k : Tx → NK} (hi : Γ[i]? = some .pen) (h : WpE K w n Γ tb tX (fun xs n Γ => (xs ≠ [] ∧ xs.length < 1000) ∧ ∃ c, n = some c ∧ c + 1 ≤ 2 ^ 60 ∧ ∀ x ∈ xs, k [x] (some (c + 1)) Γ)) : WpE K w n Γ (tCall (sp__law_pick K) [] E (tCons (tVar i) (tCons tb tNil))) tX k :=
  we_callXN (S := SPk K) .S rfl rfl (wa_pen hi (wa_cons (t := tX) (we_mono h fun m n' Γ' ⟨h1, c, hn, hc, h2⟩ => wa_nil ⟨h1, c, hn, hc, fun r ⟨x, hx, hr⟩ => by subst hr; exact h2 x hx⟩)))
end
theorem ok_pickI {P : Program} {w : World} {K : Frag} {mg : Str → Option Value} {base : Heap} {f C_BadText : Addr} {fd : FuncData} (F : Fun K "_law_pick" "_law_pick" s__law_pick f fd) (T : Bts mg) (XC : Xc P K mg C_BadText) (c__law_draw : Callee P w K mg base CX0 1 "_law_draw" ["_law_pen_here", "_law_many"] (sp__law_draw K)) : FnOk P w K mg base CX0 2 f fd ["_law_pen_here", "_law_items"] ((S_pick K tI).sp) := by
  refine F.ok sc__law_pick (fun vs H Q E h => fs_len h) (fun cdv A outer s H vs Q E hr h => ⟨_, (pss_one (ps_ret (pe_ix (ix_seqK K rfl) (pv 1) (pe_callC c__law_draw (hr.mono (by decide)) rfl (pa_cons (pv 0) (pa_cons (pe_callB (call_lenK K rfl) (by rfl) T.b_len PySem.boot_len (pa_cons (pv 1) pa_nil)) pa_nil))) (fun _ _ => rfl)))), fs_body (Nat.le_of_ble_eq_true rfl) h fun w n a hp hm => ?_⟩)
  try dsimp only [S_pickI, List.map_cons, List.map_nil] at hp hm ⊢

  obtain ⟨items, _⟩ := a
  dsimp only [S_pick] at hp hm ⊢
  obtain ⟨m, rfl, hb⟩ := hm.some
  obtain ⟨hp1, hp2⟩ := hp
  have hl : 0 < items.length := List.length_pos_iff.mpr hp1
  show WpS K w (some m) [.pen, .im (tL tI) items] _ _ _ _ _ _
  walk_at "go"
  rename_i r h0 h1
  obtain ⟨x, hx, hm⟩ := atI_mem h0 h1
  exact ⟨x, hx, hm, CLe_some (by omega)⟩
theorem ok_pickX {P : Program} {w : World} {K : Frag} {mg : Str → Option Value} {base : Heap} {f C_BadText : Addr} {fd : FuncData} (F : Fun K "_law_pick" "_law_pick" s__law_pick f fd) (T : Bts mg) (XC : Xc P K mg C_BadText) (c__law_draw : Callee P w K mg base CX0 1 "_law_draw" ["_law_pen_here", "_law_many"] (sp__law_draw K)) : FnOk P w K mg base CX0 2 f fd ["_law_pen_here", "_law_items"] ((S_pick K tX).sp) := by
  refine F.ok sc__law_pick (fun vs H Q E h => fs_len h) (fun cdv A outer s H vs Q E hr h => ⟨_, (pss_one (ps_ret (pe_ix (ix_seqK K rfl) (pv 1) (pe_callC c__law_draw (hr.mono (by decide)) rfl (pa_cons (pv 0) (pa_cons (pe_callB (call_lenK K rfl) (by rfl) T.b_len PySem.boot_len (pa_cons (pv 1) pa_nil)) pa_nil))) (fun _ _ => rfl)))), fs_body (Nat.le_of_ble_eq_true rfl) h fun w n a hp hm => ?_⟩)
  try dsimp only [S_pickX, List.map_cons, List.map_nil] at hp hm ⊢

  obtain ⟨items, _⟩ := a
  dsimp only [S_pick] at hp hm ⊢
  obtain ⟨m, rfl, hb⟩ := hm.some
  obtain ⟨hp1, hp2⟩ := hp
  have hl : 0 < items.length := List.length_pos_iff.mpr hp1
  show WpS K w (some m) [.pen, .im (tL tX) items] _ _ _ _ _ _
  refine ws_ret (t := tX) <| we_ixVL rfl ?_
  walk_at "go"
  rename_i r h0 h1
  obtain ⟨x, hx, hm⟩ := atI_mem h0 h1
  exact ⟨x, hx, hm, CLe_some (by omega)⟩
theorem ok_pickS {P : Program} {w : World} {K : Frag} {mg : Str → Option Value} {base : Heap} {f C_BadText : Addr} {fd : FuncData} (F : Fun K "_law_pick" "_law_pick" s__law_pick f fd) (T : Bts mg) (XC : Xc P K mg C_BadText) (c__law_draw : Callee P w K mg base CX0 1 "_law_draw" ["_law_pen_here", "_law_many"] (sp__law_draw K)) : FnOk P w K mg base CX0 2 f fd ["_law_pen_here", "_law_items"] ((S_pickS K).sp) := by
  refine F.ok sc__law_pick (fun vs H Q E h => fs_len h) (fun cdv A outer s H vs Q E hr h => ⟨_, (pss_one (ps_ret (pe_ix (ix_seqK K rfl) (pv 1) (pe_callC c__law_draw (hr.mono (by decide)) rfl (pa_cons (pv 0) (pa_cons (pe_callB (call_lenK K rfl) (by rfl) T.b_len PySem.boot_len (pa_cons (pv 1) pa_nil)) pa_nil))) (fun _ _ => rfl)))), fs_body (Nat.le_of_ble_eq_true rfl) h fun w n a hp hm => ?_⟩)
  try dsimp only [S_pickS, List.map_cons, List.map_nil] at hp hm ⊢

  obtain ⟨items, _⟩ := a
  dsimp only [S_pickS] at hp hm ⊢
  obtain ⟨m, rfl, hb⟩ := hm.some
  obtain ⟨hp1, hp2⟩ := hp
  have hl : 0 < items.length := List.length_pos_iff.mpr hp1
  show WpS K w (some m) [.pen, .im tX items] _ _ _ _ _ _
  refine ws_ret (t := tX) <| we_ixX <| we_var rfl <| we_draw rfl <| we_lenVX rfl (by omega) ⟨by omega, m, rfl, by omega, fun r h0 h1 => ⟨by omega, _, atX h0 h1, ⟨_, ?_, rfl⟩, CLe_some (by omega)⟩⟩
  have hn : r.toNat < items.length := by omega
  rw [getD_app hn]
  exact List.getElem_mem _
theorem atLast {a : Tx} (h : a ≠ []) : atI a (-1) = some (lastX a) := by
  have hl := List.length_pos_iff.mpr h
  unfold atI lastX
  have e : ixN a.length (-1) = some (a.length - 1) := by
    unfold ixN
    rw [if_neg (by decide), if_pos (by omega)]
    congr 1; omega
  rw [e]
  show a[a.length - 1]? = _
  rw [getD_app (by omega), List.getElem?_eq_getElem (by omega)]
theorem at0 {a : Tx} (h : a ≠ []) : atI a 0 = some (a.getD 0 0) := by
  have hl := List.length_pos_iff.mpr h
  exact atX (by decide) (by omega)
def S__law_apart (K : Frag) : FS K := { A := Tx × Tx × Unit, args := aCons tX (aCons tX aNil), ρ := Bool, res := fun x => .im tBo x, cost := 0, pre := fun a => (a.1 ≠ [] ∧ a.1.length ≤ 1000) ∧ a.2.1 ≠ [] ∧ a.2.1.length ≤ 1000, post := fun a r => r = apartF a.1 a.2.1 }
abbrev sp__law_apart (K : Frag) : Sp := (S__law_apart K).sp
instance (K : Frag) : Ents (S__law_apart K).args := inferInstanceAs (Ents (aCons tX (aCons tX aNil)))
theorem lit2 {s : Str} {a b : Tx} (hs : s.cps.toList = b) : decide (a = s.cps.toList) = decide (a = b) := by rw [hs]
theorem ok__law_apart {P : Program} {w : World} {K : Frag} {mg : Str → Option Value} {base : Heap} {f C_BadText : Addr} {fd : FuncData} (F : Fun K "_law_apart" "_law_apart" s__law_apart f fd) (T : Bts mg) (XC : Xc P K mg C_BadText) : FnOk P w K mg base CX0 1 f fd ["_law_left", "_law_right"] (sp__law_apart K) := by
  refine F.ok sc__law_apart (fun vs H Q E h => fs_len h) (fun cdv A outer s H vs Q E hr h => ⟨_, (pss_cons (ps_set (i := 2) sc__law_apart.nd rfl (by first | exact Or.inl rfl | exact Or.inr rfl) pe_str)
      (pss_cons (ps_set (i := 3) sc__law_apart.nd rfl (by first | exact Or.inl rfl | exact Or.inr rfl) (pe_and (pe_cmpR (op_neK K rfl hr.units) (pv 1) pe_str (nomark _)) (pe_one (pe_cmpR op_inStr (pe_ix (ix_seqK K rfl) (pv 1) pe_int (fun _ _ => rfl)) pe_str (by with_unfolding_all rfl)))))
      (pss_one (ps_ret (pe_or (pe_and (pe_cmpR op_inStr (pe_ix (ix_seqK K rfl) (pv 0) (pe_un un_negU pe_int) (fun _ _ => rfl)) (pv 2) (by with_unfolding_all rfl)) (pe_one (pe_or (pe_cmpR op_inStr (pe_ix (ix_seqK K rfl) (pv 1) pe_int (fun _ _ => rfl)) (pv 2) (by with_unfolding_all rfl)) (pe_one (pv 3))))) (pe_one (pe_and (pe_cmpR (op_eqK K rfl hr.units) (pv 0) pe_str (nomark _)) (pe_one (pv 3))))))))), fs_body (Nat.le_of_ble_eq_true rfl) h fun w n a hp hm => ?_⟩)
  try dsimp only [S__law_apart, List.map_cons, List.map_nil] at hp hm ⊢

  obtain ⟨l, r, _⟩ := a
  obtain ⟨⟨l1, l2⟩, r1, r2⟩ : (l ≠ [] ∧ l.length ≤ 1000) ∧ r ≠ [] ∧ r.length ≤ 1000 := hp
  show WpS K w n [.im tX l, .im tX r, .no, .no] _ _ _ _ _ _
  refine ws_seq <| ws_set (t := tX) <| we_X <| setE_go (by dsimp only [List.set]) ?_
  refine ws_seq <| ws_set (t := tBo) <| we_mono (k := fun (x : Bool) n' Γ' => x = numR r ∧ n' = n ∧ Γ' = [.im tX l, .im tX r, .im tX BEH, .no]) ?_ ?_
  · refine we_andV <| we_neX <| we_var rfl <| we_X ?_
    rw [lit2 (b := [45]) (by decide +kernel)]
    refine ⟨fun h => ?_, fun h => ⟨?_, rfl, rfl⟩⟩
    · refine we_inX <| we_ixX <| we_var rfl <| we_int ⟨by omega, _, at0 r1, we_X ⟨_, rfl, ?_, rfl, rfl⟩⟩
      unfold numR
      rw [h]; rfl
    · unfold numR
      rw [h]; rfl
  rintro _ n _ ⟨rfl, rfl, rfl⟩
  refine setE_go (by dsimp only [List.set]) ?_
  refine ws_ret (t := tBo) <| we_orV <| we_andV <| we_inX <| we_ixX <| we_var rfl <| we_neg <| we_int ⟨by omega, _, atLast l1, we_var rfl ⟨_, rfl, fun h1 => ?_, fun h1 => ?_⟩⟩
  · refine we_orV <| we_inX <| we_ixX <| we_var rfl <| we_int ⟨by omega, _, at0 r1, we_var rfl ⟨_, rfl, fun h2 => ?_, fun h2 => ?_⟩⟩
    · refine ⟨fun _ => ⟨?_, CLe_refl⟩, fun z => by cases z⟩
      show _ = apartF l r
      unfold apartF
      rw [h1, h2]; rfl
    · refine we_var rfl ⟨fun h3 => ⟨?_, CLe_refl⟩, fun h3 => ?_⟩
      · show _ = apartF l r
        unfold apartF
        rw [h1, h3]; simp
      · refine we_andV <| we_eqX <| we_var rfl <| we_X ?_
        rw [lit2 (b := [45]) (by decide +kernel)]
        refine ⟨fun h4 => we_var rfl ⟨?_, CLe_refl⟩, fun h4 => ⟨?_, CLe_refl⟩⟩
        · show _ = apartF l r
          unfold apartF
          rw [h1, h2, h3]; simp
        · show _ = apartF l r
          unfold apartF
          rw [h1, h2, h3]; simp
  · refine ⟨fun z => (by cases z), fun _ => ?_⟩
    refine we_andV <| we_eqX <| we_var rfl <| we_X ?_
    rw [lit2 (b := [45]) (by decide +kernel)]
    refine ⟨fun h4 => we_var rfl ⟨?_, CLe_refl⟩, fun h4 => ⟨?_, CLe_refl⟩⟩
    · show _ = apartF l r
      unfold apartF
      rw [h1, h4]; simp
    · show _ = apartF l r
      unfold apartF
      rw [h1, h4]; simp

def KW : List Tx := spl [32] 0 [] (Str.ofString "let fun def end part repeat as each in when else shift turn flip dot line box ring").cps.toList
theorem kw_ok : KW ≠ [] ∧ KW.length < 1000 ∧ ∀ w ∈ KW, w ≠ [] ∧ (∀ c ∈ w, c ∈ LET) ∧ w.length ≤ 6 := by
  have e : KW.all (fun w => (!w.isEmpty) && (w.all (fun c => decide (c ∈ LET)) && decide (w.length ≤ 6))) = true := by decide +kernel
  have e2 : (!KW.isEmpty && decide (KW.length < 1000)) = true := by decide +kernel
  rw [Bool.and_eq_true] at e2
  refine ⟨fun z => by rw [z] at e2; simp at e2, of_decide_eq_true e2.2, fun w hw => ?_⟩
  have := List.all_eq_true.mp e w hw
  rw [Bool.and_eq_true, Bool.and_eq_true, List.all_eq_true] at this
  refine ⟨fun z => by rw [z] at this; simp at this, fun c hc => of_decide_eq_true (this.2.1 c hc), of_decide_eq_true this.2.2⟩
def S__law_keywords (K : Frag) : FS K := { A := Unit, args := aNil, ρ := List Tx, res := fun x => .im (tL tX) x, cost := 0, pre := fun a => True, post := fun a r => r = KW }
abbrev sp__law_keywords (K : Frag) : Sp := (S__law_keywords K).sp
instance (K : Frag) : Ents (S__law_keywords K).args := inferInstanceAs (Ents aNil)
theorem sp_lit : (Str.ofString " ") = SX.S [32] := by decide +kernel
theorem nil_lit : (Str.ofString "") = SX.S [] := by decide +kernel
theorem ok__law_keywords {P : Program} {w : World} {K : Frag} {mg : Str → Option Value} {base : Heap} {f C_BadText : Addr} {fd : FuncData} (F : Fun K "_law_keywords" "_law_keywords" s__law_keywords f fd) (T : Bts mg) (XC : Xc P K mg C_BadText) : FnOk P w K mg base CX0 1 f fd [] (sp__law_keywords K) := by
  refine F.ok sc__law_keywords (fun vs H Q E h => fs_len h) (fun cdv A outer s H vs Q E hr h => ⟨_, (pss_one (ps_ret (pe_m1 PySem.F.slot_str_split PySem.F.type_str_split mt_splitS pe_str pe_str))), fs_body (Nat.le_of_ble_eq_true rfl) h fun w n a hp hm => ?_⟩)
  try dsimp only [S__law_keywords, List.map_cons, List.map_nil] at hp hm ⊢

  show WpS K w n [] _ (fun x => .im (tL tX) x) _ _ _ _
  refine ws_ret (t := tL tX) <| we_ofM' <| wm_splitX sp_lit (by simp) (by decide) <| we_X ⟨?_, _, rfl, rfl, CLe_refl⟩
  have : (Str.ofString "let fun def end part repeat as each in when else shift turn flip dot line box ring").cps.toList.length ≤ 100 := by decide +kernel
  omega
theorem kw_tok {w : Tx} (h : w ∈ KW) : TokOk w := by
  obtain ⟨h1, h2, h3⟩ := kw_ok.2.2 w h
  cases w with
  | nil => exact absurd rfl h1
  | cons c r => exact .word c r (h2 c (by simp)) (fun x hx => inw_let (h2 x (by simp [hx]))) (by simp at h3; omega)
theorem flat1 {P : Nat → Prop} {xs : List Int} {ys : List Tx} (p : Paired (fun (_ : Int) (y : Tx) => ∃ c, y = [c] ∧ P c) xs ys) : ys.flatten.length = xs.length ∧ (ys.map List.length).sum = xs.length ∧ ∀ c ∈ ys.flatten, P c := by
  induction p with
  | nil => exact ⟨rfl, rfl, fun c hc => by simp at hc⟩
  | cons h r ih =>
    obtain ⟨c, rfl, hc⟩ := h
    obtain ⟨i1, i2, i3⟩ := ih
    refine ⟨by simp only [List.flatten_cons, List.length_append, List.length_cons, List.length_nil, i1]; omega, by simp only [List.map_cons, List.sum_cons, List.length_cons, List.length_nil, i2]; omega, fun d hd => ?_⟩
    rw [List.flatten_cons] at hd
    rcases List.mem_append.mp hd with q | q
    · rw [List.mem_singleton.mp q]; exact hc
    · exact i3 d q
def S__law_word (K : Frag) : FS K := { A := Unit, args := aPen aNil, ρ := Tx, res := fun x => .im tX x, cost := 20, pre := fun a => True, post := fun a r => WordT r }
abbrev sp__law_word (K : Frag) : Sp := (S__law_word K).sp
instance (K : Frag) : Ents (S__law_word K).args := inferInstanceAs (Ents (aPen aNil))
theorem ok__law_word {P : Program} {w : World} {K : Frag} {mg : Str → Option Value} {base : Heap} {f C_BadText : Addr} {fd : FuncData} (F : Fun K "_law_word" "_law_word" s__law_word f fd) (T : Bts mg) (XC : Xc P K mg C_BadText) (c__law_keywords : Callee P w K mg base CX0 1 "_law_keywords" [] (sp__law_keywords K)) (c__law_pick : Callee P w K mg base CX0 2 "_law_pick" ["_law_pen_here", "_law_items"] (sp__law_pick K)) : FnOk P w K mg base CX0 3 f fd ["_law_pen_here"] (sp__law_word K) := by
  refine F.ok sc__law_word (fun vs H Q E h => fs_len h) (fun cdv A outer s H vs Q E hr h => ⟨_, (pss_cons (ps_asg (pe_tup (pa_cons pe_str (pa_cons pe_str pa_nil))) (pg_tupK (n := 2) K rfl rfl (pgs_cons (pg_name (i := 1) sc__law_word.nd rfl (by first | exact Or.inl rfl | exact Or.inr rfl)) (pgs_cons (pg_name (i := 2) sc__law_word.nd rfl (by first | exact Or.inl rfl | exact Or.inr rfl)) pgs_nil))))
      (pss_cons (ps_set (i := 3) sc__law_word.nd rfl (by first | exact Or.inl rfl | exact Or.inr rfl) (pe_callC c__law_pick (hr.mono (by decide)) rfl (pa_cons (pv 0) (pa_cons (pe_lst (pa_cons pe_int (pa_cons pe_int (pa_cons pe_int (pa_cons pe_int (pa_cons pe_int (pa_cons pe_int (pa_cons pe_int (pa_cons pe_int pa_nil))))))))) pa_nil))))
      (pss_cons (ps_set (i := 4) sc__law_word.nd rfl (by first | exact Or.inl rfl | exact Or.inr rfl) (pe_m1 PySem.F.slot_str_join PySem.F.type_str_join (mt_joinK K rfl) pe_str (pe_lc (own := [("_law_k", 5)]) rfl sc__law_word.nd (pi_range1 (by rfl) T.b_range (pa_cons (pv 3) pa_nil)) (blkOk_by (N := ["_law_pen_here", "_law_letters", "_law_digits", "_law_size", "_law_found", "_law_k"]) (sc := defScope s__law_word) (by decide +kernel)) (fun _ _ _ _ _ => (pg_name (i := 5) sc__law_word.nd rfl (by first | exact Or.inl rfl | exact Or.inr rfl))) (fun _ _ _ _ _ => pts_nil) (fun _ _ _ _ _ => (pe_callC c__law_pick (hr.mono (by decide)) rfl (pa_cons (pv 0) (pa_cons (pe_ifExp (pt_cmpR (op_eqK K rfl hr.units) (pv 5) pe_int (nomark _)) (pv 1) (pe_op op_addU (pv 1) (pv 2))) pa_nil)))))))
      (pss_one (ps_ret (pe_ifExp (pt_cmpR (op_inSeqK K rfl) (pv 4) (pe_callC0 c__law_keywords (hr.mono (by decide)) rfl) (by with_unfolding_all rfl)) (pe_op op_addU (pv 4) pe_str) (pv 4))))))), fs_body (Nat.le_of_ble_eq_true rfl) h fun w n a hp hm => ?_⟩)
  try dsimp only [S__law_word, List.map_cons, List.map_nil] at hp hm ⊢

  obtain ⟨m, rfl, hb⟩ := hm.some
  show WpS K w (some m) [.pen, .no, .no, .no, .no, .no] _ (fun x => .im tX x) _ _ _ _
  refine ws_seq <| ws_asg (t := tP tX tX) <| we_tup2 <| we_X <| we_X <| wg_pair <| setE_go (by dsimp only [List.set]) ?_
  refine ws_seq <| ws_set (t := tI) <| we_pickI rfl ?_
  walk_at "go"
  refine ⟨⟨by simp, by simp⟩, _, rfl, by omega, ?_⟩
  intro z hz
  have hz : (1 : Int) ≤ z ∧ z ≤ 16 := (by decide : ∀ y ∈ [(1 : Int), 1, 2, 3, 5, 8, 15, 16], (1 : Int) ≤ y ∧ y ≤ 16) z hz
  refine setE_go (by dsimp only [List.set]) ?_
  show WpS K w (some (m + 1)) [.pen, .im tX LET, .im tX DIG, .im tI z, .no, .no] _ _ _ _ _ _
  refine ws_seq <| ws_set (t := tX) <| we_joinX nil_lit <| we_ofM' <| wm_mapM (t := tI) tX (fun (x : Int) y => ∃ c, y = [c] ∧ c ∈ INW ∧ (x = 0 → c ∈ LET)) 1 (m + 1) (gsl_name (by decide)) ?_
  walk_at "go"
  refine ⟨by simp; omega, ?_, ?_⟩
  · intro w' k y hy
    obtain ⟨hk, rfl⟩ := rg_get hy
    refine setE_go (by dsimp only [List.set, hideE, Ent.hide, List.map]) <| wg_name <| setE_go (by dsimp only [List.set]) ?_
    refine we_pickS rfl <| we_if <| wt_val <| we_eqI <| we_var rfl <| we_int <| dec2 (fun h0 => ?_) (fun h0 => ?_)
    · refine we_var rfl ⟨⟨by rw [let_eq]; simp, by rw [let_eq]; simp⟩, _, rfl, by omega, fun c hc => ⟨⟨c, rfl, inw_let hc, fun _ => hc⟩, rfl⟩⟩
    · refine we_addX <| we_var rfl <| we_var rfl ⟨by rw [let_eq, dig_eq]; simp, ⟨by rw [let_eq]; simp, by rw [let_eq, dig_eq]; simp⟩, _, rfl, by omega, fun c hc => ⟨⟨c, rfl, by rw [inw_eq]; exact hc, fun z => absurd z h0⟩, rfl⟩⟩
  intro ys hys
  have fl := flat1 (P := fun c => c ∈ INW) (pw_mono (fun _ _ ⟨c, h1, h2, _⟩ => ⟨c, h1, h2⟩) hys)
  have hxl : ((List.range z.toNat).map fun (i : Nat) => (i : Int)).length = z.toNat := by simp
  rw [hxl] at fl ⊢
  obtain ⟨c0, hc0, hl0⟩ : ∃ c0 r, ys.flatten = c0 :: r ∧ c0 ∈ LET := by
    obtain ⟨y, hy, c, rfl, _, h3⟩ := pw_getL (i := 0) (a := (0 : Int)) hys (by
      have : 0 < z.toNat := by omega
      rw [List.getElem?_map, List.getElem?_range this]; rfl)
    cases ys with
    | nil => simp at hy
    | cons y0 yr =>
      simp at hy; subst hy
      exact ⟨c, yr.flatten, by simp, h3 rfl⟩
  obtain ⟨hfl, hlet⟩ := hl0
  have tok : WordT ys.flatten := by
    rw [hfl]
    have h1 := fl.1
    rw [hfl] at h1
    exact ⟨c0, hc0, rfl, hlet, fun x hx => fl.2.2 x (by rw [hfl]; simp [hx]), by simp at h1; omega⟩
  refine ⟨ys, rfl, by rw [fl.2.1]; omega, setE_go (by dsimp only [List.set]) ?_⟩
  refine ws_ret (t := tX) <| we_if <| wt_val <| we_inLX <| we_var rfl <| we_call0 (S := S__law_keywords K) rfl rfl <| wa_nil ⟨trivial, ?_⟩
  intro (kw : List Tx) (hkw : kw = KW)
  subst hkw
  refine dec2 (fun hin => ?_) (fun hin => we_var rfl ⟨tok, CLe_some (by omega)⟩)
  refine we_addX <| we_var rfl <| we_X ⟨?_, ?_, CLe_some (by omega)⟩
  · have e : (Str.ofString "z").cps.toList.length = 1 := by decide +kernel
    have := fl.1
    omega
  · obtain ⟨k1, k2, k3⟩ := kw_ok.2.2 _ hin
    have e : (Str.ofString "z").cps.toList = [122] := by decide +kernel
    show WordT (ys.flatten ++ (Str.ofString "z").cps.toList)
    rw [e, hfl]
    rw [hfl] at k2 k3
    refine ⟨c0, hc0 ++ [122], rfl, hlet, fun x hx => ?_, by simp at k3 ⊢; omega⟩
    rcases List.mem_append.mp hx with q | q
    · exact inw_let (k2 x (by simp [q]))
    · rw [List.mem_singleton.mp q, inw_eq, let_eq]; simp

def S__law_numeral (K : Frag) : FS K := { A := Unit, args := aPen aNil, ρ := Tx, res := fun x => .im tX x, cost := 70, pre := fun a => True, post := fun a r => NumT r }
abbrev sp__law_numeral (K : Frag) : Sp := (S__law_numeral K).sp
instance (K : Frag) : Ents (S__law_numeral K).args := inferInstanceAs (Ents (aPen aNil))
theorem lit19 : (Str.ofString "123456789").cps.toList = [49, 50, 51, 52, 53, 54, 55, 56, 57] := by decide +kernel
theorem lit0 : (Str.ofString "0").cps.toList = [48] := by decide +kernel
theorem litm : (Str.ofString "-").cps.toList = [45] := by decide +kernel
theorem litb : (Str.ofString "!").cps.toList = [33] := by decide +kernel
theorem lite : (Str.ofString "").cps.toList = [] := by decide +kernel
theorem ok__law_numeral {P : Program} {w : World} {K : Frag} {mg : Str → Option Value} {base : Heap} {f C_BadText : Addr} {fd : FuncData} (F : Fun K "_law_numeral" "_law_numeral" s__law_numeral f fd) (T : Bts mg) (XC : Xc P K mg C_BadText) (c__law_pick : Callee P w K mg base CX0 2 "_law_pick" ["_law_pen_here", "_law_items"] (sp__law_pick K)) (c__law_draw : Callee P w K mg base CX0 1 "_law_draw" ["_law_pen_here", "_law_many"] (sp__law_draw K)) : FnOk P w K mg base CX0 3 f fd ["_law_pen_here"] (sp__law_numeral K) := by
  refine F.ok sc__law_numeral (fun vs H Q E h => fs_len h) (fun cdv A outer s H vs Q E hr h => ⟨_, (pss_cons (ps_set (i := 1) sc__law_numeral.nd rfl (by first | exact Or.inl rfl | exact Or.inr rfl) (pe_callC c__law_pick (hr.mono (by decide)) rfl (pa_cons (pv 0) (pa_cons (pe_lst (pa_cons pe_int (pa_cons pe_int (pa_cons pe_int (pa_cons pe_int (pa_cons pe_int (pa_cons pe_int (pa_cons pe_int (pa_cons pe_int pa_nil))))))))) pa_nil))))
      (pss_cons (ps_set (i := 2) sc__law_numeral.nd rfl (by first | exact Or.inl rfl | exact Or.inr rfl) (pe_op op_addU (pe_callC c__law_pick (hr.mono (by decide)) rfl (pa_cons (pv 0) (pa_cons pe_str pa_nil))) (pe_m1 PySem.F.slot_str_join PySem.F.type_str_join (mt_joinK K rfl) pe_str (pe_lc (own := [("_law_k", 4)]) rfl sc__law_numeral.nd (pi_range1 (by rfl) T.b_range (pa_cons (pe_op op_subU (pv 1) pe_int) pa_nil)) (blkOk_by (N := ["_law_pen_here", "_law_size", "_law_digits", "_law_sign", "_law_k"]) (sc := defScope s__law_numeral) (by decide +kernel)) (fun _ _ _ _ _ => (pg_name (i := 4) sc__law_numeral.nd rfl (by first | exact Or.inl rfl | exact Or.inr rfl))) (fun _ _ _ _ _ => pts_nil) (fun _ _ _ _ _ => (pe_callC c__law_pick (hr.mono (by decide)) rfl (pa_cons (pv 0) (pa_cons pe_str pa_nil))))))))
      (pss_cons (ps_if (PW.pt (pw_and (pt_cmpR (op_eqK K rfl hr.units) (pv 1) pe_int (nomark _)) (pw_and1 (pt_cmpR (op_eqK K rfl hr.units) (pe_callC c__law_draw (hr.mono (by decide)) rfl (pa_cons (pv 0) (pa_cons pe_int pa_nil))) pe_int (nomark _))))) (pss_one (ps_set (i := 2) sc__law_numeral.nd rfl (by first | exact Or.inl rfl | exact Or.inr rfl) pe_str)) pss_nil)
      (pss_cons (ps_set (i := 3) sc__law_numeral.nd rfl (by first | exact Or.inl rfl | exact Or.inr rfl) (pe_ifExp (PW.pt (pw_and (pt_cmpR (op_neK K rfl hr.units) (pv 2) pe_str (nomark _)) (pw_and1 (pt_cmpR (op_eqK K rfl hr.units) (pe_callC c__law_draw (hr.mono (by decide)) rfl (pa_cons (pv 0) (pa_cons pe_int pa_nil))) pe_int (nomark _))))) pe_str pe_str))
      (pss_one (ps_ret (pe_op op_addU (pe_op op_addU (pv 3) (pv 2)) (pe_callC c__law_pick (hr.mono (by decide)) rfl (pa_cons (pv 0) (pa_cons (pe_lst (pa_cons pe_str (pa_cons pe_str (pa_cons pe_str pa_nil)))) pa_nil)))))))))), fs_body (Nat.le_of_ble_eq_true rfl) h fun w n a hp hm => ?_⟩)
  try dsimp only [S__law_numeral, List.map_cons, List.map_nil] at hp hm ⊢

  obtain ⟨m, rfl, hb⟩ := hm.some
  show WpS K w (some m) [.pen, .no, .no, .no, .no] _ (fun x => .im tX x) _ _ _ _
  refine ws_seq <| ws_set (t := tI) <| we_pickI rfl ?_
  walk_at "go"
  refine ⟨⟨by simp, by simp⟩, _, rfl, by omega, ?_⟩
  intro z hz
  have hz : (1 : Int) ≤ z ∧ z ≤ 60 := (by decide : ∀ y ∈ [(1 : Int), 1, 1, 2, 3, 20, 59, 60], (1 : Int) ≤ y ∧ y ≤ 60) z hz
  refine setE_go (by dsimp only [List.set]) ?_
  refine ws_seq <| ws_set (t := tX) <| we_addX <| we_pickS rfl <| we_X ⟨⟨by rw [lit19]; simp, by rw [lit19]; simp⟩, _, rfl, by omega, fun d hd => ?_⟩
  refine we_joinX nil_lit <| we_ofM' <| wm_mapM (t := tI) tX (fun (_ : Int) y => ∃ c, y = [c] ∧ c ∈ DIG) 1 (m + 1 + 1) (gsl_name (by decide)) ?_
  walk_at "go"
  refine ⟨by simp; omega, ?_, ?_⟩
  · intro w' k y hy
    obtain ⟨hk, rfl⟩ := rg_get hy
    refine setE_go (by dsimp only [List.set, hideE, Ent.hide, List.map]) <| wg_name <| setE_go (by dsimp only [List.set]) ?_
    exact we_pickS rfl <| we_X ⟨⟨by show DIG ≠ []; rw [dig_eq]; simp, by show DIG.length < 1000; rw [dig_eq]; simp⟩, _, rfl, by omega, fun c hc => ⟨⟨c, rfl, hc⟩, rfl⟩⟩
  intro ys hys
  have fl := flat1 (P := fun c => c ∈ DIG) hys
  have hxl : ((List.range (z - 1).toNat).map fun (i : Nat) => (i : Int)).length = (z - 1).toNat := by simp
  rw [hxl] at fl ⊢
  refine ⟨ys, rfl, by rw [fl.2.1]; omega, by simp [fl.1]; omega, setE_go (by dsimp only [List.set]) ?_⟩
  have hd1 : d ∈ DIG ∧ d ≠ 48 := by
    rw [lit19] at hd
    rw [dig_eq]
    exact (by decide : ∀ d ∈ [49, 50, 51, 52, 53, 54, 55, 56, 57], d ∈ [48, 49, 50, 51, 52, 53, 54, 55, 56, 57] ∧ d ≠ 48) d hd
  have hc : (some (m + 1 + 1 + 1 * (z - 1).toNat)) = some (m + 2 + (z - 1).toNat) := by rw [Nat.one_mul]
  rw [hc]
  -- one nought may stand alone
  refine ws_seq <| ws_cut (fun n' Γ' => ∃ (c : Nat) (ds : Tx), n' = some c ∧ c ≤ m + 63 ∧ (∀ x ∈ ds, x ∈ DIG) ∧ 1 ≤ ds.length ∧ ds.length ≤ 60 ∧ (ds.getD 0 0 = 48 → ds = [48]) ∧ Γ' = [.pen, .im tI z, .im tX ds, .no, .no]) ?_ ?_
  · have cont : ∀ c, c ≤ m + 63 → ∃ (c' : Nat) (ds : Tx), some c = some c' ∧ c' ≤ m + 63 ∧ (∀ x ∈ ds, x ∈ DIG) ∧ 1 ≤ ds.length ∧ ds.length ≤ 60 ∧ (ds.getD 0 0 = 48 → ds = [48]) ∧ [.pen, .im tI z, .im tX ([d] ++ ys.flatten), .no, .no] = ([.pen, .im tI z, .im tX ds, .no, .no] : TL.Env) := fun c hc => by
      refine ⟨c, [d] ++ ys.flatten, rfl, hc, fun x hx => ?_, by simp, by simp [fl.1]; omega, fun y => absurd (show d = 48 from y) hd1.2, rfl⟩
      rcases List.mem_append.mp hx with q | q
      · rw [List.mem_singleton.mp q]; exact hd1.1
      · exact fl.2.2 x q
    refine ws_if <| wt_and <| wt_val <| we_eqI <| we_var rfl <| we_int <| dec2 (fun h1 => ?_) (fun h1 => ws_next (cont _ (by omega)))
    refine wt_val <| we_eqI <| we_draw rfl <| we_int ⟨by omega, _, rfl, by omega, fun r h0 h1' => we_int <| dec2 (fun h2 => ?_) (fun h2 => ws_next ?_)⟩
    · refine ws_set (t := tX) <| we_X <| setE_go (by dsimp only [List.set]) ⟨_, _, rfl, by omega, fun x hx => ?_, ?_, ?_, ?_, rfl⟩
      · rw [lit0] at hx; rw [List.mem_singleton.mp hx, dig_eq]; decide
      · rw [lit0]; simp
      · rw [lit0]; simp
      · rw [lit0]; intro _; rfl
    · exact cont _ (by omega)
  rintro _ _ ⟨c, ds, rfl, hcm, hds, hd1', hd60, hd48, rfl⟩
  refine ws_seq <| ws_cut (fun n' Γ' => ∃ (c' : Nat) (neg : Bool), n' = some c' ∧ c' ≤ m + 64 ∧ (neg = true → ds ≠ [48]) ∧ Γ' = [.pen, .im tI z, .im tX ds, .im tX (if neg = true then [45] else []), .no]) ?_ ?_
  · refine ws_set (t := tX) <| we_if <| wt_and <| wt_val <| we_neX <| we_var rfl <| we_X ?_
    rw [lit2 lit0]
    have non : ∀ c', c' ≤ m + 64 → SetE (List.set [.pen, .im tI z, .im tX ds, .no, .no] 3 (.im tX (Str.ofString "").cps.toList)) (fun Γ' => ∃ (c'' : Nat) (neg : Bool), some c' = some c'' ∧ c'' ≤ m + 64 ∧ (neg = true → ds ≠ [48]) ∧ Γ' = [.pen, .im tI z, .im tX ds, .im tX (if neg = true then [45] else []), .no]) := fun c' h => by
      rw [lite]
      exact ⟨c', false, rfl, h, fun z => (by cases z), rfl⟩
    refine dec2n (fun h1 => ?_) (fun h1 => we_X (non _ (by omega)))
    refine wt_val <| we_eqI <| we_draw rfl <| we_int ⟨by omega, _, rfl, by omega, fun r h0 h1' => we_int <| dec2 (fun h2 => ?_) (fun h2 => ?_)⟩
    · refine we_X ?_
      rw [litm]
      exact ⟨_, true, rfl, by omega, fun _ => h1, rfl⟩
    · exact we_X (non _ (by omega))
  rintro _ _ ⟨c', neg, rfl, hcm', hneg, rfl⟩
  refine ws_ret (t := tX) <| we_addX <| we_addX <| we_var rfl <| we_var rfl ⟨by cases neg <;> simp <;> omega, ?_⟩
  refine we_pickX rfl <| we_lst <| wal_cons <| we_X <| wal_cons <| we_X <| wal_cons <| we_X <| wal_nil ⟨by simp, ⟨by simp, by simp⟩, _, rfl, by omega, fun b hb' => ?_⟩
  rw [lite, litb] at hb'
  obtain ⟨bang, hbang⟩ : ∃ bang : Bool, b = if bang = true then [33] else [] := by
    simp only [List.mem_cons, List.not_mem_nil, or_false] at hb'
    rcases hb' with q | q | q
    · exact ⟨false, q⟩
    · exact ⟨false, q⟩
    · exact ⟨true, q⟩
  refine ⟨?_, ?_, CLe_some (by omega)⟩
  · rw [hbang]; cases neg <;> cases bang <;> simp <;> omega
  · show NumT ((if neg = true then [45] else []) ++ ds ++ b)
    rw [hbang, List.append_assoc]
    refine ⟨neg, bang, ds, ⟨hds, hd1', hd60, fun h48 => ?_⟩, rfl⟩
    have e := hd48 h48
    refine ⟨by rw [e]; rfl, ?_⟩
    cases neg with
    | false => rfl
    | true => exact absurd e (hneg rfl)

/-! ### a row is written -/
theorem we_view {K : Frag} {w : Wd} {n n' : Option Nat} {Γ Γ' : TL.Env} {α : Type} {t : Ty α} {te : TE} {k : α → NK} (v : View K w n Γ n' Γ') (h : WpE K w n' Γ' te t k) : WpE K w n Γ te t k := fun σ B H ok Q c => by
  obtain ⟨B1, e1, o1⟩ := v σ B H ok
  exact h σ B1 H o1 Q fun x v n2 Γ2 B2 H2 q e => c x v n2 Γ2 B2 H2 q (e1.trans e)
def lastT : Option Tx → List (Nat × Tx) → Option Tx
  | p, [] => p
  | _, (_, w) :: b => lastT (some w) b
theorem gaps_snoc {g : Nat} {w : Tx} (tw : TokOk w) : ∀ {b : List (Nat × Tx)} {p : Option Tx}, Gaps p b → (g = 0 → ∀ q, lastT p b = some q → apartF q w = false) → Gaps p (b ++ [(g, w)])
  | [], p, _, h => ⟨h, tw, trivial⟩
  | (s, v) :: b, p, ⟨h1, h2, h3⟩, h => ⟨h1, h2, gaps_snoc tw h3 h⟩
theorem flat_snoc {g : Nat} {w : Tx} : ∀ {b : List (Nat × Tx)}, flat (b ++ [(g, w)]) = flat b ++ (List.replicate g 32 ++ w)
  | [] => by simp [flat]
  | (s, v) :: b => by simp [flat, flat_snoc (b := b)]
theorem toks_snoc {g : Nat} {w : Tx} : ∀ {b : List (Nat × Tx)} {i : Nat}, toksOf i (b ++ [(g, w)]) = toksOf i b ++ [(kindF w, ((i + (flat b).length + g : Nat) : Int) + 1, w)]
  | [], i => by simp [toksOf, flat]
  | (s, v) :: b, i => by
    show (kindF v, _, v) :: toksOf (i + s + v.length) (b ++ [(g, w)]) = (kindF v, _, v) :: (toksOf (i + s + v.length) b ++ _)
    rw [toks_snoc (b := b)]
    have e : i + s + v.length + (flat b).length = i + (flat ((s, v) :: b)).length := by simp [flat]; omega
    rw [e]
theorem last_snoc {g : Nat} {w : Tx} : ∀ {b : List (Nat × Tx)} {p : Option Tx}, lastT p (b ++ [(g, w)]) = some w
  | [], p => rfl
  | (s, v) :: b, p => last_snoc (b := b)
theorem flat_no {b : List (Nat × Tx)} {p : Option Tx} (h : Gaps p b) : 35 ∉ flat b := by
  induction b generalizing p with
  | nil => simp [flat]
  | cons x b ih =>
    obtain ⟨s, v⟩ := x
    obtain ⟨h1, h2, h3⟩ := h
    intro z
    rcases List.mem_append.mp (show 35 ∈ List.replicate s 32 ++ (v ++ flat b) from z) with q | q
    · have := (List.mem_replicate.mp q).2; omega
    · rcases List.mem_append.mp q with q | q
      · exact (tokF_of h2).no q
      · exact ih h3 q
/-- what a written row is -/
structure RowOk (tokens : List Tx) (line : Tx) (cols : List Int) : Prop where
  ex : ∃ (b : List (Nat × Tx)) (e : Nat) (tail : Tx), b.map (·.2) = tokens ∧ Gaps none b ∧ Tail tail ∧ line = flat b ++ (List.replicate e 32 ++ tail) ∧ cols = (toksOf 0 b).map fun t => t.2.1
  len : line.length ≤ 3000
def S__law_row (K : Frag) : FS K := { A := List Tx × Unit, args := aPen (aCons (tL tX) aNil), ρ := Tx × List Int, res := fun x => .im (tP tX (tL tI)) x, cost := 40, pre := fun a => a.1.length ≤ 20 ∧ ∀ w ∈ a.1, TokOk w, post := fun a r => RowOk a.1 r.1 r.2 }
abbrev sp__law_row (K : Frag) : Sp := (S__law_row K).sp
instance (K : Frag) : Ents (S__law_row K).args := inferInstanceAs (Ents (aPen (aCons (tL tX) aNil)))
theorem lit35 : (Str.ofString "#").cps.toList = [35] := by decide +kernel
theorem comm_len : (Str.ofString "a5! -#(?~A").cps.toList ≠ [] ∧ (Str.ofString "a5! -#(?~A").cps.toList.length < 1000 := by decide +kernel
theorem ok__law_row {P : Program} {w : World} {K : Frag} {mg : Str → Option Value} {base : Heap} {f C_BadText : Addr} {fd : FuncData} (F : Fun K "_law_row" "_law_row" s__law_row f fd) (T : Bts mg) (XC : Xc P K mg C_BadText) (c__law_draw : Callee P w K mg base CX0 1 "_law_draw" ["_law_pen_here", "_law_many"] (sp__law_draw K)) (c__law_pick : Callee P w K mg base CX0 2 "_law_pick" ["_law_pen_here", "_law_items"] (sp__law_pick K)) (c__law_apart : Callee P w K mg base CX0 1 "_law_apart" ["_law_left", "_law_right"] (sp__law_apart K)) : FnOk P w K mg base CX0 3 f fd ["_law_pen_here", "_law_tokens"] (sp__law_row K) := by
  refine F.ok sc__law_row (fun vs H Q E h => fs_len h) (fun cdv A outer s H vs Q E hr h => ⟨_, (pss_cons (ps_par (i := 2) (j := 3) rfl sc__law_row.nd rfl rfl (by decide) rfl rfl (pa_cons (pe_op op_mulS pe_str (pe_callC c__law_pick (hr.mono (by decide)) rfl (pa_cons (pv 0) (pa_cons (pe_lst (pa_cons pe_int (pa_cons pe_int (pa_cons pe_int (pa_cons pe_int pa_nil))))) pa_nil)))) (pa_cons (pe_lst pa_nil) pa_nil)) (by rfl))
      (pss_cons (ps_for PassesOwn.never rfl (pi_range1 (by rfl) T.b_range (pa_cons (pe_callB (call_lenK K rfl) (by rfl) T.b_len PySem.boot_len (pa_cons (pv 1) pa_nil)) pa_nil)) (pg_name (i := 4) sc__law_row.nd rfl (by first | exact Or.inl rfl | exact Or.inr rfl)) (pss_cons (ps_set (i := 5) sc__law_row.nd rfl (by first | exact Or.inl rfl | exact Or.inr rfl) (pe_ifExp (PW.pt (pw_and (pt_cmpR op_gtU (pv 4) pe_int (nomark _)) (pw_and1 (pt_truthK K rfl (pe_callC c__law_apart (hr.mono (by decide)) rfl (pa_cons (pe_ix (ix_seqK K rfl) (pv 1) (pe_op op_subU (pv 4) pe_int) (fun _ _ => rfl)) (pa_cons (pe_ix (ix_seqK K rfl) (pv 1) (pv 4) (fun _ _ => rfl)) pa_nil))) (by intro _; rfl))))) pe_int pe_int))
      (pss_cons (ps_set (i := 2) sc__law_row.nd rfl (by first | exact Or.inl rfl | exact Or.inr rfl) (pe_op op_addU (pv 2) (pe_op op_mulS pe_str (pe_ifExp (pt_cmpR op_gtU (pv 4) pe_int (nomark _)) (pe_op op_addU (pv 5) (pe_callC c__law_pick (hr.mono (by decide)) rfl (pa_cons (pv 0) (pa_cons (pe_lst (pa_cons pe_int (pa_cons pe_int (pa_cons pe_int (pa_cons pe_int (pa_cons pe_int pa_nil)))))) pa_nil)))) pe_int))))
      (pss_cons (ps_expr (pe_bm PySem.F.plainAttrs_list PySem.F.slot_list_append PySem.F.type_list_append mt_append (pv 3) (pa_cons (pe_op op_addU (pe_callB (call_lenK K rfl) (by rfl) T.b_len PySem.boot_len (pa_cons (pv 2) pa_nil)) pe_int) pa_nil)))
      (pss_one (ps_set (i := 2) sc__law_row.nd rfl (by first | exact Or.inl rfl | exact Or.inr rfl) (pe_op op_addU (pv 2) (pe_ix (ix_seqK K rfl) (pv 1) (pv 4) (fun _ _ => rfl)))))))))
      (pss_cons (ps_set (i := 2) sc__law_row.nd rfl (by first | exact Or.inl rfl | exact Or.inr rfl) (pe_op op_addU (pv 2) (pe_op op_mulS pe_str (pe_callC c__law_pick (hr.mono (by decide)) rfl (pa_cons (pv 0) (pa_cons (pe_lst (pa_cons pe_int (pa_cons pe_int (pa_cons pe_int (pa_cons pe_int pa_nil))))) pa_nil))))))
      (pss_cons (ps_if (pt_cmpR (op_eqK K rfl hr.units) (pe_callC c__law_draw (hr.mono (by decide)) rfl (pa_cons (pv 0) (pa_cons pe_int pa_nil))) pe_int (nomark _)) (pss_one (ps_set (i := 2) sc__law_row.nd rfl (by first | exact Or.inl rfl | exact Or.inr rfl) (pe_op op_addU (pe_op op_addU (pv 2) pe_str) (pe_m1 PySem.F.slot_str_join PySem.F.type_str_join (mt_joinK K rfl) pe_str (pe_lc (own := [("_law_k", 4)]) rfl sc__law_row.nd (pi_range1 (by rfl) T.b_range (pa_cons (pe_callC c__law_draw (hr.mono (by decide)) rfl (pa_cons (pv 0) (pa_cons pe_int pa_nil))) pa_nil)) (blkOk_by (N := ["_law_pen_here", "_law_tokens", "_law_line", "_law_columns", "_law_k", "_law_few"]) (sc := defScope s__law_row) (by decide +kernel)) (fun _ _ _ _ _ => (pg_name (i := 4) sc__law_row.nd rfl (by first | exact Or.inl rfl | exact Or.inr rfl))) (fun _ _ _ _ _ => pts_nil) (fun _ _ _ _ _ => (pe_callC c__law_pick (hr.mono (by decide)) rfl (pa_cons (pv 0) (pa_cons pe_str pa_nil))))))))) pss_nil)
      (pss_one (ps_ret (pe_tup (pa_cons (pv 2) (pa_cons (pv 3) pa_nil))))))))), fs_body (Nat.le_of_ble_eq_true rfl) h fun w n a hp hm => ?_⟩)
  try dsimp only [S__law_row, List.map_cons, List.map_nil] at hp hm ⊢

  obtain ⟨tokens, _⟩ := a
  obtain ⟨hp1, hp2⟩ : tokens.length ≤ 20 ∧ ∀ w ∈ tokens, TokOk w := hp
  obtain ⟨m, rfl, hb⟩ := hm.some
  show WpS K w (some m) [.pen, .im (tL tX) tokens, .no, .no, .no, .no] _ (fun x => .im (tP tX (tL tI)) x) _ _ _ _
  refine ws_seq <| ws_par2M (t := tX) <| we_mulX sp_lit <| we_pickI rfl <| ?_
  walk_at "go"
  refine ⟨⟨by simp, by simp⟩, _, rfl, by omega, ?_⟩
  intro z hz
  have hz : (0 : Int) ≤ z ∧ z ≤ 4 := (by decide : ∀ y ∈ [(0 : Int), 0, 1, 4], (0 : Int) ≤ y ∧ y ≤ 4) z hz
  refine ⟨by omega, wm_lst (t := tI) <| wal_nil ⟨Nat.zero_le _, setE_go (by dsimp only [List.set]) ?_⟩⟩
  refine ws_seq ?_
  refine ws_for (t := tI) (fun xs i n' Γ => xs.length = tokens.length ∧ n' = some (m + 1 + i) ∧ ∃ (b : List (Nat × Tx)) (g : Nat), b.map (·.2) = tokens.take i ∧ b.length = i ∧ Gaps none b ∧ (0 < i → g = 0) ∧ g ≤ 4 ∧ (flat b).length ≤ 70 * i ∧ Γ = [.pen, .im (tL tX) tokens, .im tX (flat b ++ List.replicate g 32), .ml tI ((toksOf 0 b).map fun t => t.2.1), .no, .no]) ?_
  walk_at "go"
  refine ⟨Up.of ⟨by simp, rfl, [], z.toNat, by simp, rfl, trivial, fun h => by omega, by omega, by simp [flat], rfl⟩, ?_, ?_⟩
  · rintro i x n' Γ hx ⟨hl, rfl, b, g, hbm, hbl, hg, hg0, hg4, hfl, rfl⟩
    obtain ⟨hi, rfl⟩ := rg_get hx
    have hi' : i < tokens.length := by simpa using hi
    have hw := hp2 _ (List.getElem_mem hi')
    have hwF := tokF_of hw
    have hat : atI tokens (i : Int) = some tokens[i] := by rw [atI_int (by omega) (by simpa using hi')]; simp
    refine wg_name (setE_go (by dsimp only [List.set]) ?_)
    -- how many spaces at least
    refine ws_seq <| ws_set (t := tI) <| we_mono (k := fun (x : Int) n2 Γ2 => (0 ≤ x ∧ x ≤ 1 ∧ (x = 0 → 0 < i → ∀ q, lastT none b = some q → apartF q tokens[i] = false)) ∧ n2 = some (m + 1 + i) ∧ Γ2 = [.pen, .im (tL tX) tokens, .im tX (flat b ++ List.replicate g 32), .ml tI ((toksOf 0 b).map fun t => t.2.1), .im tI (i : Int), .no]) ?_ ?_
    · refine we_if <| wt_and <| wt_val <| we_gt <| we_var rfl <| we_int <| dec2 (fun h0 => ?_) (fun h0 => we_int ⟨⟨by omega, by omega, fun _ h => absurd h (by omega)⟩, rfl, rfl⟩)
      have hi1 : i - 1 < tokens.length := by omega
      have hw1 := tokF_of (hp2 _ (List.getElem_mem hi1))
      have hat1 : atI tokens ((i : Int) - 1) = some tokens[i - 1] := by
        rw [show ((i : Int) - 1) = ((i - 1 : Nat) : Int) by omega, atI_int (by omega) (by simpa using hi1)]; simp
      refine wt_truB <| we_call0 (S := S__law_apart K) rfl rfl <| wa_cons <| we_ixVL rfl <| we_sub <| we_var rfl <| we_int ⟨_, hat1, wa_cons <| we_ixVL rfl <| we_var rfl ⟨_, hat, wa_nil ⟨⟨⟨hw1.ne, by show tokens[i - 1].length ≤ 1000; have := hw1.len; omega⟩, hwF.ne, by show tokens[i].length ≤ 1000; have := hwF.len; omega⟩, ?_⟩⟩⟩
      intro (ap : Bool) (hap : ap = apartF tokens[i - 1] tokens[i])
      have hlast : ∀ q, lastT none b = some q → q = tokens[i - 1] := fun q hq => by
        rcases List.eq_nil_or_concat b with rfl | ⟨b0, y, rfl⟩
        · simp at hbl; omega
        · obtain ⟨s0, v0⟩ := y
          rw [List.concat_eq_append] at hq hbm hbl
          rw [last_snoc] at hq
          have e : (tokens.take i)[i - 1]? = some v0 := by
            rw [← hbm]
            have : i - 1 = (b0.map (·.2)).length := by simp at hbl ⊢; omega
            rw [this, List.map_append, List.getElem?_append_right (Nat.le_refl _)]; simp
          rw [List.getElem?_take_of_lt (by omega), List.getElem?_eq_getElem hi1] at e
          rw [← Option.some.inj hq, ← Option.some.inj e]
      refine ⟨fun _ => we_int ⟨⟨by omega, by omega, fun h => by omega⟩, rfl, rfl⟩, fun hf => we_int ⟨⟨by omega, by omega, fun _ _ q hq => ?_⟩, rfl, rfl⟩⟩
      rw [hlast q hq, ← hap]; exact hf
    rintro few _ _ ⟨⟨hf0, hf1, hfew⟩, rfl, rfl⟩
    refine setE_go (by dsimp only [List.set]) ?_
    have L1 : (flat b ++ List.replicate g 32).length ≤ 2000 := by rw [List.length_append, List.length_replicate]; omega
    refine ws_seq <| ws_set (t := tX) <| we_addX <| we_var rfl <| we_mulX sp_lit <| we_mono (k := fun (s : Int) n2 Γ2 => (0 ≤ s ∧ s ≤ 4 ∧ (s = 0 → 0 < i → few = 0) ∧ (i = 0 → s = 0)) ∧ n2 = some (m + 1 + (i + 1)) ∧ Γ2 = [.pen, .im (tL tX) tokens, .im tX (flat b ++ List.replicate g 32), .ml tI ((toksOf 0 b).map fun t => t.2.1), .im tI (i : Int), .im tI few]) ?_ ?_
    · refine we_if <| wt_val <| we_gt <| we_var rfl <| we_int <| dec2 (fun h0 => ?_) (fun h0 => ?_)
      · refine we_add <| we_var rfl <| we_pickI rfl ?_
        walk_at "go"
        refine ⟨⟨by simp, by simp⟩, _, rfl, by omega, ?_⟩
        intro y hy
        have hy : (0 : Int) ≤ y ∧ y ≤ 3 := (by decide : ∀ y ∈ [(0 : Int), 0, 0, 1, 3], (0 : Int) ≤ y ∧ y ≤ 3) y hy
        exact ⟨⟨by omega, by omega, fun h _ => by omega, fun h => by omega⟩, by congr 1, rfl⟩
      · refine we_view (View.le (b := m + 1 + (i + 1)) (by omega)) <| we_int ⟨⟨by omega, by omega, fun _ h => by omega, fun _ => rfl⟩, rfl, rfl⟩
    rintro s _ _ ⟨⟨hs0, hs4, hs1, hs2⟩, rfl, rfl⟩
    refine ⟨by omega, by rw [List.length_replicate]; omega, setE_go (by dsimp only [List.set]) ?_⟩
    have hcl : ((toksOf 0 b).map fun t => t.2.1).length = i := by
      have gen : ∀ (b : List (Nat × Tx)) (j : Nat), (toksOf j b).length = b.length := fun b => by
        induction b with
        | nil => intro j; rfl
        | cons x b ih => intro j; obtain ⟨s, v⟩ := x; show (_ :: toksOf _ b).length = _; rw [List.length_cons, ih]; rfl
      rw [List.length_map, gen, hbl]
    have L2 : (flat b ++ List.replicate g 32 ++ List.replicate s.toNat 32).length = (flat b).length + g + s.toNat := by simp; omega
    refine ws_seq <| ws_append (t := tI) rfl <| we_add <| we_lenVX rfl (by omega) <| we_int ⟨rfl, by omega, setE_go (by dsimp only [List.set]) ?_⟩
    refine ws_set (t := tX) <| we_addX <| we_var rfl <| we_ixVL rfl <| we_var rfl ⟨_, hat, by have := hwF.len; omega, setE_go (by dsimp only [List.set]) ?_⟩
    refine Up.drop2 4 5 ⟨hl, rfl, b ++ [(g + s.toNat, tokens[i])], 0, ?_, by simp [hbl], ?_, fun _ => rfl, by omega, ?_, ?_⟩
    · rw [List.map_append, hbm, List.take_add_one, List.getElem?_eq_getElem hi']; rfl
    · refine gaps_snoc hw hg fun hgs q hq => ?_
      rcases Nat.eq_zero_or_pos i with h0 | h0
      · have hb0 : b = [] := List.length_eq_zero_iff.mp (by omega)
        rw [hb0] at hq; cases hq
      · exact hfew (hs1 (by omega) h0) h0 q hq
    · rw [flat_snoc, List.length_append, List.length_append, List.length_replicate]
      have := hwF.len; omega
    · rw [flat_snoc, toks_snoc, List.map_append, L2]
      have e1 : flat b ++ List.replicate g 32 ++ List.replicate s.toNat 32 ++ tokens[i] = flat b ++ (List.replicate (g + s.toNat) 32 ++ tokens[i]) ++ List.replicate 0 32 := by
        rw [← List.replicate_append_replicate]; simp
      have e2 : (((flat b).length + g + s.toNat : Nat) : Int) + 1 = ((0 + (flat b).length + (g + s.toNat) : Nat) : Int) + 1 := by omega
      rw [e1, e2]; rfl
  · rintro n' Γ ⟨hl, rfl, b, g, hbm, hbl, hg, hg0, hg4, hfl, rfl⟩
    rw [hl] at hbm hbl hfl ⊢
    rw [List.take_length] at hbm
    have L1 : (flat b ++ List.replicate g 32).length ≤ 2000 := by rw [List.length_append, List.length_replicate]; omega
    refine ws_seq <| ws_set (t := tX) <| we_addX <| we_var rfl <| we_mulX sp_lit <| we_pickI rfl ?_
    walk_at "go"
    refine ⟨⟨by simp, by simp⟩, _, rfl, by omega, ?_⟩
    intro y hy
    have hy : (0 : Int) ≤ y ∧ y ≤ 2 := (by decide : ∀ y ∈ [(0 : Int), 0, 0, 2], (0 : Int) ≤ y ∧ y ≤ 2) y hy
    refine ⟨by omega, by rw [List.length_replicate]; omega, setE_go (by dsimp only [List.set]) ?_⟩
    have L3 : (flat b ++ List.replicate g 32 ++ List.replicate y.toNat 32).length ≤ 2100 := by rw [List.length_append, List.length_replicate]; omega
    have e3 : flat b ++ List.replicate g 32 ++ List.replicate y.toNat 32 = flat b ++ List.replicate (g + y.toNat) 32 := by rw [← List.replicate_append_replicate]; simp
    refine ws_seq <| ws_cut (fun n2 Γ2 => ∃ (tail : Tx) (c : Nat), n2 = some c ∧ c ≤ m + 40 ∧ Tail tail ∧ tail.length ≤ 20 ∧ Γ2 = [.pen, .im (tL tX) tokens, .im tX (flat b ++ (List.replicate (g + y.toNat) 32 ++ tail)), .ml tI ((toksOf 0 b).map fun t => t.2.1), .no, .no]) ?_ ?_
    · refine ws_if <| wt_val <| we_eqI <| we_draw rfl <| we_int ⟨by omega, _, rfl, by omega, fun r h0 h1 => we_int <| dec2 (fun h2 => ?_) (fun h2 => ws_next ⟨[], _, rfl, by omega, .inl rfl, by simp, by rw [e3, List.append_nil]⟩)⟩
      refine ws_set (t := tX) <| we_addX <| we_addX <| we_var rfl <| we_X ⟨by rw [lit35]; simp only [List.length_cons, List.length_nil]; omega, ?_⟩
      refine we_joinX nil_lit <| we_ofM' <| wm_mapM (t := tI) tX (fun (_ : Int) y => ∃ c, y = [c] ∧ True) 1 (m + 1 + tokens.length + 1 + 1 + 1) (gsl_name (by decide)) ?_
      refine wi_range1 <| we_draw rfl <| we_int ⟨by omega, _, rfl, by omega, fun r2 h20 h21 => ⟨by omega, rfl, by simp; omega, ?_, ?_⟩⟩
      · intro w' k y hy
        obtain ⟨hk, rfl⟩ := rg_get hy
        refine setE_go (by dsimp only [List.set, hideE, Ent.hide, List.map]) <| wg_name <| setE_go (by dsimp only [List.set]) ?_
        exact we_pickS rfl <| we_X ⟨comm_len, _, rfl, by omega, fun c hc => ⟨⟨c, rfl, trivial⟩, rfl⟩⟩
      intro ys hys
      have fl := flat1 (P := fun _ => True) hys
      have hxl : ((List.range r2.toNat).map fun (i : Nat) => (i : Int)).length = r2.toNat := by simp
      rw [hxl] at fl ⊢
      refine ⟨ys, rfl, by rw [fl.2.1]; omega, by rw [List.length_append, lit35, fl.1]; simp only [List.length_cons, List.length_nil]; omega, setE_go (by dsimp only [List.set]) ⟨35 :: ys.flatten, _, rfl, by omega, .inr ⟨_, rfl⟩, by rw [List.length_cons, fl.1]; omega, ?_⟩⟩
      rw [lit35, e3]; simp
    rintro _ _ ⟨tail, c, rfl, hc, ht, htl, rfl⟩
    refine ws_ret (t := tP tX (tL tI)) <| we_tup2 <| we_var rfl <| we_varL rfl <| setE_go (by dsimp only [List.set]) ⟨⟨⟨b, g + y.toNat, tail, hbm, hg, ht, rfl, rfl⟩, ?_⟩, CLe_some (by omega)⟩
    show (flat b ++ (List.replicate (g + y.toNat) 32 ++ tail)).length ≤ 3000
    rw [← List.append_assoc, ← e3, List.length_append]; omega

theorem bang_lit : (Str.ofString "!") = SX.S [33] := by decide +kernel
theorem minus_lit : (Str.ofString "-") = SX.S [45] := by decide +kernel
theorem sg_not {neg : Bool} {ds : Tx} (h : ∀ x ∈ ds, x ∈ DIG) : 33 ∉ sg neg ++ ds := fun z => by
  rcases List.mem_append.mp z with q | q
  · cases neg <;> simp [sg] at q
  · exact (dig_not 33 (h 33 q)).2.2.1 rfl
theorem spl_bang {a : Tx} (h : 33 ∉ a) (bang : Bool) : ∃ r, spl [33] 0 [] (a ++ bg bang) = a :: r := by
  cases bang
  · have := SX.spl_join (c := 33) (sep := []) (parts := [a]) (by simp) (fun p hp => by rw [List.mem_singleton.mp hp]; exact h)
    exact ⟨[], by simpa [bg, joinL] using this⟩
  · exact ⟨_, SX.spl_free (sep := [33]) (p := a) [] (by simp) (SX.free_head h)⟩
theorem less_of {neg : Bool} {ds : Tx} (h : ∀ x ∈ ds, x ∈ DIG) : joinL [] (spl [45] 0 [] (sg neg ++ ds)) = ds := by
  have hn : 45 ∉ ds := fun z => (dig_not 45 (h 45 z)).2.1 rfl
  cases neg
  · have := SX.spl_join (c := 45) (sep := []) (parts := [ds]) (by simp) (fun p hp => by rw [List.mem_singleton.mp hp]; exact hn)
    have e : spl [45] 0 [] ds = [ds] := by simpa [joinL] using this
    show joinL [] (spl [45] 0 [] ds) = ds
    rw [e]; rfl
  · have := SX.spl_join (c := 45) (sep := []) (parts := [[], ds]) (by simp) (fun p hp => by
      rcases List.mem_cons.mp hp with q | q
      · rw [q]; simp
      · rw [List.mem_singleton.mp q]; exact hn)
    have e : spl [45] 0 [] (45 :: ds) = [[], ds] := by simpa [joinL] using this
    show joinL [] (spl [45] 0 [] (45 :: ds)) = ds
    rw [e]; simp [joinL]
def ODD : Tx := (Str.ofString "ABCDEFGHIJKLMNOPQRSTUVWXYZ!?.:;@$&^~|/[]{}_>'").cps.toList ++ (Str.ofString "\"").cps.toList ++ (Str.ofString "\\").cps.toList
theorem odd_all : ∀ c ∈ ODD, c ∉ LET ∧ c ∉ DIG ∧ c ∉ MRK ∧ c ≠ 35 ∧ c ≠ 32 := by
  have : ODD.all (fun c => !decide (c ∈ LET) && (!decide (c ∈ DIG) && (!decide (c ∈ MRK) && (!decide (c = 35) && !decide (c = 32))))) = true := by decide +kernel
  intro c hc
  have := List.all_eq_true.mp this c hc
  simpa using this
theorem odd_len : ODD ≠ [] ∧ ODD.length < 1000 := by
  have : (!ODD.isEmpty && decide (ODD.length < 1000)) = true := by decide +kernel
  simpa using this
theorem litbb : (Str.ofString "!!").cps.toList = [33, 33] := by decide +kernel
theorem litm0 : (Str.ofString "-0").cps.toList = [45, 48] := by decide +kernel
theorem litm0b : (Str.ofString "-0!").cps.toList = [45, 48, 33] := by decide +kernel
theorem lit00b : (Str.ofString "00!").cps.toList = [48, 48, 33] := by decide +kernel
theorem litm7 : (Str.ofString "-7").cps.toList = [45, 55] := by decide +kernel
theorem d48 : 48 ∈ DIG ∧ 33 ∉ DIG ∧ 55 ∈ DIG ∧ 33 ∈ BEH := by rw [beh_eq, dig_eq]; exact ⟨by decide, by decide, by decide, by simp⟩
def S__law_piece (K : Frag) : FS K := { A := Unit, args := aPen aNil, ρ := Tx × Int, res := fun x => .im (tP tX tI) x, cost := 170, pre := fun a => True, post := fun a r => ∃ j : Nat, r.2 = (j : Int) ∧ PieceOk r.1 j }
abbrev sp__law_piece (K : Frag) : Sp := (S__law_piece K).sp
instance (K : Frag) : Ents (S__law_piece K).args := inferInstanceAs (Ents (aPen aNil))
theorem ok__law_piece {P : Program} {w : World} {K : Frag} {mg : Str → Option Value} {base : Heap} {f C_BadText : Addr} {fd : FuncData} (F : Fun K "_law_piece" "_law_piece" s__law_piece f fd) (T : Bts mg) (XC : Xc P K mg C_BadText) (c__law_pick : Callee P w K mg base CX0 2 "_law_pick" ["_law_pen_here", "_law_items"] (sp__law_pick K)) (c__law_draw : Callee P w K mg base CX0 1 "_law_draw" ["_law_pen_here", "_law_many"] (sp__law_draw K)) (c__law_word : Callee P w K mg base CX0 3 "_law_word" ["_law_pen_here"] (sp__law_word K)) (c__law_numeral : Callee P w K mg base CX0 3 "_law_numeral" ["_law_pen_here"] (sp__law_numeral K)) : FnOk P w K mg base CX0 4 f fd ["_law_pen_here"] (sp__law_piece K) := by
  refine F.ok sc__law_piece (fun vs H Q E h => fs_len h) (fun cdv A outer s H vs Q E hr h => ⟨_, (pss_cons (ps_asg (pe_tup (pa_cons pe_str (pa_cons pe_str pa_nil))) (pg_tupK (n := 2) K rfl rfl (pgs_cons (pg_name (i := 1) sc__law_piece.nd rfl (by first | exact Or.inl rfl | exact Or.inr rfl)) (pgs_cons (pg_name (i := 2) sc__law_piece.nd rfl (by first | exact Or.inl rfl | exact Or.inr rfl)) pgs_nil))))
      (pss_cons (ps_set (i := 3) sc__law_piece.nd rfl (by first | exact Or.inl rfl | exact Or.inr rfl) (pe_op op_addU (pe_op op_addU pe_str pe_str) pe_str))
      (pss_cons (ps_set (i := 4) sc__law_piece.nd rfl (by first | exact Or.inl rfl | exact Or.inr rfl) (pe_ix (ix_seqK K rfl) (pe_m1 PySem.F.slot_str_split PySem.F.type_str_split mt_splitS (pe_callC c__law_numeral (hr.mono (by decide)) rfl (pa_cons (pv 0) pa_nil)) pe_str) pe_int (fun _ _ => rfl)))
      (pss_cons (ps_par (i := 5) (j := 6) rfl sc__law_piece.nd rfl rfl (by decide) rfl rfl (pa_cons (pe_callC c__law_word (hr.mono (by decide)) rfl (pa_cons (pv 0) pa_nil)) (pa_cons (pe_callC c__law_pick (hr.mono (by decide)) rfl (pa_cons (pv 0) (pa_cons (pe_lst (pa_cons pe_str (pa_cons pe_str pa_nil))) pa_nil))) pa_nil)) (by rfl))
      (pss_cons (ps_par3 (i := 7) (j := 8) (l := 9) rfl sc__law_piece.nd rfl rfl rfl (by decide) (by decide) (by decide) rfl rfl rfl (pa_cons (pe_callC c__law_pick (hr.mono (by decide)) rfl (pa_cons (pv 0) (pa_cons (pv 1) pa_nil))) (pa_cons (pe_callC c__law_pick (hr.mono (by decide)) rfl (pa_cons (pv 0) (pa_cons (pv 2) pa_nil))) (pa_cons (pe_callC c__law_pick (hr.mono (by decide)) rfl (pa_cons (pv 0) (pa_cons (pv 3) pa_nil))) pa_nil))) (by rfl))
      (pss_cons (ps_set (i := 10) sc__law_piece.nd rfl (by first | exact Or.inl rfl | exact Or.inr rfl) (pe_m1 PySem.F.slot_str_join PySem.F.type_str_join (mt_joinK K rfl) pe_str (pe_lc (own := [("_law_k", 17)]) rfl sc__law_piece.nd (pi_range1 (by rfl) T.b_range (pa_cons (pe_op op_addU pe_int (pe_callC c__law_draw (hr.mono (by decide)) rfl (pa_cons (pv 0) (pa_cons pe_int pa_nil)))) pa_nil)) (blkOk_by (N := ["_law_pen_here", "_law_letters", "_law_digits", "_law_odd", "_law_number", "_law_word_here", "_law_sign", "_law_letter", "_law_digit", "_law_mark", "_law_most", "_law_choice", "_law_short", "_law_zeros", "_law_less", "_law_many", "_law_ahead", "_law_k"]) (sc := defScope s__law_piece) (by decide +kernel)) (fun _ _ _ _ _ => (pg_name (i := 17) sc__law_piece.nd rfl (by first | exact Or.inl rfl | exact Or.inr rfl))) (fun _ _ _ _ _ => pts_nil) (fun _ _ _ _ _ => (pe_callC c__law_pick (hr.mono (by decide)) rfl (pa_cons (pv 0) (pa_cons pe_str pa_nil)))))))
      (pss_cons (ps_set (i := 11) sc__law_piece.nd rfl (by first | exact Or.inl rfl | exact Or.inr rfl) (pe_callC c__law_draw (hr.mono (by decide)) rfl (pa_cons (pv 0) (pa_cons pe_int pa_nil))))
      (pss_cons (ps_if (pt_cmpR op_ltU (pv 11) pe_int (nomark _)) (pss_cons (ps_set (i := 12) sc__law_piece.nd rfl (by first | exact Or.inl rfl | exact Or.inr rfl) (pe_lst (pa_cons (pe_tup (pa_cons (pv 9) (pa_cons pe_int pa_nil))) (pa_cons (pe_tup (pa_cons (pe_op op_addU (pv 5) (pv 9)) (pa_cons (pe_callB (call_lenK K rfl) (by rfl) T.b_len PySem.boot_len (pa_cons (pv 5) pa_nil)) pa_nil))) (pa_cons (pe_tup (pa_cons (pe_op op_addU (pv 9) (pv 4)) (pa_cons pe_int pa_nil))) (pa_cons (pe_tup (pa_cons (pe_op op_addU (pe_op op_mulS (pv 7) pe_int) (pv 5)) (pa_cons pe_int pa_nil))) pa_nil))))))
      (pss_one (ps_ret (pe_ix (ix_seqK K rfl) (pv 12) (pv 11) (fun _ _ => rfl))))) pss_nil)
      (pss_cons (ps_if (pt_cmpR op_ltU (pv 11) pe_int (nomark _)) (pss_cons (ps_set (i := 13) sc__law_piece.nd rfl (by first | exact Or.inl rfl | exact Or.inr rfl) (pe_lst (pa_cons (pe_op op_addU (pe_op op_addU (pv 6) pe_str) (pv 8)) (pa_cons pe_str (pa_cons pe_str (pa_cons (pe_op op_addU (pv 6) pe_str) pa_nil))))))
      (pss_one (ps_ret (pe_tup (pa_cons (pe_ix (ix_seqK K rfl) (pv 13) (pe_op op_subU (pv 11) pe_int) (fun _ _ => rfl)) (pa_cons pe_int pa_nil)))))) pss_nil)
      (pss_cons (ps_if (pt_cmpR op_ltU (pv 11) pe_int (nomark _)) (pss_one (ps_ret (pe_tup (pa_cons (pe_ix (ix_seqK K rfl) (pe_lst (pa_cons (pe_op op_addU (pv 6) (pv 10)) (pa_cons (pe_op op_addU (pe_op op_addU (pv 6) (pv 10)) pe_str) (pa_cons (pe_op op_addU (pv 4) (pv 7)) (pa_cons (pe_op op_addU (pe_op op_addU (pv 4) pe_str) (pv 7)) pa_nil))))) (pe_op op_subU (pv 11) pe_int) (fun _ _ => rfl)) (pa_cons pe_int pa_nil))))) pss_nil)
      (pss_cons (ps_if (pt_cmpR (op_eqK K rfl hr.units) (pv 11) pe_int (nomark _)) (pss_one (ps_ret (pe_tup (pa_cons (pe_op op_addU (pv 4) pe_str) (pa_cons pe_int pa_nil))))) pss_nil)
      (pss_cons (ps_if (pt_cmpR (op_eqK K rfl hr.units) (pv 11) pe_int (nomark _)) (pss_one (ps_ret (pe_tup (pa_cons (pe_op op_addU (pe_op op_addU (pv 4) pe_str) (pv 8)) (pa_cons pe_int pa_nil))))) pss_nil)
      (pss_cons (ps_set (i := 14) sc__law_piece.nd rfl (by first | exact Or.inl rfl | exact Or.inr rfl) (pe_ifExp (pt_cmpR (op_neK K rfl hr.units) (pv 4) pe_str (nomark _)) (pe_catRepl (i := 4) rfl (by first | exact Or.inl rfl | exact Or.inr (Or.inl rfl))) pe_str))
      (pss_cons (ps_if (pt_cmpR (op_eqK K rfl hr.units) (pv 11) pe_int (nomark _)) (pss_cons (ps_set (i := 15) sc__law_piece.nd rfl (by first | exact Or.inl rfl | exact Or.inr rfl) (pe_op op_addU pe_int (pe_callC c__law_draw (hr.mono (by decide)) rfl (pa_cons (pv 0) (pa_cons pe_int pa_nil)))))
      (pss_one (ps_ret (pe_tup (pa_cons (pe_op op_addU (pe_op op_mulS pe_str (pv 15)) (pv 14)) (pa_cons (pv 15) pa_nil)))))) pss_nil)
      (pss_cons (ps_set (i := 16) sc__law_piece.nd rfl (by first | exact Or.inl rfl | exact Or.inr rfl) (pe_callC c__law_pick (hr.mono (by decide)) rfl (pa_cons (pv 0) (pa_cons (pe_lst (pa_cons (pv 5) (pa_cons (pv 4) (pa_cons (pe_op op_addU (pv 4) pe_str) pa_nil)))) pa_nil))))
      (pss_one (ps_ret (pe_tup (pa_cons (pe_op op_addU (pv 16) (pv 14)) (pa_cons (pe_callB (call_lenK K rfl) (by rfl) T.b_len PySem.boot_len (pa_cons (pv 16) pa_nil)) pa_nil)))))))))))))))))))), fs_body (Nat.le_of_ble_eq_true rfl) h fun w n a hp hm => ?_⟩)
  try dsimp only [S__law_piece, List.map_cons, List.map_nil] at hp hm ⊢

  obtain ⟨m, rfl, hb⟩ := hm.some
  show WpS K w (some m) [.pen, .no, .no, .no, .no, .no, .no, .no, .no, .no, .no, .no, .no, .no, .no, .no, .no, .no] _ (fun x => .im (tP tX tI) x) _ _ _ _
  have post : ∀ (t : Tx) (i : Int) (j : Nat), i = (j : Int) → PieceOk t j → (S__law_piece K).post ((), ()).2 (t, i) := fun t i j h1 h2 => ⟨j, h1, h2⟩
  refine ws_seq <| ws_asg (t := tP tX tX) <| we_tup2 <| we_X <| we_X <| wg_pair <| setE_go (by dsimp only [List.set]) ?_
  refine ws_seq <| ws_set (t := tX) <| we_addX <| we_addX <| we_X <| we_X ⟨by decide +kernel, we_X ⟨by decide +kernel, setE_go (by dsimp only [List.set]) ?_⟩⟩
  show WpS K w (some m) [.pen, .im tX LET, .im tX DIG, .im tX ODD, .no, .no, .no, .no, .no, .no, .no, .no, .no, .no, .no, .no, .no, .no] _ _ _ _ _ _
  -- the numeral without its sign of being frozen
  refine ws_seq <| ws_set (t := tX) <| we_ixL (t := tX) <| we_ofM' <| wm_splitX bang_lit (by simp) (by decide) <| we_callN (S := S__law_numeral K) (c := 70) rfl rfl <| wa_pen rfl <| wa_nil ⟨trivial, _, rfl, by omega, ?_⟩
  intro (num : Tx) hnum
  obtain ⟨neg, bang, ds, hds, rfl⟩ : NumT num := hnum
  have hnb := sg_not (neg := neg) hds.dig
  obtain ⟨rs, hrs⟩ := spl_bang hnb bang
  have hl1 := hds.one
  have hl2 := hds.most
  have hsgl : (sg neg).length ≤ 1 := by cases neg <;> simp [sg]
  have hbgl : (bg bang).length ≤ 1 := by cases bang <;> simp [bg]
  refine ⟨by simp; omega, _, rfl, we_int ⟨sg neg ++ ds, by rw [← List.append_assoc, hrs, atI_int (by omega) (by simp)]; rfl, setE_go (by dsimp only [List.set]) ?_⟩⟩
  generalize hN : sg neg ++ ds = N
  have hNl : N.length ≤ 61 := by rw [← hN]; simp; omega
  -- word and sign
  refine ws_seq <| ws_par2 (t := tX) (u := tX) <| we_callN (S := S__law_word K) (c := 20) rfl rfl <| wa_pen rfl <| wa_nil ⟨trivial, _, rfl, by omega, ?_⟩
  intro (wd : Tx) (hwd : WordT wd)
  have hwl : wd.length ≤ 16 := by obtain ⟨c, r, rfl, _, _, q⟩ := hwd; simp; omega
  refine we_pickX rfl <| we_lst <| wal_cons <| we_X <| wal_cons <| we_X <| wal_nil ⟨by simp, ⟨by simp, by simp⟩, _, rfl, by omega, fun s hs => setE_go (by dsimp only [List.set]) ?_⟩
  rw [lite, litm] at hs
  obtain ⟨sn, rfl⟩ : ∃ sn : Bool, s = sg sn := by
    simp only [List.mem_cons, List.not_mem_nil, or_false] at hs
    rcases hs with q | q
    · exact ⟨false, q⟩
    · exact ⟨true, q⟩
  have hsnl : (sg sn).length ≤ 1 := by cases sn <;> simp [sg]
  -- letter, digit, mark
  refine ws_seq <| ws_par3 (t := tX) (u := tX) (s := tX) <| we_pickS rfl <| we_var rfl ⟨⟨by rw [let_eq]; simp, by rw [let_eq]; simp⟩, _, rfl, by omega, fun lt hlt => ?_⟩
  refine we_pickS rfl <| we_var rfl ⟨⟨by rw [dig_eq]; simp, by rw [dig_eq]; simp⟩, _, rfl, by omega, fun dg hdg => ?_⟩
  refine we_pickS rfl <| we_var rfl ⟨odd_len, _, rfl, by omega, fun od hod => setE_go (by dsimp only [List.set]) ?_⟩
  obtain ⟨o1, o2, o3, o4, o5⟩ := odd_all od hod
  -- many digits
  refine ws_seq <| ws_set (t := tX) <| we_joinX nil_lit <| we_ofM' <| wm_mapM (t := tI) tX (fun (_ : Int) y => ∃ c, y = [c] ∧ c ∈ DIG ∧ c ≠ 48) 1 (m + 70 + 20 + 1 + 1 + 1 + 1 + 1) (gsl_name (by decide)) <| wi_range1 <| we_add <| we_int <| we_draw rfl <| we_int ⟨by omega, _, rfl, by omega, fun r h0 h1 => ⟨by omega, rfl, by simp; omega, ?_, ?_⟩⟩
  · intro w' k y hy
    obtain ⟨hk, rfl⟩ := rg_get hy
    refine setE_go (by dsimp only [List.set, hideE, Ent.hide, List.map]) <| wg_name <| setE_go (by dsimp only [List.set]) ?_
    refine we_pickS rfl <| we_X ⟨⟨by rw [lit19]; simp, by rw [lit19]; simp⟩, _, rfl, by omega, fun c hc => ⟨⟨c, rfl, ?_⟩, rfl⟩⟩
    rw [lit19] at hc
    rw [dig_eq]
    exact (by decide : ∀ d ∈ [49, 50, 51, 52, 53, 54, 55, 56, 57], d ∈ [48, 49, 50, 51, 52, 53, 54, 55, 56, 57] ∧ d ≠ 48) c hc
  intro ys hys
  have fl := flat1 (P := fun c => c ∈ DIG ∧ c ≠ 48) hys
  have hxl : ((List.range (61 + r).toNat).map fun (i : Nat) => (i : Int)).length = (61 + r).toNat := by simp
  rw [hxl] at fl ⊢
  refine ⟨ys, rfl, by rw [fl.2.1]; omega, setE_go (by dsimp only [List.set]) ?_⟩
  generalize hM : ys.flatten = M at *
  have hM1 : ∀ x ∈ M, x ∈ DIG := fun x hx => (fl.2.2 x hx).1
  have hM2 : 60 < M.length ∧ M.length ≤ 64 := by have := fl.1; omega
  refine ws_seq <| ws_set (t := tI) <| we_draw rfl <| we_int ⟨by omega, _, rfl, by omega, fun ch c0 c16 => setE_go (by dsimp only [List.set]) ?_⟩
  have numOk : NumT N := ⟨neg, false, ds, hds, by rw [← hN]; simp [bg]⟩
  -- the numerals that are wrong wherever they stand
  have zz : ∀ (sn : Bool) (a : Nat) (t : Tx), a ∈ DIG → t.length ≤ 100 → (∀ c, t.head? = some c → c ∉ DIG) → PieceOk (sg sn ++ ([48, a] ++ t)) 0 := fun sn a t ha hl ht => pc_num (fun x hx => by
    simp at hx
    rcases hx with rfl | rfl
    · exact d48.1
    · exact ha) (by simp) (by simp; omega) ht fun pre post _ => .zero rfl (.inl (by simp))
  refine ws_seq <| ws_if <| wt_val <| we_lt <| we_var rfl <| we_int <| dec2 (fun hc => ?_) (fun hc => ws_next ?_)
  · refine ws_seq <| ws_set (t := tL (tP tX tI)) <| we_ofM' <| wm_lst (t := tP tX tI) <| wal_cons <| we_tup2 (t := tX) (u := tI) <| we_var rfl <| we_int <| wal_cons <| we_tup2 (t := tX) (u := tI) <| we_addX <| we_var rfl <| we_var rfl ⟨by simp; omega, we_lenVX rfl (by omega) <| wal_cons <| we_tup2 (t := tX) (u := tI) <| we_addX <| we_var rfl <| we_var rfl ⟨by simp; omega, we_int <| wal_cons <| we_tup2 (t := tX) (u := tI) <| we_addX <| we_mulL1 <| we_var rfl ⟨_, rfl, we_int ⟨by omega, we_var rfl ⟨by simp; omega, we_int <| wal_nil ⟨by simp, _, rfl, setE_go (by dsimp only [List.set]) ?_⟩⟩⟩⟩⟩⟩
    generalize hI : [([od], (0 : Int)), (wd ++ [od], (wd.length : Int)), ([od] ++ N, (0 : Int)), (List.replicate (17 : Int).toNat lt ++ wd, (0 : Int))] = items
    have hall : ∀ x ∈ items, ∃ j : Nat, x.2 = (j : Int) ∧ PieceOk x.1 j := fun x hx => by
      rw [← hI] at hx
      simp only [List.mem_cons, List.not_mem_nil, or_false] at hx
      rcases hx with rfl | rfl | rfl | rfl
      · exact ⟨0, rfl, pc_odd o1 o2 o3 o4 o5 (by simp)⟩
      · exact ⟨_, rfl, pc_wordOdd hwd o1 o2 o3 o4 o5⟩
      · exact ⟨0, rfl, pc_odd (r := N) o1 o2 o3 o4 o5 (by omega)⟩
      · exact ⟨0, rfl, pc_long hlt hwd⟩
    have hil : items.length = 4 := by rw [← hI]; rfl
    obtain ⟨x, hx, hmem⟩ := atI_mem (xs := items) c0 (by omega)
    exact ws_ret (t := tP tX tI) <| we_ixVL rfl <| we_var rfl ⟨x, hx, hall x hmem, CLe_some (by omega)⟩
  refine ws_seq <| ws_if <| wt_val <| we_lt <| we_var rfl <| we_int <| dec2 (fun hc2 => ?_) (fun hc2 => ws_next ?_)
  · refine ws_seq <| ws_set (t := tL tX) <| we_ofM' <| wm_lst (t := tX) <| wal_cons <| we_addX <| we_addX <| we_var rfl <| we_X ⟨by rw [lit0]; simp; omega, we_var rfl ⟨by rw [lit0]; simp; omega, wal_cons <| we_X <| wal_cons <| we_X <| wal_cons <| we_addX <| we_var rfl <| we_X ⟨by rw [lit00b]; simp; omega, wal_nil ⟨by simp, _, rfl, setE_go (by dsimp only [List.set]) ?_⟩⟩⟩⟩
    rw [lit0, litm0, litm0b, lit00b]
    generalize hI : [sg sn ++ [48] ++ [dg], [45, 48], [45, 48, 33], sg sn ++ [48, 48, 33]] = items
    have hall : ∀ x ∈ items, PieceOk x 0 := fun x hx => by
      rw [← hI] at hx
      simp only [List.mem_cons, List.not_mem_nil, or_false] at hx
      have z0 : ∀ t : Tx, t.length ≤ 100 → (∀ c, t.head? = some c → c ∉ DIG) → PieceOk (sg true ++ ([48] ++ t)) 0 := fun t hl ht => pc_num (fun x hx => by rw [List.mem_singleton.mp hx]; exact d48.1) (by simp) (by simp; omega) ht fun pre post _ => .zero rfl (.inr rfl)
      rcases hx with rfl | rfl | rfl | rfl
      · have := zz sn dg [] hdg (by simp) (fun c hc => by cases hc)
        simpa using this
      · exact z0 [] (by simp) (fun c hc => by cases hc)
      · exact z0 [33] (by simp) (fun c hc => by simp at hc; subst hc; exact d48.2.1)
      · exact zz sn 48 [33] d48.1 (by simp) (fun c hc => by simp at hc; subst hc; exact d48.2.1)
    have hil : items.length = 4 := by rw [← hI]; rfl
    obtain ⟨x, hx, hmem⟩ := atI_mem (xs := items) (i := ch - 4) (by omega) (by omega)
    exact ws_ret (t := tP tX tI) <| we_tup2 (t := tX) (u := tI) <| we_ixVL rfl <| we_sub <| we_var rfl <| we_int ⟨x, hx, we_int ⟨post _ _ 0 rfl (hall x hmem), CLe_some (by omega)⟩⟩
  -- a letter or a digit too near
  have hnear : ∀ (t : Tx) (a : Nat), t = bg bang.not → True := fun _ _ _ => trivial
  have num2 : ∀ (t : Tx), t.length ≤ 100 → (∀ c, t.head? = some c → c ∉ DIG) → (∀ pre post, Post post → Why pre neg ds (t ++ post)) → PieceOk (N ++ t) 0 := fun t hl ht hy => by
    rw [← hN, List.append_assoc]
    exact pc_num hds.dig hds.one (by omega) ht hy
  have letD : ∀ c ∈ LET, c ∉ DIG ∧ c ∈ BEH ∧ c ≠ 33 := fun c hc => ⟨(let_not c hc).1, inw_beh (inw_let hc), (let_not c hc).2.2.2.2⟩
  have h33 : ∀ c, ([33] : Tx).head? = some c → c ∉ DIG := fun c hc => by simp at hc; subst hc; exact d48.2.1
  refine ws_seq <| ws_if <| wt_val <| we_lt <| we_var rfl <| we_int <| dec2 (fun hc3 => ?_) (fun hc3 => ws_next ?_)
  · refine ws_ret (t := tP tX tI) <| we_tup2 (t := tX) (u := tI) <| we_ixAny (t := tX) <| wal_cons <| we_addX <| we_var rfl <| we_var rfl ⟨by omega, wal_cons <| we_addX <| we_addX <| we_var rfl <| we_var rfl ⟨by omega, we_X ⟨by rw [litb]; simp; omega, wal_cons <| we_addX <| we_var rfl <| we_var rfl ⟨by simp; omega, wal_cons <| we_addX <| we_addX <| we_var rfl <| we_X ⟨by rw [litb]; simp; omega, we_var rfl ⟨by rw [litb]; simp; omega, wal_nil ⟨by simp, we_sub <| we_var rfl <| we_int ⟨⟨by omega, by simp; omega⟩, fun x hx => we_int ⟨post _ _ 0 rfl ?_, CLe_some (by omega)⟩⟩⟩⟩⟩⟩⟩⟩⟩
    rw [litb] at hx
    simp only [List.mem_cons, List.not_mem_nil, or_false] at hx
    have lng : ∀ t : Tx, t.length ≤ 100 → (∀ c, t.head? = some c → c ∉ DIG) → PieceOk (sg sn ++ (M ++ t)) 0 := fun t hl ht => pc_num hM1 (by omega) (by omega) ht fun pre post _ => .long hM2.1
    rcases hx with rfl | rfl | rfl | rfl
    · have := lng [] (by simp) (fun c hc => by cases hc)
      simpa using this
    · have := lng [33] (by simp) h33
      rw [List.append_assoc]; exact this
    · exact num2 [lt] (by simp) (fun c hc => by simp at hc; subst hc; exact (letD _ hlt).1) fun pre post _ => .behind lt post rfl (letD _ hlt).2.1 (letD _ hlt).2.2
    · have := num2 ([33] ++ [lt]) (by simp) (fun c hc => by simp at hc; subst hc; exact d48.2.1) fun pre post _ => .bang lt post rfl (letD _ hlt).2.1
      rw [List.append_assoc]; exact this
  refine ws_seq <| ws_if <| wt_val <| we_eqI <| we_var rfl <| we_int <| dec2 (fun hc4 => ?_) (fun hc4 => ws_next ?_)
  · refine ws_ret (t := tP tX tI) <| we_tup2 (t := tX) (u := tI) <| we_addX <| we_var rfl <| we_X ⟨by rw [litbb]; simp; omega, we_int ⟨post _ _ 0 rfl ?_, CLe_some (by omega)⟩⟩
    rw [litbb]
    exact num2 [33, 33] (by simp) (fun c hc => by simp at hc; subst hc; exact d48.2.1) fun pre post _ => .bang 33 post rfl d48.2.2.2
  refine ws_seq <| ws_if <| wt_val <| we_eqI <| we_var rfl <| we_int <| dec2 (fun hc5 => ?_) (fun hc5 => ws_next ?_)
  · refine ws_ret (t := tP tX tI) <| we_tup2 (t := tX) (u := tI) <| we_addX <| we_addX <| we_var rfl <| we_X ⟨by rw [litb]; simp; omega, we_var rfl ⟨by rw [litb]; simp; omega, we_int ⟨post _ _ 0 rfl ?_, CLe_some (by omega)⟩⟩⟩
    rw [litb, List.append_assoc]
    exact num2 [33, dg] (by simp) (fun c hc => by simp at hc; subst hc; exact d48.2.1) fun pre post _ => .bang dg post rfl (dig_beh hdg)
  -- minus signs
  refine ws_seq <| ws_set (t := tX) <| we_mono (k := fun (x : Tx) n' Γ' => (∃ es : Tx, x = 45 :: es ∧ (∀ y ∈ es, y ∈ DIG) ∧ 1 ≤ es.length ∧ es.length ≤ 60) ∧ n' = some (m + 70 + 20 + 1 + 1 + 1 + 1 + 1 + 1 * (61 + r).toNat + 1) ∧ Γ' = [.pen, .im tX LET, .im tX DIG, .im tX ODD, .im tX N, .im tX wd, .im tX (sg sn), .im tX [lt], .im tX [dg], .im tX [od], .im tX M, .im tI ch, .no, .no, .no, .no, .no, .no]) ?_ ?_
  · refine we_if <| wt_val <| we_neX <| we_var rfl <| we_X ?_
    refine dec2n (fun h => ?_) (fun h => ?_)
    · refine we_catRepl minus_lit minus_lit nil_lit (by decide) (by simp) (by rw [← hN]; intro z; have := congrArg List.length z; rw [List.length_append, List.length_nil] at this; omega) rfl (by omega) (by simp) ?_ ⟨?_, rfl, rfl⟩
      · rw [← hN, less_of hds.dig]; simp; omega
      · rw [← hN, less_of hds.dig]; exact ⟨ds, rfl, hds.dig, hds.one, hds.most⟩
    · refine we_X ⟨?_, rfl, rfl⟩
      rw [litm7]
      exact ⟨[55], rfl, fun y hy => by rw [List.mem_singleton.mp hy]; exact d48.2.2.1, by simp, by simp⟩
  rintro _ _ _ ⟨⟨es, rfl, he1, he2, he3⟩, rfl, rfl⟩
  refine setE_go (by dsimp only [List.set]) ?_
  refine ws_seq <| ws_if <| wt_val <| we_eqI <| we_var rfl <| we_int <| dec2 (fun hc6 => ?_) (fun hc6 => ws_next ?_)
  · refine ws_seq <| ws_set (t := tI) <| we_add <| we_int <| we_draw rfl <| we_int ⟨by omega, _, rfl, by omega, fun r2 h20 h21 => setE_go (by dsimp only [List.set]) ?_⟩
    refine ws_ret (t := tP tX tI) <| we_tup2 (t := tX) (u := tI) <| we_addX <| we_mulX minus_lit <| we_var rfl ⟨by omega, we_var rfl ⟨by rw [List.length_replicate, List.length_cons]; omega, we_var rfl ⟨post _ _ (1 + r2).toNat (by omega) (pc_minus he1 he2 he3 (by omega) (by omega)), CLe_some (by omega)⟩⟩⟩
  refine ws_seq <| ws_set (t := tX) <| we_pickX rfl <| we_lst <| wal_cons <| we_var rfl <| wal_cons <| we_var rfl <| wal_cons <| we_addX <| we_var rfl <| we_X ⟨by rw [litb]; simp; omega, wal_nil ⟨by simp, ⟨by simp, by simp⟩, _, rfl, by omega, fun a ha => setE_go (by dsimp only [List.set]) ?_⟩⟩
  rw [litb] at ha
  have hal : a.length ≤ 62 ∧ (WordT a ∨ NumT a) := by
    simp only [List.mem_cons, List.not_mem_nil, or_false] at ha
    rcases ha with rfl | rfl | rfl
    · exact ⟨by omega, .inl hwd⟩
    · exact ⟨by omega, .inr numOk⟩
    · exact ⟨by simp; omega, .inr ⟨neg, true, ds, hds, by rw [← hN]; simp [bg]⟩⟩
  exact ws_ret (t := tP tX tI) <| we_tup2 (t := tX) (u := tI) <| we_addX <| we_var rfl <| we_var rfl ⟨by simp; omega, we_lenVX rfl (by omega) ⟨post _ _ a.length rfl (pc_ahead hal.2 he1 he2 he3), CLe_some (by omega)⟩⟩

/-! ### the source of draws -/
abbrev sp__law_pen (K : Frag) : Sp := spPen K
theorem cut63 {xs : List V} (h : xs.length ≤ 63) : cutV xs none (some 63) = xs := by
  show ((xs.drop 0).take (HT.sIx xs.length xs.length (some ((63 : Nat) : Int)) - 0)) = xs
  rw [HT.sIx_nat, List.drop_zero, Nat.sub_zero, Nat.min_eq_right h, List.take_length]
theorem putK_new {kvs : List (Key × V)} {k : Key} {v : V} (h : ∀ p ∈ kvs, ¬ p.1 = k) : putK kvs k v = kvs ++ [(k, v)] := by
  unfold putK
  rw [if_neg]
  intro z
  obtain ⟨p, hp, e⟩ := List.any_eq_true.mp z
  exact h p hp (of_decide_eq_true e)
theorem merge_pen {c : Addr} {a l : Int} : mergeK [] (penKV c a l) = penKV c a l := by
  show putK (putK (putK [] (Sum.inr "cells" : Key) (.ref c)) (Sum.inr "at" : Key) (.int a)) (Sum.inr "left" : Key) (.int l) = _
  rw [putK_new (kvs := []) (fun p hp => by cases hp), putK_new (kvs := [] ++ _) (fun p hp => by
    rw [List.mem_singleton.mp hp]; exact kne3), putK_new (fun p hp => by
    rcases List.mem_append.mp hp with q | q
    · rw [List.mem_singleton.mp q]; exact kne1
    · rw [List.mem_singleton.mp q]; exact kne2)]
  rfl
theorem ok__law_pen {P : Program} {w : World} {K : Frag} {mg : Str → Option Value} {base : Heap} {f C_BadText : Addr} {fd : FuncData} (F : Fun K "_law_pen" "_law_pen" s__law_pen f fd) (T : Bts mg) (XC : Xc P K mg C_BadText) : FnOk P w K mg base CX0 1 f fd ["_law_script"] (sp__law_pen K) := by
  refine F.ok sc__law_pen (fun vs H Q E h => by obtain ⟨a, ns, rfl, _⟩ := h; rfl) (fun cdv A outer s H vs Q E hr h => ⟨_, (pss_one (ps_ret (pe_disp (pps_cons pe_str (pe_callTy (call_listK K rfl) (by rfl) T.b_list PyProof.Rows.boot_list (pa_cons (pe_slice (sl_listK K rfl) (pv 0) po_none (po_some pe_int)) pa_nil)) (pps_cons pe_str pe_int (pps_cons pe_str pe_int pps_nil))) (by rfl) (by rfl) (fun z => by cases z) (by decide)))), ?_⟩)

  obtain ⟨a, ns, rfl, hS, hl, q⟩ := h
  intro p hp
  have e0 : Ex H (upd H p (.dK [])) := Ex.new hp
  refine ⟨.ref a, rfl, 63, rfl, a, ns.map V.int, rfl, e0.l hS, fun l h1 => ⟨l, _, rfl, .inl (SqL.of upd_same), fun c h2 => ?_⟩⟩
  have hlp : l ≠ p := fun z => by rw [z, upd_same] at h1; cases h1
  have hcl : c ≠ l := fun z => by rw [z, upd_same] at h2; cases h2
  rw [upd_ne hcl] at h2
  have hcp : c ≠ p := fun z => by rw [z, upd_same] at h2; cases h2
  rw [upd_ne hcp] at h2
  refine ⟨by rw [upd_ne (Ne.symm hcp), upd_ne (Ne.symm hlp), upd_same], penKV c 0 0, rfl, Nat.le_of_ble_eq_true rfl, ?_⟩
  rw [merge_pen]
  refine q c p _ ?_ h2 hp (Ne.symm hcp) ?_ upd_same
  · intro x o hx
    have x1 : x ≠ p := ne_of_none hx hp
    have x2 : x ≠ c := ne_of_none hx h2
    have x3 : x ≠ l := ne_of_none hx (by rw [upd_ne hlp] at h1; exact h1)
    rw [upd_ne x1, upd_ne x2, upd_ne x3, upd_ne x1]; exact hx
  · rw [upd_ne hcp, upd_same, cut63 (by simpa using hl)]

/-! ### the law -/
abbrev dTk {K : Frag} : IsD K (tL tTk) := iL (iP3 iX iI iX)
def Fine (xs : List Tk) : Prop := ∀ t ∈ xs, (∀ c ∈ t.1, c < 1114112) ∧ ∀ c ∈ t.2.2, c < 1114112
theorem strOkS {x : Tx} (h : ∀ c ∈ x, c < 1114112) : PyData.strOk (SX.S x) = true := by
  unfold PyData.strOk
  simpa using h
theorem layTk {K : Frag} {xs : List Tk} (h : Fine xs) : ((dTk (K := K)).enc xs).canLay0 = true := layL fun x hx => by
  show PyData.canLay0 (.tuple [.str _, .int _, .str _]) = true
  simp [PyData.canLay0, PyData.canLayAll0, strOkS (h x hx).1, strOkS (h x hx).2]
theorem we_neTk {K : Frag} {w : Wd} {n : Option Nat} {Γ : TL.Env} {ta tb : TE} {k : Bool → NK} (h : WpE K w n Γ ta (tL tTk) (fun a n Γ => WpE K w n Γ tb (tL tTk) (fun b n Γ => (Fine a ∧ Fine b) ∧ k (!decide (a = b)) n Γ))) : WpE K w n Γ (tOp (rNeU K) ta tb) tBo k :=
  we_neD dTk (Nat.le_of_ble_eq_true rfl) (we_mono h fun x _ _ q => we_mono q fun y _ _ z => ⟨⟨layTk z.1.1, layTk z.1.2⟩, z.2⟩)
theorem inw_small : (∀ c ∈ INW, c < 1114112) ∧ (∀ c ∈ MRK, c < 1114112) ∧ ∀ c ∈ DIG, c < 1114112 := by rw [inw_eq, mrk_eq, let_eq, dig_eq]; decide
theorem tok_small {w : Tx} (h : TokOk w) : ∀ c ∈ w, c < 1114112 := by
  cases h with
  | word c r h1 h2 h3 =>
    intro x hx
    rcases List.mem_cons.mp hx with rfl | hx
    · exact inw_small.1 _ (inw_let h1)
    · exact inw_small.1 _ (h2 x hx)
  | mark c h => intro x hx; rw [List.mem_singleton.mp hx]; exact inw_small.2.1 _ h
  | num neg bang ds h1 h2 h3 h4 =>
    intro x hx
    rcases List.mem_append.mp hx with q | q
    · cases neg <;> simp at q; omega
    · rcases List.mem_append.mp q with q | q
      · exact inw_small.2.2 _ (h1 x q)
      · cases bang <;> simp at q; omega
theorem kind_small (w : Tx) : ∀ c ∈ kindF w, c < 1114112 := by
  have h : (∀ c ∈ sWord, c < 1114112) ∧ (∀ c ∈ sMark, c < 1114112) ∧ (∀ c ∈ sFrozen, c < 1114112) ∧ ∀ c ∈ sFree, c < 1114112 := by decide +kernel
  unfold kindF
  split
  · exact h.1
  · split
    · exact h.2.1
    · split
      · exact h.2.2.1
      · exact h.2.2.2
theorem toks_fine : ∀ {b : List (Nat × Tx)} {p : Option Tx} {i : Nat}, Gaps p b → Fine (toksOf i b)
  | [], p, i, _ => fun t ht => by simp [toksOf] at ht
  | (s, v) :: b, p, i, ⟨_, h2, h3⟩ => fun t ht => by
    rcases List.mem_cons.mp (show t ∈ (kindF v, _, v) :: toksOf (i + s + v.length) b from ht) with rfl | q
    · exact ⟨kind_small v, tok_small h2⟩
    · exact toks_fine h3 t q
theorem fine_nil : Fine [] := fun t ht => by cases ht
theorem ne_same {α : Type} [DecidableEq α] {a b : α} {A B : Prop} (e : a = b) (q : B) : ((!decide (a = b)) = true → A) ∧ ((!decide (a = b)) = false → B) := ⟨fun z => by simp [e] at z, fun _ => q⟩
theorem spl_tail {a tail : Tx} (h : 35 ∉ a) (ht : Tail tail) : ∃ r, spl [35] 0 [] (a ++ tail) = a :: r := by
  rcases ht with rfl | ⟨c, rfl⟩
  · rw [List.append_nil]
    have := SX.spl_join (c := 35) (sep := []) (parts := [a]) (by simp) (fun p hp => by rw [List.mem_singleton.mp hp]; exact h)
    exact ⟨[], this⟩
  · exact ⟨_, SX.spl_free (sep := [35]) (p := a) c (by simp) (SX.free_head h)⟩
theorem scan0 {b : List (Nat × Tx)} {e : Nat} {tail : Tx} (ht : Tail tail) (g : Gaps none b) : Scan (flat b ++ (List.replicate e 32 ++ tail)) 0 (toksOf 0 b) := scan_body (e := e) ht b none [] g (fun c hc => by simp at hc)
theorem hash_lit : (Str.ofString "#") = SX.S [35] := by decide +kernel

theorem cut_pre {α : Type} {xs : List α} {k : Nat} : cutL xs none (some (k : Int)) = xs.take k := by
  unfold cutL
  rw [HT.sIx_nat]
  show ((xs.drop 0).take (min k xs.length - 0)) = _
  rw [List.drop_zero, Nat.sub_zero]
  exact List.take_eq_take_min.symm
theorem cut_post {α : Type} {xs : List α} {k : Nat} : cutL xs (some (k : Int)) none = xs.drop k := by
  unfold cutL
  rw [HT.sIx_nat]
  show ((xs.drop (min k xs.length)).take (xs.length - min k xs.length)) = _
  rcases Nat.lt_or_ge k xs.length with z | z
  · rw [Nat.min_eq_left (by omega)]
    exact List.take_of_length_le (by simp)
  · rw [Nat.min_eq_right z, List.drop_length, List.drop_of_length_le z]; simp

abbrev dPl {K : Frag} : IsP K tPl := pO (iP iI iI).p
theorem layPl {K : Frag} (x : Option (Int × Int)) : ((dPl (K := K)).enc x).canLay0 = true := by
  cases x with
  | none => show PyData.canLay0 .none = true; simp [PyData.canLay0]
  | some y => show PyData.canLay0 (.tuple [.int y.1, .int y.2]) = true; simp [PyData.canLay0, PyData.canLayAll0]
theorem layP2 {K : Frag} (x : Int × Int) : ((iP iI iI : IsD K (tP tI tI)).p.enc x).canLay0 = true := by show PyData.canLay0 (.tuple [.int x.1, .int x.2]) = true; simp [PyData.canLay0, PyData.canLayAll0]
theorem neP_same {K : Frag} {a b : Int} {x y : Int} {A B : Prop} (e1 : a = x) (e2 : b = y) (q : B) : ((!PyData.eqv ((dPl (K := K)).enc (some (a, b))) ((iP iI iI : IsD K (tP tI tI)).p.enc (x, y))) = true → A) ∧ ((!PyData.eqv ((dPl (K := K)).enc (some (a, b))) ((iP iI iI : IsD K (tP tI tI)).p.enc (x, y))) = false → B) := by
  subst e1 e2
  have : PyData.eqv ((dPl (K := K)).enc (some (a, b))) ((iP iI iI : IsD K (tP tI tI)).p.enc (a, b)) = true := by
    show PyData.eqv (.tuple [.int a, .int b]) (.tuple [.int a, .int b]) = true
    simp [PyData.eqv, PyData.eqvAll]
  rw [this]
  exact ⟨fun z => (by cases z), fun _ => q⟩
theorem notNonQ {B : Hp} {v : V} {x : Int × Int} (h : (tP tI tI).rep B v x) : ¬ v = .non := by
  obtain ⟨a, p, q, rfl, _⟩ := h
  intro z; cases z
theorem lit_sh : (Str.ofString " #").cps.toList = [32, 35] := by decide +kernel
theorem lit_sp : (Str.ofString " ").cps.toList = [32] := by decide +kernel
theorem lit_cm : (Str.ofString ",").cps.toList = [44] := by decide +kernel
theorem lit_pl : (Str.ofString "+").cps.toList = [43] := by decide +kernel
theorem comma_ok : TokOk [44] ∧ TokOk [43] := ⟨.mark 44 (by rw [mrk_eq]; decide), .mark 43 (by rw [mrk_eq]; decide)⟩
theorem ok_law {P : Program} {w : World} {K : Frag} {mg : Str → Option Value} {base : Heap} {f C_BadText : Addr} {fd : FuncData} (F : Fun K "law" "law" s_law f fd) (T : Bts mg) (XC : Xc P K mg C_BadText) (c__law_wrong : Callee P w K mg base CX0 6 "_law_wrong" ["_law_row_here", "_law_number"] (sp__law_wrong K)) (c_scan : Callee P w K mg base (L2.CX P w) 5 "scan" ["line", "number"] (sp_scan K C_BadText)) (c__law_draw : Callee P w K mg base CX0 1 "_law_draw" ["_law_pen_here", "_law_many"] (sp__law_draw K)) (c__law_piece : Callee P w K mg base CX0 4 "_law_piece" ["_law_pen_here"] (sp__law_piece K)) (c__law_row : Callee P w K mg base CX0 3 "_law_row" ["_law_pen_here", "_law_tokens"] (sp__law_row K)) (c__law_pick : Callee P w K mg base CX0 2 "_law_pick" ["_law_pen_here", "_law_items"] (sp__law_pick K)) (c__law_numeral : Callee P w K mg base CX0 3 "_law_numeral" ["_law_pen_here"] (sp__law_numeral K)) (c__law_word : Callee P w K mg base CX0 3 "_law_word" ["_law_pen_here"] (sp__law_word K)) (c__law_pen : Callee P w K mg base CX0 1 "_law_pen" ["_law_script"] (sp__law_pen K)) : FnOk P w K mg base CX0 7 f fd ["_law_script"] (spLaw K) := by
  refine F.ok sc_law (fun vs H Q E h => by obtain ⟨a, ns, rfl, _⟩ := h; rfl) (fun cdv A outer s H vs Q E hr h => ⟨_, (pss_cons (ps_set (i := 1) sc_law.nd rfl (by first | exact Or.inl rfl | exact Or.inr rfl) (pe_callC c__law_pen (hr.mono (by decide)) rfl (pa_cons (pv 0) pa_nil)))
      (pss_cons (ps_for PassesOwn.never rfl (pi_range1 (by rfl) T.b_range (pa_cons (pe_op op_addU pe_int (pe_callB (call_minU rfl) (by rfl) T.b_min PyProof.Rows.boot_min (pa_cons pe_int (pa_cons (pe_callB (call_lenK K rfl) (by rfl) T.b_len PySem.boot_len (pa_cons (pv 0) pa_nil)) pa_nil)))) pa_nil)) (pg_name (i := 2) sc_law.nd rfl (by first | exact Or.inl rfl | exact Or.inr rfl)) (pss_cons (ps_setLc (i := 3) (own := [("_law_k", 14)]) rfl sc_law.nd rfl rfl (sw_true rfl rfl rfl (by decide +kernel)) (pi_range1 (by rfl) T.b_range (pa_cons (pe_callC c__law_draw (hr.mono (by decide)) rfl (pa_cons (pv 1) (pa_cons pe_int pa_nil))) pa_nil)) (blkOk_by (N := ["_law_script", "_law_pen_here", "_law_turn", "_law_tokens", "_law_at", "_law_number", "_law_ahead", "_law_behind", "_law_piece_here", "_law_few", "_law_other", "_law_row_here", "_law_right", "_law_bare", "_law_k"]) (sc := defScope s_law) (by decide +kernel)) (fun _ _ _ _ _ => (pg_name (i := 14) sc_law.nd rfl (by first | exact Or.inl rfl | exact Or.inr rfl))) (fun _ _ _ _ _ => pts_nil) (fun _ _ _ _ _ => (pe_callC c__law_pick (hr.mono (by decide)) rfl (pa_cons (pv 1) (pa_cons (pe_lst (pa_cons (pe_callC c__law_word (hr.mono (by decide)) rfl (pa_cons (pv 1) pa_nil)) (pa_cons (pe_callC c__law_numeral (hr.mono (by decide)) rfl (pa_cons (pv 1) pa_nil)) (pa_cons pe_str (pa_cons pe_str pa_nil))))) pa_nil)))))
      (pss_cons (ps_par (i := 4) (j := 5) rfl sc_law.nd rfl rfl (by decide) rfl rfl (pa_cons (pe_callC c__law_draw (hr.mono (by decide)) rfl (pa_cons (pv 1) (pa_cons (pe_op op_addU (pe_callB (call_lenK K rfl) (by rfl) T.b_len PySem.boot_len (pa_cons (pv 3) pa_nil)) pe_int) pa_nil))) (pa_cons (pe_op op_addU pe_int (pe_callC c__law_draw (hr.mono (by decide)) rfl (pa_cons (pv 1) (pa_cons pe_int pa_nil)))) pa_nil)) (by rfl))
      (pss_cons (ps_par (i := 6) (j := 7) rfl sc_law.nd rfl rfl (by decide) rfl rfl (pa_cons (pe_ix (ix_seqK K rfl) (pe_m1 PySem.F.slot_str_split PySem.F.type_str_split mt_splitS (pe_ix (ix_seqK K rfl) (pe_callC c__law_row (hr.mono (by decide)) rfl (pa_cons (pv 1) (pa_cons (pe_slice (sl_listK K rfl) (pv 3) po_none (po_some (pv 4))) pa_nil))) pe_int (fun _ _ => rfl)) pe_str) pe_int (fun _ _ => rfl)) (pa_cons (pe_ix (ix_seqK K rfl) (pe_callC c__law_row (hr.mono (by decide)) rfl (pa_cons (pv 1) (pa_cons (pe_slice (sl_listK K rfl) (pv 3) (po_some (pv 4)) po_none) pa_nil))) pe_int (fun _ _ => rfl)) pa_nil)) (by rfl))
      (pss_cons (ps_asg (pe_callC c__law_piece (hr.mono (by decide)) rfl (pa_cons (pv 1) pa_nil)) (pg_tupK (n := 2) K rfl rfl (pgs_cons (pg_name (i := 8) sc_law.nd rfl (by first | exact Or.inl rfl | exact Or.inr rfl)) (pgs_cons (pg_name (i := 9) sc_law.nd rfl (by first | exact Or.inl rfl | exact Or.inr rfl)) pgs_nil))))
      (pss_cons (ps_set (i := 10) sc_law.nd rfl (by first | exact Or.inl rfl | exact Or.inr rfl) (pe_ifExp (pt_cmpR (op_eqK K rfl hr.units) (pe_callC c__law_draw (hr.mono (by decide)) rfl (pa_cons (pv 1) (pa_cons pe_int pa_nil))) pe_int (nomark _)) (pe_ix (ix_seqK K rfl) (pe_callC c__law_piece (hr.mono (by decide)) rfl (pa_cons (pv 1) pa_nil)) pe_int (fun _ _ => rfl)) pe_str))
      (pss_cons (ps_set (i := 11) sc_law.nd rfl (by first | exact Or.inl rfl | exact Or.inr rfl) (pe_op op_addU (pe_op op_addU (pe_op op_addU (pe_op op_addU (pe_op op_addU (pe_op op_addU (pv 6) pe_str) (pv 8)) pe_str) (pe_ix (ix_seqK K rfl) (pe_m1 PySem.F.slot_str_split PySem.F.type_str_split mt_splitS (pv 7) pe_str) pe_int (fun _ _ => rfl))) pe_str) (pv 10)))
      (pss_cons (ps_if (pt_cmpR (op_neK K rfl hr.units) (pe_callC c__law_wrong (hr.mono (by decide)) rfl (pa_cons (pv 11) (pa_cons (pv 5) pa_nil))) (pe_tup (pa_cons (pv 5) (pa_cons (pe_op op_addU (pe_op op_addU (pe_callB (call_lenK K rfl) (by rfl) T.b_len PySem.boot_len (pa_cons (pv 6) pa_nil)) pe_int) (pv 9)) pa_nil))) (nomark _)) (pss_one (ps_ret pe_bl)) pss_nil)
      (pss_cons (ps_set (i := 12) sc_law.nd rfl (by first | exact Or.inl rfl | exact Or.inr rfl) (pe_op op_addU (pe_op op_addU (pe_op op_addU (pe_op op_addU (pv 6) pe_str) (pv 8)) (pv 7)) (pv 10)))
      (pss_cons (ps_if (PW.pt (pw_or (pt_cmpR op_notN (pe_callC c__law_wrong (hr.mono (by decide)) rfl (pa_cons (pv 12) (pa_cons (pv 5) pa_nil))) pe_non (nomark _)) (pw_or1 (pt_cmpR (op_neK K rfl hr.units) (pe_callX0 c_scan (hr.mono (by decide)) rfl (pa_cons (pv 12) (pa_cons pe_int pa_nil))) (pe_callX0 c_scan (hr.mono (by decide)) rfl (pa_cons (pv 6) (pa_cons pe_int pa_nil))) (nomark _))))) (pss_one (ps_ret pe_bl)) pss_nil)
      (pss_cons (ps_set (i := 13) sc_law.nd rfl (by first | exact Or.inl rfl | exact Or.inr rfl) (pe_callC c__law_wrong (hr.mono (by decide)) rfl (pa_cons (pv 8) (pa_cons (pv 5) pa_nil))))
      (pss_one (ps_if (pt_cmpR (op_neK K rfl hr.units) (pv 13) (pe_tup (pa_cons (pv 5) (pa_cons (pe_op op_addU pe_int (pv 9)) pa_nil))) (nomark _)) (pss_one (ps_ret pe_bl)) pss_nil)))))))))))))
      (pss_one (ps_ret pe_bl)))), ?_⟩)

  refine law_body (by decide) h fun w ns hl => ?_
  show WpS K w (some 0) [.im (tLs K tI) ns, .pen, .no, .no, .no, .no, .no, .no, .no, .no, .no, .no, .no, .no, .no] _ _ _ _ _ _
  refine ws_seq ?_
  refine ws_for (t := tI) (fun xs i n' Γ => xs.length ≤ 10 ∧ n' = some (2000 * i) ∧ Γ = [.im (tLs K tI) ns, .pen, .no, .no, .no, .no, .no, .no, .no, .no, .no, .no, .no, .no, .no]) ?_
  walk_at "go"
  refine we_min ?_
  walk_at "go"
  generalize hj : (4 + if (ns.length : Int) < 6 then (ns.length : Int) else 6 : Int) = j
  have hj1 : 0 ≤ j ∧ j ≤ 10 := by split at hj <;> omega
  refine ⟨Up.of ⟨by simp; omega, rfl, rfl⟩, ?_, ?_⟩
  rotate_left
  · rintro n' Γ ⟨_, rfl, rfl⟩
    exact ws_ret (we_bool rfl)
  rintro i x n' Γ hx ⟨hl8, rfl, rfl⟩
  have hi8 : i < 10 := by have := get_lt hx; omega
  clear hx
  generalize hm : 2000 * i = m
  have hmb : m ≤ 20000 := by omega
  refine wg_name (setE_go (by dsimp only [List.set]) ?_)
  -- the tokens
  refine ws_seq <| ws_set (t := tL tX) <| we_ofM' <| wm_mapM (t := tI) tX (fun (_ : Int) (y : Tx) => TokOk y) 91 (m + 1) (gsl_name (by decide)) <| wi_range1 <| we_draw rfl <| we_int ⟨by omega, _, rfl, by omega, fun z hz0 hz1 => ⟨by omega, rfl, by simp; omega, ?_, ?_⟩⟩
  · intro w' k y hy
    obtain ⟨hk, rfl⟩ := rg_get hy
    refine setE_go (by dsimp only [List.set, hideE, Ent.hide, List.map]) <| wg_name <| setE_go (by dsimp only [List.set]) ?_
    refine we_pickX rfl <| we_lst <| wal_cons <| we_callN (S := S__law_word K) (c := 20) rfl rfl <| wa_pen rfl <| wa_nil ⟨trivial, _, rfl, by simp at hk; omega, ?_⟩
    intro (wd : Tx) (hwd : WordT wd)
    refine wal_cons <| we_callN (S := S__law_numeral K) (c := 70) rfl rfl <| wa_pen rfl <| wa_nil ⟨trivial, _, rfl, by simp at hk; omega, ?_⟩
    intro (nm : Tx) (hnm : NumT nm)
    refine wal_cons <| we_X <| wal_cons <| we_X <| wal_nil ⟨by simp, ⟨by simp, by simp⟩, _, rfl, by simp at hk; omega, fun t ht => ⟨?_, by congr 1⟩⟩
    rw [lit_cm, lit_pl] at ht
    simp only [List.mem_cons, List.not_mem_nil, or_false] at ht
    rcases ht with rfl | rfl | rfl | rfl
    · exact hwd.tok
    · exact hnm.tok
    · exact comma_ok.1
    · exact comma_ok.2
  intro tokens htok
  have hxl : ((List.range z.toNat).map fun (i : Nat) => (i : Int)).length = z.toNat := by simp
  have htl : tokens.length = z.toNat := by rw [← pw_len htok, hxl]
  rw [hxl]
  have htk : ∀ y ∈ tokens, TokOk y := fun y hy => by
    obtain ⟨k, hk⟩ := List.mem_iff_getElem?.mp hy
    obtain ⟨_, _, q⟩ := pw_getR htok hk
    exact q
  refine ⟨_, rfl, setE_go (by dsimp only [List.set]) ?_⟩
  generalize hN : m + 1 + 91 * z.toNat = N
  have hNb : N ≤ m + 1 + 91 * 12 := by omega
  -- the place, the line's number
  refine ws_seq <| ws_par2 (t := tI) (u := tI) <| we_draw rfl <| we_add <| we_lenVL rfl <| we_int ⟨by omega, _, rfl, by omega, fun at0 a0 a1 => we_add <| we_int <| we_draw rfl <| we_int ⟨by omega, _, rfl, by omega, fun num0 nm0 nm1 => setE_go (by dsimp only [List.set]) ?_⟩⟩
  generalize hnum : 1 + num0 = num
  -- the rows
  have hcut1 : cutL tokens none (some at0) = tokens.take at0.toNat := by
    have := cut_pre (xs := tokens) (k := at0.toNat)
    rw [Int.toNat_of_nonneg a0] at this; exact this
  have hcut2 : cutL tokens (some at0) none = tokens.drop at0.toNat := by
    have := cut_post (xs := tokens) (k := at0.toNat)
    rw [Int.toNat_of_nonneg a0] at this; exact this
  have hr1 : ∀ y ∈ tokens.take at0.toNat, TokOk y := fun y hy => htk y (List.mem_of_mem_take hy)
  have hr2 : ∀ y ∈ tokens.drop at0.toNat, TokOk y := fun y hy => htk y (List.mem_of_mem_drop hy)
  refine ws_seq <| ws_par2 (t := tX) (u := tX) <| we_ixL (t := tX) <| we_ofM' <| wm_splitX hash_lit (by simp) (by decide) <| we_ix20 (u := tL tI) <| we_callN (S := S__law_row K) (c := 40) rfl rfl <| wa_pen rfl <| wa_cons <| we_ofM' <| wm_sliceL (t := tX) <| we_var rfl <| wo_none <| wo_some <| we_var rfl ⟨_, rfl, wa_nil ⟨⟨by rw [hcut1]; simp; omega, by rw [hcut1]; exact hr1⟩, _, rfl, by omega, ?_⟩⟩
  rintro ⟨row1, cols1⟩ hrow1
  obtain ⟨⟨b, e, tail, hbt, hg, ht, hrw, hcols⟩, hrl⟩ : RowOk _ row1 cols1 := hrow1
  have hns : 35 ∉ flat b ++ List.replicate e 32 := fun q => by
    rcases List.mem_append.mp q with q | q
    · exact flat_no hg q
    · have := (List.mem_replicate.mp q).2; omega
  obtain ⟨rs, hrs⟩ := spl_tail hns ht
  have hrw2 : row1 = (flat b ++ List.replicate e 32) ++ tail := by rw [hrw]; simp
  have hsl : (flat b ++ List.replicate e 32).length ≤ 3000 := by rw [hrw2, List.length_append] at hrl; omega
  refine ⟨by show row1.length ≤ 100000; omega, _, rfl, we_int ⟨flat b ++ List.replicate e 32, by show atI (spl [35] 0 [] row1) 0 = _; rw [hrw2, hrs, atI_int (by omega) (by simp)]; rfl, ?_⟩⟩
  refine we_ix20 (u := tL tI) <| we_callN (S := S__law_row K) (c := 40) rfl rfl <| wa_pen rfl <| wa_cons <| we_ofM' <| wm_sliceL (t := tX) <| we_var rfl <| wo_some <| we_var rfl <| wo_none ⟨_, rfl, wa_nil ⟨⟨by rw [hcut2]; simp; omega, by rw [hcut2]; exact hr2⟩, _, rfl, by omega, ?_⟩⟩
  rintro ⟨row2, cols2⟩ hrow2
  obtain ⟨⟨b2, e2, tail2, _, hg2, ht2, hrw3, _⟩, hrl2⟩ : RowOk _ row2 cols2 := hrow2
  have hns2 : 35 ∉ flat b2 ++ List.replicate e2 32 := fun q => by
    rcases List.mem_append.mp q with q | q
    · exact flat_no hg2 q
    · have := (List.mem_replicate.mp q).2; omega
  obtain ⟨rs2, hrs2⟩ := spl_tail hns2 ht2
  have hrw4 : row2 = (flat b2 ++ List.replicate e2 32) ++ tail2 := by rw [hrw3]; simp
  refine setE_go (by dsimp only [List.set]) ?_
  have hah : Scan (flat b ++ List.replicate e 32) 0 (toksOf 0 b) := by
    have := scan0 (e := e) (tail := []) (.inl rfl) hg
    rw [List.append_nil] at this; exact this
  have hbr : ∀ {p post : Tx} {j : Nat}, PieceOk p j → Post post → Bad ((flat b ++ List.replicate e 32) ++ ([32] ++ (p ++ post))) ((flat b ++ List.replicate e 32).length + 1 + j) 0 := fun hp hq => bad_row hg hp hq
  have hrt : ∀ r : Tx, Scan ((flat b ++ List.replicate e 32) ++ ([32, 35] ++ r)) 0 (toksOf 0 b) := fun r => by
    have := scan0 (e := e + 1) (tail := 35 :: r) (.inr ⟨r, rfl⟩) hg
    rw [List.replicate_succ', show flat b ++ (List.replicate e 32 ++ [32] ++ 35 :: r) = (flat b ++ List.replicate e 32) ++ ([32, 35] ++ r) by simp] at this
    exact this
  have hfine : Fine (toksOf 0 b) := toks_fine hg
  generalize hah0 : flat b ++ List.replicate e 32 = ahead at *
  have hrow2l : row2.length ≤ 3000 := hrl2
  have hsp2 : atI (spl [35] 0 [] row2) 0 = some (flat b2 ++ List.replicate e2 32) := by rw [hrw4, hrs2, atI_int (by omega) (by simp)]; rfl
  have hb2l : (flat b2 ++ List.replicate e2 32).length ≤ 3000 := by rw [hrw4, List.length_append] at hrl2; omega
  generalize flat b2 ++ List.replicate e2 32 = bare2 at hsp2 hb2l
  -- the pieces
  refine ws_seq <| ws_asg (t := tP tX tI) <| we_callN (S := S__law_piece K) (c := 170) rfl rfl <| wa_pen rfl <| wa_nil ⟨trivial, _, rfl, by omega, ?_⟩
  rintro ⟨p, few⟩ ⟨pj, hfew, hpc⟩
  have hfew : few = (pj : Int) := hfew
  subst hfew
  have hpc : PieceOk p pj := hpc
  have hpl := hpc.len
  refine wg_pair <| setE_go (by dsimp only [List.set]) ?_
  refine ws_seq <| ws_set (t := tX) <| we_mono (k := fun (o : Tx) n' Γ' => o.length ≤ 300 ∧ (∃ c, n' = some c ∧ c ≤ N + 1 + 1 + 40 + 40 + 170 + 1 + 170) ∧ Γ' = [.im (tLs K tI) ns, .pen, .im tI x, .im (tL tX) tokens, .im tI at0, .im tI num, .im tX ahead, .im tX row2, .im tX p, .im tI (pj : Int), .no, .no, .no, .no, .no]) ?_ ?_
  · refine we_if <| wt_val <| we_eqI <| we_draw rfl <| we_int ⟨by omega, _, rfl, by omega, fun r h0 h1 => we_int <| dec2 (fun h2 => ?_) (fun h2 => we_X ⟨by rw [lite]; simp, ⟨_, rfl, by omega⟩, rfl⟩)⟩
    refine we_ix20 (u := tI) <| we_callN (S := S__law_piece K) (c := 170) rfl rfl <| wa_pen rfl <| wa_nil ⟨trivial, _, rfl, by omega, ?_⟩
    rintro ⟨o, oj⟩ ⟨_, _, ho⟩
    exact ⟨ho.len, ⟨_, rfl, by omega⟩, rfl⟩
  rintro other _ _ ⟨hol, ⟨c, rfl, hcb⟩, rfl⟩
  refine setE_go (by dsimp only [List.set]) ?_
  -- the wrong row
  have L : ∀ a b : Tx, (a ++ b).length = a.length + b.length := fun a b => List.length_append
  refine ws_seq <| ws_set (t := tX) <| we_addX <| we_addX <| we_addX <| we_addX <| we_addX <| we_addX <| we_var rfl <| we_X ⟨by rw [lit_sp]; simp; omega, we_var rfl ⟨by rw [lit_sp, L]; simp; omega, we_X ⟨by rw [lit_sp, L, L]; simp; omega, we_ixL (t := tX) <| we_ofM' <| wm_splitX hash_lit (by simp) (by decide) <| we_var rfl ⟨by omega, _, rfl, we_int ⟨bare2, hsp2, ?_⟩⟩⟩⟩⟩
  refine ⟨by rw [lit_sp, L, L, L]; simp; omega, we_X ⟨by rw [lit_sp, L, L, L, L]; simp; omega, we_var rfl ⟨by rw [lit_sp, L, L, L, L, L]; simp; omega, setE_go (by dsimp only [List.set]) ?_⟩⟩⟩
  rw [lit_sp]
  have hbad : Bad (ahead ++ [32] ++ p ++ [32] ++ bare2 ++ [32] ++ other) (ahead.length + 1 + pj) 0 := by
    have := hbr (post := [32] ++ (bare2 ++ ([32] ++ other))) hpc (fun c hc => by simp at hc; exact hc.symm)
    simpa using this
  have hrl3 : (ahead ++ [32] ++ p ++ [32] ++ bare2 ++ [32] ++ other).length ≤ 90000 := by simp; omega
  generalize ahead ++ [32] ++ p ++ [32] ++ bare2 ++ [32] ++ other = rowh at hbad hrl3
  -- a call of wrong
  have callW : ∀ {n2 : Option Nat} {Γ2 : TL.Env} {ta tb : TE} {k : Option (Int × Int) → NK} (g : List Tk ⊕ Nat), WpE K w n2 Γ2 ta tX (fun a n Γ => WpE K w n Γ tb tI (fun z n Γ => (a.length ≤ 90000 ∧ Runs a 0 g) ∧ k (wrongR z g) n Γ)) → WpE K w n2 Γ2 (tCall (sp__law_wrong K) [] E0 (tCons ta (tCons tb tNil))) tPl k := fun g hh =>
    we_call0 (S := S__law_wrong K) rfl rfl <| wa_gh g <| wa_cons <| we_mono hh fun a _ _ q => wa_cons <| we_mono q fun z _ _ q2 => wa_nil ⟨q2.1, fun x hx => by
      have hx : x = wrongR z g := hx
      rw [hx]; exact q2.2⟩
  have callS : ∀ {n2 : Option Nat} {Γ2 : TL.Env} {ta tb : TE} {k : List Tk → NK} (D2 : List Tk), WpE K w n2 Γ2 ta tX (fun a n Γ => WpE K w n Γ tb tI (fun _ n Γ => (a.length ≤ 90000 ∧ Scan a 0 D2) ∧ k D2 n Γ)) → WpE K w n2 Γ2 (tCall (sp_scan K C_BadText) [] E0 (tCons ta (tCons tb tNil))) (tL tTk) k := fun D2 hh =>
    we_callE0 (S := S_scan K C_BadText) rfl <| wa_gh (.inl D2) <| wa_cons <| we_mono hh fun a _ _ q => wa_cons <| we_mono q fun z n3 _ q2 => wa_nil ⟨q2.1, .inl rfl, fun x n' hx hc => by
      have hx : Sum.inl D2 = Sum.inl x := hx
      have e := Costs.zero hc
      subst e
      rw [← Sum.inl.inj hx]; exact q2.2, fun er ⟨j, hj, _⟩ => by cases hj⟩
  refine ws_seq <| ws_if <| wt_val <| we_neP dPl (iP iI iI).p ⟨Nat.le_of_ble_eq_true rfl, Nat.le_of_ble_eq_true rfl⟩ <| callW (.inr (ahead.length + 1 + pj)) <| we_var rfl <| we_var rfl ⟨⟨hrl3, hbad⟩, we_tup2 (t := tI) (u := tI) <| we_var rfl <| we_add <| we_add <| we_lenVX rfl (by omega) <| we_int <| we_var rfl ⟨⟨layPl _, layP2 _⟩, neP_same rfl (by omega) <| ws_next ?_⟩⟩
  -- the right row
  refine ws_seq <| ws_set (t := tX) <| we_addX <| we_addX <| we_addX <| we_addX <| we_var rfl <| we_X ⟨by rw [lit_sh]; simp; omega, we_var rfl ⟨by rw [lit_sh, L]; simp; omega, we_var rfl ⟨by rw [lit_sh, L, L]; simp; omega, we_var rfl ⟨by rw [lit_sh, L, L, L]; simp; omega, setE_go (by dsimp only [List.set]) ?_⟩⟩⟩⟩
  rw [lit_sh]
  have hsc : Scan (ahead ++ [32, 35] ++ p ++ row2 ++ other) 0 (toksOf 0 b) := by
    have := hrt (p ++ (row2 ++ other))
    simpa using this
  have hrl4 : (ahead ++ [32, 35] ++ p ++ row2 ++ other).length ≤ 90000 := by simp; omega
  generalize ahead ++ [32, 35] ++ p ++ row2 ++ other = right at hsc hrl4
  refine ws_seq <| ws_if <| wt_or <| wt_val <| we_notNone notNonQ <| callW (.inl (toksOf 0 b)) <| we_var rfl <| we_var rfl ⟨⟨hrl4, hsc⟩, fun z => (by cases z), fun _ => ?_⟩
  refine wt_val <| we_neTk <| callS (toksOf 0 b) <| we_var rfl <| we_int ⟨⟨hrl4, hsc⟩, callS (toksOf 0 b) <| we_var rfl <| we_int ⟨⟨by omega, hah⟩, ⟨hfine, hfine⟩, ne_same rfl <| ws_next ?_⟩⟩
  -- the piece alone
  refine ws_seq <| ws_set (t := tPl) <| callW (.inr pj) <| we_var rfl <| we_var rfl ⟨⟨by omega, bad_bare hpc⟩, setE_go (by dsimp only [List.set]) ?_⟩
  refine ws_if <| wt_val <| we_neP dPl (iP iI iI).p ⟨Nat.le_of_ble_eq_true rfl, Nat.le_of_ble_eq_true rfl⟩ <| we_var rfl <| we_tup2 (t := tI) (u := tI) <| we_var rfl <| we_add <| we_int <| we_var rfl ⟨⟨layPl _, layP2 _⟩, neP_same rfl (by omega) <| ws_next ?_⟩
  exact Up.le (b := 2000 * (i + 1)) (by omega) (Up.drops [2, 3, 4, 5, 6, 7, 8, 9, 10, 11, 12, 13] ⟨hl8, rfl, rfl⟩)

theorem all_mk {l : PySem.W.OpenLaw} {w : World} {K : Frag} {h : Heap} {mg : Str → Option Value} {fa f1 f2 f3 f4 f5 f6 f7 f8 f9 f10 f11 f12 f13 f14 f15 f16 f17 C_BadText : Addr} (X : K.In h) (G : h.Ns mainGlobals mg) (hfa : mg "law" = some (.ref fa))
    {nm_BadText q_BadText qual_BadText file_BadText : Str} {N_BadText fI_BadText cc_BadText cda_BadText : Addr} {bs_BadText bm_BadText sub_BadText : List Value} {sn_BadText : List Str} {ab_BadText : Bool} {col_BadText : Option Bool} {dd_BadText od_BadText an_BadText cdd_BadText cld_BadText : Option Addr} {k0_BadText k1_BadText k2_BadText k3_BadText k5_BadText : Option Value} {oc_BadText kV_BadText doc_BadText pm_BadText ct_BadText ccl_BadText cl_BadText : Value} {osl_BadText ccs_BadText csl_BadText : Array (Option Value)} {vs_BadText : Array Value} {tf_BadText : Tok}
    {od1 an1 od2 an2 od3 an3 od4 an4 od5 an5 od6 an6 od7 an7 od8 an8 od9 an9 od10 an10 od11 an11 od12 an12 od13 an13 od14 an14 od15 an15 od16 an16 od17 an17 : Option Addr} {sl1 sl2 sl3 sl4 sl5 sl6 sl7 sl8 sl9 sl10 sl11 sl12 sl13 sl14 sl15 sl16 sl17 : Array (Option Value)} {oc1 kV1 dc1 pm1 cd1 ct1 oc2 kV2 dc2 pm2 cd2 ct2 oc3 kV3 dc3 pm3 cd3 ct3 oc4 kV4 dc4 pm4 cd4 ct4 oc5 kV5 dc5 pm5 cd5 ct5 oc6 kV6 dc6 pm6 cd6 ct6 oc7 kV7 dc7 pm7 cd7 ct7 oc8 kV8 dc8 pm8 cd8 ct8 oc9 kV9 dc9 pm9 cd9 ct9 oc10 kV10 dc10 pm10 cd10 ct10 oc11 kV11 dc11 pm11 cd11 ct11 oc12 kV12 dc12 pm12 cd12 ct12 oc13 kV13 dc13 pm13 cd13 ct13 oc14 kV14 dc14 pm14 cd14 ct14 oc15 kV15 dc15 pm15 cd15 ct15 oc16 kV16 dc16 pm16 cd16 ct16 oc17 kV17 dc17 pm17 cd17 ct17 : Value}
    {tg_MARKS tg_DIGITS tg_LETTERS tg_LONGEST_WORD tg_IN_WORDS tg_BEHIND tg_BEFORE tg_MOST_DIGITS : Tok}
    (hx_n : PySem.W.specialIn K (.builtin "object.__class__") "__get__" = some (some (.builtin "getset_descriptor.__get__"))) (hx_k : PySem.W.takesIn K (.builtin "object.__class__") = some true) (hx_y : PySem.W.nsIn K cStatics "thirdparty.any" = some none) (hx_s : PySem.W.nsIn K mainGlobals "super" = some none) (hx_p : (l.prog.main.scope.names.lookup ("super" : Str)).isSome = false)
    (hxC_BadText : PySem.W.nsIn K mainGlobals "BadText" = some (some (.ref C_BadText))) (hxg_BadText : PySem.W.findIn K (.ref C_BadText) "__getattribute__" = some (some (.builtin "BaseException.__getattribute__"))) (hxa_BadText : PySem.W.findIn K (.ref C_BadText) "__getattr__" = some none)
    (hxe_BadText : PySem.W.subIn K (.ref C_BadText) (.type "BaseException") = some true) (hxd_BadText : PySem.W.hasDictIn K C_BadText = true) (hxc_BadText : PySem.W.findIn K (.ref C_BadText) "__class__" = some (some (.builtin "object.__class__"))) (hxm_BadText : PySem.W.mroIn K C_BadText (.type "object") = some true) (hxt_BadText : PySem.W.typeIn K (.ref C_BadText) = some (.type "type"))
    (hxs_BadText_BadText : PySem.W.subIn K (.ref C_BadText) (.ref C_BadText) = some true)
    (hxl_BadText : K.lookup C_BadText = some (excClassObj nm_BadText q_BadText C_BadText N_BadText bs_BadText bm_BadText true sn_BadText sub_BadText ab_BadText col_BadText dd_BadText k0_BadText k1_BadText k2_BadText k3_BadText k5_BadText "ValueError.__new__")) (hxb_BadText : PySem.HandSPX.refsVE bm_BadText = true) (hxw_BadText : PySem.W.findIn K (.ref C_BadText) "__setattr__" = some (some (.builtin "object.__setattr__")))
    (hxv_BadText : PySem.W.subIn K (.ref C_BadText) (.type "ValueError") = some true) (hxk_BadText : PySem.W.keepIn K (.ref C_BadText) = true) (hxi_BadText : PySem.W.findIn K (.ref C_BadText) "__init__" = some (some (.ref fI_BadText))) (hxj_BadText : PySem.W.typeIn K (.ref fI_BadText) = some (.type "function"))
    (hxL_BadText : K.lookup fI_BadText = some ⟨oc_BadText, od_BadText, .func (PySem.W.ksFn "__init__" qual_BadText (defArgs es_BadText) (defBody es_BadText) (defScope es_BadText) .none kV_BadText doc_BadText pm_BadText an_BadText (.ref cda_BadText) ct_BadText cc_BadText), osl_BadText⟩) (hxo_BadText : PySem.W.codeIn K (.ref cda_BadText) qual_BadText = true)
    (hxq_BadText : K.lookup cda_BadText = some ⟨ccl_BadText, cdd_BadText, .fields vs_BadText, ccs_BadText⟩) (hxr_BadText : vs_BadText[2]? = some (.str file_BadText tf_BadText)) (hxf_BadText : (l.prog.main.file == file_BadText) = true) (hxu_BadText : K.lookup cc_BadText = some ⟨cl_BadText, cld_BadText, .cell (some (.ref C_BadText)), csl_BadText⟩)
    (hxz_BadText : PySem.W.ks_superIn K C_BadText C_BadText "__init__" = some (some (.builtin "ValueError.__init__"))) (hxx_BadText : PySem.W.mroIn K C_BadText (.ref C_BadText) = some true)
    (hxn_BadText_line : PySem.W.findIn K (.ref C_BadText) "line" = some none)
    (hxn_BadText_column : PySem.W.findIn K (.ref C_BadText) "column" = some none)
    (ha1 : PySem.W.nsIn K mainGlobals "has_sign" = some (some (.ref f1)))
    (hl1 : K.lookup f1 = some ⟨oc1, od1, .func (PySem.W.fnOf "has_sign" "has_sign" (defArgs s_has_sign) (defBody s_has_sign) (defScope s_has_sign) .none kV1 dc1 pm1 an1 cd1 ct1), sl1⟩)
    (hc1 : PySem.W.codeIn K cd1 "has_sign" = true) (hk1 : PySem.W.keepIn K (.ref f1) = true)
    (ha2 : PySem.W.nsIn K mainGlobals "run_end" = some (some (.ref f2)))
    (hl2 : K.lookup f2 = some ⟨oc2, od2, .func (PySem.W.fnOf "run_end" "run_end" (defArgs s_run_end) (defBody s_run_end) (defScope s_run_end) .none kV2 dc2 pm2 an2 cd2 ct2), sl2⟩)
    (hc2 : PySem.W.codeIn K cd2 "run_end" = true) (hk2 : PySem.W.keepIn K (.ref f2) = true)
    (ha3 : PySem.W.nsIn K mainGlobals "word_at" = some (some (.ref f3)))
    (hl3 : K.lookup f3 = some ⟨oc3, od3, .func (PySem.W.fnOf "word_at" "word_at" (defArgs s_word_at) (defBody s_word_at) (defScope s_word_at) .none kV3 dc3 pm3 an3 cd3 ct3), sl3⟩)
    (hc3 : PySem.W.codeIn K cd3 "word_at" = true) (hk3 : PySem.W.keepIn K (.ref f3) = true)
    (ha4 : PySem.W.nsIn K mainGlobals "numeral_at" = some (some (.ref f4)))
    (hl4 : K.lookup f4 = some ⟨oc4, od4, .func (PySem.W.fnOf "numeral_at" "numeral_at" (defArgs s_numeral_at) (defBody s_numeral_at) (defScope s_numeral_at) .none kV4 dc4 pm4 an4 cd4 ct4), sl4⟩)
    (hc4 : PySem.W.codeIn K cd4 "numeral_at" = true) (hk4 : PySem.W.keepIn K (.ref f4) = true)
    (ha5 : PySem.W.nsIn K mainGlobals "token_at" = some (some (.ref f5)))
    (hl5 : K.lookup f5 = some ⟨oc5, od5, .func (PySem.W.fnOf "token_at" "token_at" (defArgs s_token_at) (defBody s_token_at) (defScope s_token_at) .none kV5 dc5 pm5 an5 cd5 ct5), sl5⟩)
    (hc5 : PySem.W.codeIn K cd5 "token_at" = true) (hk5 : PySem.W.keepIn K (.ref f5) = true)
    (ha6 : PySem.W.nsIn K mainGlobals "scan" = some (some (.ref f6)))
    (hl6 : K.lookup f6 = some ⟨oc6, od6, .func (PySem.W.fnOf "scan" "scan" (defArgs s_scan) (defBody s_scan) (defScope s_scan) .none kV6 dc6 pm6 an6 cd6 ct6), sl6⟩)
    (hc6 : PySem.W.codeIn K cd6 "scan" = true) (hk6 : PySem.W.keepIn K (.ref f6) = true)
    (ha7 : PySem.W.nsIn K mainGlobals "_law_pen" = some (some (.ref f7)))
    (hl7 : K.lookup f7 = some ⟨oc7, od7, .func (PySem.W.fnOf "_law_pen" "_law_pen" (defArgs s__law_pen) (defBody s__law_pen) (defScope s__law_pen) .none kV7 dc7 pm7 an7 cd7 ct7), sl7⟩)
    (hc7 : PySem.W.codeIn K cd7 "_law_pen" = true) (hk7 : PySem.W.keepIn K (.ref f7) = true)
    (ha8 : PySem.W.nsIn K mainGlobals "_law_draw" = some (some (.ref f8)))
    (hl8 : K.lookup f8 = some ⟨oc8, od8, .func (PySem.W.fnOf "_law_draw" "_law_draw" (defArgs s__law_draw) (defBody s__law_draw) (defScope s__law_draw) .none kV8 dc8 pm8 an8 cd8 ct8), sl8⟩)
    (hc8 : PySem.W.codeIn K cd8 "_law_draw" = true) (hk8 : PySem.W.keepIn K (.ref f8) = true)
    (ha9 : PySem.W.nsIn K mainGlobals "_law_pick" = some (some (.ref f9)))
    (hl9 : K.lookup f9 = some ⟨oc9, od9, .func (PySem.W.fnOf "_law_pick" "_law_pick" (defArgs s__law_pick) (defBody s__law_pick) (defScope s__law_pick) .none kV9 dc9 pm9 an9 cd9 ct9), sl9⟩)
    (hc9 : PySem.W.codeIn K cd9 "_law_pick" = true) (hk9 : PySem.W.keepIn K (.ref f9) = true)
    (ha10 : PySem.W.nsIn K mainGlobals "_law_apart" = some (some (.ref f10)))
    (hl10 : K.lookup f10 = some ⟨oc10, od10, .func (PySem.W.fnOf "_law_apart" "_law_apart" (defArgs s__law_apart) (defBody s__law_apart) (defScope s__law_apart) .none kV10 dc10 pm10 an10 cd10 ct10), sl10⟩)
    (hc10 : PySem.W.codeIn K cd10 "_law_apart" = true) (hk10 : PySem.W.keepIn K (.ref f10) = true)
    (ha11 : PySem.W.nsIn K mainGlobals "_law_row" = some (some (.ref f11)))
    (hl11 : K.lookup f11 = some ⟨oc11, od11, .func (PySem.W.fnOf "_law_row" "_law_row" (defArgs s__law_row) (defBody s__law_row) (defScope s__law_row) .none kV11 dc11 pm11 an11 cd11 ct11), sl11⟩)
    (hc11 : PySem.W.codeIn K cd11 "_law_row" = true) (hk11 : PySem.W.keepIn K (.ref f11) = true)
    (ha12 : PySem.W.nsIn K mainGlobals "_law_word" = some (some (.ref f12)))
    (hl12 : K.lookup f12 = some ⟨oc12, od12, .func (PySem.W.fnOf "_law_word" "_law_word" (defArgs s__law_word) (defBody s__law_word) (defScope s__law_word) .none kV12 dc12 pm12 an12 cd12 ct12), sl12⟩)
    (hc12 : PySem.W.codeIn K cd12 "_law_word" = true) (hk12 : PySem.W.keepIn K (.ref f12) = true)
    (ha13 : PySem.W.nsIn K mainGlobals "_law_keywords" = some (some (.ref f13)))
    (hl13 : K.lookup f13 = some ⟨oc13, od13, .func (PySem.W.fnOf "_law_keywords" "_law_keywords" (defArgs s__law_keywords) (defBody s__law_keywords) (defScope s__law_keywords) .none kV13 dc13 pm13 an13 cd13 ct13), sl13⟩)
    (hc13 : PySem.W.codeIn K cd13 "_law_keywords" = true) (hk13 : PySem.W.keepIn K (.ref f13) = true)
    (ha14 : PySem.W.nsIn K mainGlobals "_law_numeral" = some (some (.ref f14)))
    (hl14 : K.lookup f14 = some ⟨oc14, od14, .func (PySem.W.fnOf "_law_numeral" "_law_numeral" (defArgs s__law_numeral) (defBody s__law_numeral) (defScope s__law_numeral) .none kV14 dc14 pm14 an14 cd14 ct14), sl14⟩)
    (hc14 : PySem.W.codeIn K cd14 "_law_numeral" = true) (hk14 : PySem.W.keepIn K (.ref f14) = true)
    (ha15 : PySem.W.nsIn K mainGlobals "_law_piece" = some (some (.ref f15)))
    (hl15 : K.lookup f15 = some ⟨oc15, od15, .func (PySem.W.fnOf "_law_piece" "_law_piece" (defArgs s__law_piece) (defBody s__law_piece) (defScope s__law_piece) .none kV15 dc15 pm15 an15 cd15 ct15), sl15⟩)
    (hc15 : PySem.W.codeIn K cd15 "_law_piece" = true) (hk15 : PySem.W.keepIn K (.ref f15) = true)
    (ha16 : PySem.W.nsIn K mainGlobals "_law_wrong" = some (some (.ref f16)))
    (hl16 : K.lookup f16 = some ⟨oc16, od16, .func (PySem.W.fnOf "_law_wrong" "_law_wrong" (defArgs s__law_wrong) (defBody s__law_wrong) (defScope s__law_wrong) .none kV16 dc16 pm16 an16 cd16 ct16), sl16⟩)
    (hc16 : PySem.W.codeIn K cd16 "_law_wrong" = true) (hk16 : PySem.W.keepIn K (.ref f16) = true)
    (ha17 : PySem.W.nsIn K mainGlobals "law" = some (some (.ref f17)))
    (hl17 : K.lookup f17 = some ⟨oc17, od17, .func (PySem.W.fnOf "law" "law" (defArgs s_law) (defBody s_law) (defScope s_law) .none kV17 dc17 pm17 an17 cd17 ct17), sl17⟩)
    (hc17 : PySem.W.codeIn K cd17 "law" = true) (hk17 : PySem.W.keepIn K (.ref f17) = true)
    (hz_int : PySem.W.nsIn K mainGlobals "int" = some none)
    (hz_len : PySem.W.nsIn K mainGlobals "len" = some none)
    (hz_list : PySem.W.nsIn K mainGlobals "list" = some none)
    (hz_min : PySem.W.nsIn K mainGlobals "min" = some none)
    (hz_range : PySem.W.nsIn K mainGlobals "range" = some none)
    (hg_MARKS : PySem.W.nsIn K mainGlobals "MARKS" = some (some (.str "(),=<+*-" tg_MARKS)))
    (hg_DIGITS : PySem.W.nsIn K mainGlobals "DIGITS" = some (some (.str "0123456789" tg_DIGITS)))
    (hg_LETTERS : PySem.W.nsIn K mainGlobals "LETTERS" = some (some (.str "abcdefghijklmnopqrstuvwxyz" tg_LETTERS)))
    (hg_LONGEST_WORD : PySem.W.nsIn K mainGlobals "LONGEST_WORD" = some (some (.int (16) tg_LONGEST_WORD)))
    (hg_IN_WORDS : PySem.W.nsIn K mainGlobals "IN_WORDS" = some (some (.str "abcdefghijklmnopqrstuvwxyz0123456789" tg_IN_WORDS)))
    (hg_BEHIND : PySem.W.nsIn K mainGlobals "BEHIND" = some (some (.str "abcdefghijklmnopqrstuvwxyz0123456789!" tg_BEHIND)))
    (hg_BEFORE : PySem.W.nsIn K mainGlobals "BEFORE" = some (some (.str "abcdefghijklmnopqrstuvwxyz0123456789!-" tg_BEFORE)))
    (hg_MOST_DIGITS : PySem.W.nsIn K mainGlobals "MOST_DIGITS" = some (some (.int (60) tg_MOST_DIGITS))) :
    ∃ fd : FuncData, (∀ (s : Shared) (v : Value), BindsTo s fd ⟨[v], []⟩ [("_law_script", v)]) ∧ ∀ base : Heap, K.In base → base.Ns mainGlobals mg → FnOk l.prog w K mg base CX0 7 fa fd ["_law_script"] (spLaw K) := by
  have elaw := hfa.symm.trans (PySem.W.mg_of X G ha17)
  cases elaw
  have T : Bts mg := ⟨PySem.W.mg_none_of X G hz_int, PySem.W.mg_none_of X G hz_len, PySem.W.mg_none_of X G hz_list, PySem.W.mg_none_of X G hz_min, PySem.W.mg_none_of X G hz_range, ⟨_, PySem.W.mg_of X G hg_MARKS, ⟨_, rfl⟩⟩, ⟨_, PySem.W.mg_of X G hg_DIGITS, ⟨_, rfl⟩⟩, ⟨_, PySem.W.mg_of X G hg_LETTERS, ⟨_, rfl⟩⟩, ⟨_, PySem.W.mg_of X G hg_LONGEST_WORD, ⟨_, rfl⟩⟩, ⟨_, PySem.W.mg_of X G hg_IN_WORDS, ⟨_, rfl⟩⟩, ⟨_, PySem.W.mg_of X G hg_BEHIND, ⟨_, rfl⟩⟩, ⟨_, PySem.W.mg_of X G hg_BEFORE, ⟨_, rfl⟩⟩, ⟨_, PySem.W.mg_of X G hg_MOST_DIGITS, ⟨_, rfl⟩⟩⟩
  have ex_BadText : Er.ErrC l.prog K mg C_BadText "BadText" es_BadText ["line", "column"] := { gC := PySem.W.mg_of X G hxC_BadText, cls := ⟨_, _, _, _, _, _, _, _, _, _, _, _, _, _, _, hxl_BadText, hxb_BadText⟩, sa := hxw_BadText, no := fun f hf => by simp only [List.mem_cons, List.not_mem_nil, or_false] at hf; rcases hf with rfl | rfl <;> assumption, exC := hxe_BadText, veC := hxv_BadText, tyC := hxt_BadText, kC := hxk_BadText, ini := ⟨_, _, _, _, _, _, _, _, _, _, _, _, _, _, _, _, _, _, _, _, _, hxi_BadText, hxj_BadText, hxL_BadText, hxo_BadText, hxq_BadText, hxr_BadText, hxf_BadText, hxu_BadText, fun s us hl => match us, hl with | [_, _, _], _ => .of_eq rfl⟩, sup := hxz_BadText, own := hxx_BadText, any := hx_y, nsup := PySem.W.mg_none_of X G hx_s, top := hx_p, body := eb_BadText, hd := ⟨_, by with_unfolding_all rfl, by with_unfolding_all rfl⟩, cell := by decide +kernel, loc := by decide +kernel, ks := by decide +kernel, kc := by decide +kernel, co := by with_unfolding_all rfl, gen := by with_unfolding_all rfl, kind := by with_unfolding_all rfl, nd := by decide +kernel, dbg := by decide +kernel }
  have XC : Xc l.prog K mg C_BadText := ⟨PySem.W.mg_of X G hxC_BadText, ex_BadText, ⟨hxg_BadText, hxa_BadText, hxe_BadText, hxd_BadText⟩, ⟨hxg_BadText, hxa_BadText, hxe_BadText, hxd_BadText, hxc_BadText, hx_n, hx_k, hxm_BadText⟩, hxt_BadText, hxs_BadText_BadText⟩
  have F1 := fun_mk (st := s_has_sign) hl1 hc1 hk1
  have b1 := F1.binds (ps := ["line", "at", "signs"]) fun _ _ _ _ _ _ us hl => match us, hl with | [_, _, _], _ => rfl
  have F2 := fun_mk (st := s_run_end) hl2 hc2 hk2
  have b2 := F2.binds (ps := ["line", "at", "signs"]) fun _ _ _ _ _ _ us hl => match us, hl with | [_, _, _], _ => rfl
  have F3 := fun_mk (st := s_word_at) hl3 hc3 hk3
  have b3 := F3.binds (ps := ["line", "at"]) fun _ _ _ _ _ _ us hl => match us, hl with | [_, _], _ => rfl
  have F4 := fun_mk (st := s_numeral_at) hl4 hc4 hk4
  have b4 := F4.binds (ps := ["line", "at"]) fun _ _ _ _ _ _ us hl => match us, hl with | [_, _], _ => rfl
  have F5 := fun_mk (st := s_token_at) hl5 hc5 hk5
  have b5 := F5.binds (ps := ["line", "at"]) fun _ _ _ _ _ _ us hl => match us, hl with | [_, _], _ => rfl
  have F6 := fun_mk (st := s_scan) hl6 hc6 hk6
  have b6 := F6.binds (ps := ["line", "number"]) fun _ _ _ _ _ _ us hl => match us, hl with | [_, _], _ => rfl
  have F7 := fun_mk (st := s__law_pen) hl7 hc7 hk7
  have b7 := F7.binds (ps := ["_law_script"]) fun _ _ _ _ _ _ us hl => match us, hl with | [_], _ => rfl
  have F8 := fun_mk (st := s__law_draw) hl8 hc8 hk8
  have b8 := F8.binds (ps := ["_law_pen_here", "_law_many"]) fun _ _ _ _ _ _ us hl => match us, hl with | [_, _], _ => rfl
  have F9 := fun_mk (st := s__law_pick) hl9 hc9 hk9
  have b9 := F9.binds (ps := ["_law_pen_here", "_law_items"]) fun _ _ _ _ _ _ us hl => match us, hl with | [_, _], _ => rfl
  have F10 := fun_mk (st := s__law_apart) hl10 hc10 hk10
  have b10 := F10.binds (ps := ["_law_left", "_law_right"]) fun _ _ _ _ _ _ us hl => match us, hl with | [_, _], _ => rfl
  have F11 := fun_mk (st := s__law_row) hl11 hc11 hk11
  have b11 := F11.binds (ps := ["_law_pen_here", "_law_tokens"]) fun _ _ _ _ _ _ us hl => match us, hl with | [_, _], _ => rfl
  have F12 := fun_mk (st := s__law_word) hl12 hc12 hk12
  have b12 := F12.binds (ps := ["_law_pen_here"]) fun _ _ _ _ _ _ us hl => match us, hl with | [_], _ => rfl
  have F13 := fun_mk (st := s__law_keywords) hl13 hc13 hk13
  have b13 := F13.binds (ps := []) fun _ _ _ _ _ _ us hl => match us, hl with | [], _ => rfl
  have F14 := fun_mk (st := s__law_numeral) hl14 hc14 hk14
  have b14 := F14.binds (ps := ["_law_pen_here"]) fun _ _ _ _ _ _ us hl => match us, hl with | [_], _ => rfl
  have F15 := fun_mk (st := s__law_piece) hl15 hc15 hk15
  have b15 := F15.binds (ps := ["_law_pen_here"]) fun _ _ _ _ _ _ us hl => match us, hl with | [_], _ => rfl
  have F16 := fun_mk (st := s__law_wrong) hl16 hc16 hk16
  have b16 := F16.binds (ps := ["_law_row_here", "_law_number"]) fun _ _ _ _ _ _ us hl => match us, hl with | [_, _], _ => rfl
  have F17 := fun_mk (st := s_law) hl17 hc17 hk17
  have b17 := F17.binds (ps := ["_law_script"]) fun _ _ _ _ _ _ us hl => match us, hl with | [_], _ => rfl
  refine ⟨PySem.W.fnOf "law" "law" (defArgs s_law) (defBody s_law) (defScope s_law) .none kV17 dc17 pm17 an17 cd17 ct17, fun s v => .of_eq rfl, fun base _ _ => ?_⟩
  have C1 : Callee l.prog w K mg base CX0 1 "has_sign" ["line", "at", "signs"] (sp_has_sign K) := Callee.mk' (PySem.W.mg_of X G ha1) hk1 (ok_has_sign (P := l.prog) (w := w) (base := base) F1 T XC) b1
  have C2 : Callee l.prog w K mg base CX0 2 "run_end" ["line", "at", "signs"] (sp_run_end K) := Callee.mk' (PySem.W.mg_of X G ha2) hk2 (ok_run_end (P := l.prog) (w := w) (base := base) F2 T XC C1) b2
  have C4 : Callee l.prog w K mg base CX0 3 "numeral_at" ["line", "at"] (sp_numeral_at K) := Callee.mk' (PySem.W.mg_of X G ha4) hk4 (ok_numeral_at (P := l.prog) (w := w) (base := base) F4 T XC C1 C2) b4
  have C3 : Callee l.prog w K mg base CX0 3 "word_at" ["line", "at"] (sp_word_at K) := Callee.mk' (PySem.W.mg_of X G ha3) hk3 (ok_word_at (P := l.prog) (w := w) (base := base) F3 T XC C2) b3
  have C5 : Callee l.prog w K mg base CX0 4 "token_at" ["line", "at"] (sp_token_at K) := Callee.mk' (PySem.W.mg_of X G ha5) hk5 (ok_token_at (P := l.prog) (w := w) (base := base) F5 T XC C1 C4 C3) b5
  have C6 : Callee l.prog w K mg base (L2.CX l.prog w) 5 "scan" ["line", "number"] (sp_scan K C_BadText) := Callee.mk' (PySem.W.mg_of X G ha6) hk6 (ok_scan (P := l.prog) (w := w) (base := base) F6 T XC C5) b6
  have C16 : Callee l.prog w K mg base CX0 6 "_law_wrong" ["_law_row_here", "_law_number"] (sp__law_wrong K) := Callee.mk' (PySem.W.mg_of X G ha16) hk16 (ok__law_wrong (P := l.prog) (w := w) (base := base) F16 T XC C6) b16
  have C8 : Callee l.prog w K mg base CX0 1 "_law_draw" ["_law_pen_here", "_law_many"] (sp__law_draw K) := Callee.mk' (PySem.W.mg_of X G ha8) hk8 (ok__law_draw (P := l.prog) (w := w) (base := base) F8 T XC) b8
  have C9 : Callee l.prog w K mg base CX0 2 "_law_pick" ["_law_pen_here", "_law_items"] (sp__law_pick K) := Callee.mk' (PySem.W.mg_of X G ha9) hk9 (fn_ex fun q => match q with | .I => ok_pickI (P := l.prog) (w := w) (base := base) F9 T XC C8 | .X => ok_pickX (P := l.prog) (w := w) (base := base) F9 T XC C8 | .S => ok_pickS (P := l.prog) (w := w) (base := base) F9 T XC C8) b9
  have C13 : Callee l.prog w K mg base CX0 1 "_law_keywords" [] (sp__law_keywords K) := Callee.mk' (PySem.W.mg_of X G ha13) hk13 (ok__law_keywords (P := l.prog) (w := w) (base := base) F13 T XC) b13
  have C12 : Callee l.prog w K mg base CX0 3 "_law_word" ["_law_pen_here"] (sp__law_word K) := Callee.mk' (PySem.W.mg_of X G ha12) hk12 (ok__law_word (P := l.prog) (w := w) (base := base) F12 T XC C13 C9) b12
  have C14 : Callee l.prog w K mg base CX0 3 "_law_numeral" ["_law_pen_here"] (sp__law_numeral K) := Callee.mk' (PySem.W.mg_of X G ha14) hk14 (ok__law_numeral (P := l.prog) (w := w) (base := base) F14 T XC C9 C8) b14
  have C15 : Callee l.prog w K mg base CX0 4 "_law_piece" ["_law_pen_here"] (sp__law_piece K) := Callee.mk' (PySem.W.mg_of X G ha15) hk15 (ok__law_piece (P := l.prog) (w := w) (base := base) F15 T XC C9 C8 C12 C14) b15
  have C10 : Callee l.prog w K mg base CX0 1 "_law_apart" ["_law_left", "_law_right"] (sp__law_apart K) := Callee.mk' (PySem.W.mg_of X G ha10) hk10 (ok__law_apart (P := l.prog) (w := w) (base := base) F10 T XC) b10
  have C11 : Callee l.prog w K mg base CX0 3 "_law_row" ["_law_pen_here", "_law_tokens"] (sp__law_row K) := Callee.mk' (PySem.W.mg_of X G ha11) hk11 (ok__law_row (P := l.prog) (w := w) (base := base) F11 T XC C8 C9 C10) b11
  have C7 : Callee l.prog w K mg base CX0 1 "_law_pen" ["_law_script"] (sp__law_pen K) := Callee.mk' (PySem.W.mg_of X G ha7) hk7 (ok__law_pen (P := l.prog) (w := w) (base := base) F7 T XC) b7
  exact ok_law (w := w) (base := base) F17 T XC C16 C6 C8 C15 C11 C9 C14 C12 C7
theorem walkL {l : PySem.W.OpenLaw} {q : Program} {loose : List Str} {XP : (Str → Option Value) → Heap → Prop} {YP : World → Heap → Prop} {d : DefRec} {K : Params → Frag} (hn : l.most = some 63) (hdf : d.params.defaults = [])
    (hY : ∀ (w : World) (h : Heap), YP w h → (K w.params).In h) (Fa : ∀ (w : World) (mg : Str → Option Value) (fa : Addr) (h : Heap), (K w.params).In h → h.Ns mainGlobals mg → mg d.name = some (.ref fa) →
      ∃ fd : FuncData, (∀ (s : Shared) (u : Value), BindsTo s fd ⟨[u], []⟩ [("_law_script", u)]) ∧ ∀ base : Heap, (K w.params).In base → base.Ns mainGlobals mg → FnOk l.prog w (K w.params) mg base CX0 7 fa fd ["_law_script"] (spLaw (K w.params))) :
    PySem.W.WalkO q loose XP YP l.row.toRowW d [] (fun f vs => PySem.call f vs) := L2.walk_of (n := 63) (k := 7) (x := "_law_script") (CX := fun _ => CX0) (sp := fun w => spLaw (K w.params)) hn (by decide) hdf ⟨rfl, by decide, by decide⟩ hY Fa (fun _ _ a ns hl _ hS => ⟨a, ns, rfl, hS, hl, fun _ => rfl⟩) fun _ _ _ _ _ z => z
end Lw
open PySem PySem.W PyProof.Rows in
set_option maxRecDepth 100000 in
set_option maxHeartbeats 0 in
theorem PySem.Challenge.cw_tugtext_k12_wrong_tokens_anywhere_holds : PySem.Challenge.rw_tugtext_k12_wrong_tokens_anywhere.Holds := by
  w_on; o_law; k_head; (case hw => w_witness2); k_fill
  refine Lw.walkL (l := PySem.Challenge.rw_tugtext_k12_wrong_tokens_anywhere) rfl rfl (fun w h Y => PySem.W.kIn_of Y) ?F
  case F =>
    intro w mg fa h KX G hmg
    refine' Lw.all_mk KX G hmg ?hx_n ?hx_k ?hx_y ?hx_s ?hx_p ?hxC_BadText ?hxg_BadText ?hxa_BadText ?hxe_BadText ?hxd_BadText ?hxc_BadText ?hxm_BadText ?hxt_BadText ?hxs_BadText_BadText ?hxl_BadText ?hxb_BadText ?hxw_BadText ?hxv_BadText ?hxk_BadText ?hxi_BadText ?hxj_BadText ?hxL_BadText ?hxo_BadText ?hxq_BadText ?hxr_BadText ?hxf_BadText ?hxu_BadText ?hxz_BadText ?hxx_BadText ?hxn_BadText_line ?hxn_BadText_column ?ha1 ?hl1 ?hc1 ?hk1 ?ha2 ?hl2 ?hc2 ?hk2 ?ha3 ?hl3 ?hc3 ?hk3 ?ha4 ?hl4 ?hc4 ?hk4 ?ha5 ?hl5 ?hc5 ?hk5 ?ha6 ?hl6 ?hc6 ?hk6 ?ha7 ?hl7 ?hc7 ?hk7 ?ha8 ?hl8 ?hc8 ?hk8 ?ha9 ?hl9 ?hc9 ?hk9 ?ha10 ?hl10 ?hc10 ?hk10 ?ha11 ?hl11 ?hc11 ?hk11 ?ha12 ?hl12 ?hc12 ?hk12 ?ha13 ?hl13 ?hc13 ?hk13 ?ha14 ?hl14 ?hc14 ?hk14 ?ha15 ?hl15 ?hc15 ?hk15 ?ha16 ?hl16 ?hc16 ?hk16 ?ha17 ?hl17 ?hc17 ?hk17 ?hz_int ?hz_len ?hz_list ?hz_min ?hz_range ?hg_MARKS ?hg_DIGITS ?hg_LETTERS ?hg_LONGEST_WORD ?hg_IN_WORDS ?hg_BEHIND ?hg_BEFORE ?hg_MOST_DIGITS
    (case hx_n => k_is)
    (case hx_k => k_is)
    (case hx_y => k_is)
    (case hx_s => k_is)
    (case hx_p => first | rfl | decide +kernel)
    (case hxC_BadText => k_is)
    (case hxg_BadText => k_is)
    (case hxa_BadText => k_is)
    (case hxe_BadText => k_is)
    (case hxd_BadText => k_is)
    (case hxc_BadText => k_is)
    (case hxm_BadText => k_is)
    (case hxt_BadText => k_is)
    (case hxs_BadText_BadText => k_is)
    (case hxl_BadText => k_is)
    (case hxb_BadText => first | rfl | decide +kernel)
    (case hxw_BadText => k_is)
    (case hxv_BadText => k_is)
    (case hxk_BadText => k_is)
    (case hxi_BadText => k_is)
    (case hxj_BadText => k_is)
    (case hxL_BadText => k_is)
    (case hxo_BadText => k_is)
    (case hxq_BadText => k_is)
    (case hxr_BadText => rfl)
    (case hxf_BadText => first | rfl | decide +kernel)
    (case hxu_BadText => k_is)
    (case hxz_BadText => ks_is)
    (case hxx_BadText => k_is)
    (case hxn_BadText_line => k_is)
    (case hxn_BadText_column => k_is)
    (case ha1 => k_is)
    (case hl1 => k_is)
    (case hc1 => k_is)
    (case hk1 => k_is)
    (case ha2 => k_is)
    (case hl2 => k_is)
    (case hc2 => k_is)
    (case hk2 => k_is)
    (case ha3 => k_is)
    (case hl3 => k_is)
    (case hc3 => k_is)
    (case hk3 => k_is)
    (case ha4 => k_is)
    (case hl4 => k_is)
    (case hc4 => k_is)
    (case hk4 => k_is)
    (case ha5 => k_is)
    (case hl5 => k_is)
    (case hc5 => k_is)
    (case hk5 => k_is)
    (case ha6 => k_is)
    (case hl6 => k_is)
    (case hc6 => k_is)
    (case hk6 => k_is)
    (case ha7 => k_is)
    (case hl7 => k_is)
    (case hc7 => k_is)
    (case hk7 => k_is)
    (case ha8 => k_is)
    (case hl8 => k_is)
    (case hc8 => k_is)
    (case hk8 => k_is)
    (case ha9 => k_is)
    (case hl9 => k_is)
    (case hc9 => k_is)
    (case hk9 => k_is)
    (case ha10 => k_is)
    (case hl10 => k_is)
    (case hc10 => k_is)
    (case hk10 => k_is)
    (case ha11 => k_is)
    (case hl11 => k_is)
    (case hc11 => k_is)
    (case hk11 => k_is)
    (case ha12 => k_is)
    (case hl12 => k_is)
    (case hc12 => k_is)
    (case hk12 => k_is)
    (case ha13 => k_is)
    (case hl13 => k_is)
    (case hc13 => k_is)
    (case hk13 => k_is)
    (case ha14 => k_is)
    (case hl14 => k_is)
    (case hc14 => k_is)
    (case hk14 => k_is)
    (case ha15 => k_is)
    (case hl15 => k_is)
    (case hc15 => k_is)
    (case hk15 => k_is)
    (case ha16 => k_is)
    (case hl16 => k_is)
    (case hc16 => k_is)
    (case hk16 => k_is)
    (case ha17 => k_is)
    (case hl17 => k_is)
    (case hc17 => k_is)
    (case hk17 => k_is)
    (case hz_int => k_is)
    (case hz_len => k_is)
    (case hz_list => k_is)
    (case hz_min => k_is)
    (case hz_range => k_is)
    (case hg_MARKS => k_is)
    (case hg_DIGITS => k_is)
    (case hg_LETTERS => k_is)
    (case hg_LONGEST_WORD => k_is)
    (case hg_IN_WORDS => k_is)
    (case hg_BEHIND => k_is)
    (case hg_BEFORE => k_is)
    (case hg_MOST_DIGITS => k_is)

