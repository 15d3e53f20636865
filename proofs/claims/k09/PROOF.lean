import PyProof.Rows.All
import Wide.All
import OpenK.AllK
import Wide.FinOn
import HandS.ForMost
import HandS.Wide
import HandS.Conv
import HandS.IsInst
import HandS.Style
import HandS.Zip
import HandS.Text
import HandS.StrMore
import HandS.Codes
import KE.KxIndex
import HandS.More
import HandS.DictComp
import HandS.SortInts
import HandS.Defaults
import PyProof.InstNe
import HandS.Property
import HandS.FStr
import KE.KOpsOwn
import HandS.Star
import HandS.TryOnly
import PyProof.Rows.RuleN_abs
import KE.KExcSuper
import HandS.ExcInit
import HandS.WordsExc
import HandS.ExcIs
import HandS.ExcField
import HandS.Replace
import KE.KExcIs
import KE.RegKIsAll
import HandS.OwnEq
import HandS.Small
import HandS.GenList
import KE.KSuper
import HandS.TupAny
import HandS.ClsMeth
import KE.KTabLook
import KE.GoesEnumKw
import PyProof.Rows.StrOr
import PyProof.CollectIter
import PySem.Challenge.RW_tugtext_k09_wrong_rows_anywhere
set_option Elab.async false
set_option linter.all false
set_option maxRecDepth 100000
set_option maxHeartbeats 4000000
/-! # TL: a layer of data over the readings: what a reading does to an environment of plain Lean data. -/
namespace TL
open PySem L2
open PySem.W (Frag)

/-! ### heaps that grow -/
def Ex (B H : Hp) : Prop := ∀ a o, B a = some o → H a = some o
theorem Ex.refl (H : Hp) : Ex H H := fun _ _ h => h
theorem Ex.trans {A B C : Hp} (x : Ex A B) (y : Ex B C) : Ex A C := fun a o h => y a o (x a o h)
theorem Ex.new {H : Hp} {p : Addr} {o : HO} (h : H p = none) : Ex H (upd H p o) := fun a u e => by
  rw [upd_ne (ne_of_none e h)]; exact e
theorem Ex.over {B H : Hp} {p : Addr} {o : HO} (e : Ex B H) (h : B p = none) : Ex B (upd H p o) := fun a u q => by
  rw [upd_ne (ne_of_none q h)]; exact e a u q
theorem Ex.both {B H : Hp} {p : Addr} {o : HO} (e : Ex B H) : Ex (upd B p o) (upd H p o) := fun a u q => by
  by_cases c : a = p
  · subst c; rw [upd_same] at q ⊢; exact q
  · rw [upd_ne c] at q ⊢; exact e a u q
theorem Ex.put {B H : Hp} {p : Addr} {o : HO} (e : Ex B H) (h : H p = some o) : Ex (upd B p o) H := fun a u q => by
  by_cases c : a = p
  · subst c; rw [upd_same] at q; rw [← q]; exact h
  · rw [upd_ne c] at q; exact e a u q
theorem Ex.none {B H : Hp} {p : Addr} (e : Ex B H) (h : H p = Option.none) : B p = Option.none := by
  cases q : B p with
  | none => rfl
  | some o => rw [e p o q] at h; cases h
theorem Ex.rd {B H : Hp} {a : Addr} {u : HO} (e : Ex B H) (h : Rd B a u) : Rd H a u := by
  rcases h with h | ⟨o, h⟩
  · exact .inl (e a _ h)
  · exact .inr ⟨o, e a _ h⟩
theorem Ex.l {K : Frag} {B H : Hp} {a : Addr} {xs : List V} (e : Ex B H) (h : SqL K B a xs) : SqL K H a xs := by
  rcases h with h | h
  · exact .inl (e.rd h)
  · exact .inr h
theorem Ex.t {K : Frag} {B H : Hp} {a : Addr} {xs : List V} (e : Ex B H) (h : SqT K B a xs) : SqT K H a xs := by
  rcases h with h | h
  · exact .inl (e.rd h)
  · exact .inr h

/-! ### pairings -/
section
variable {α β : Type} {F G : α → β → Prop}
theorem pw_mono (h : ∀ a b, F a b → G a b) : ∀ {l : List α} {m : List β}, Paired F l m → Paired G l m
  | _, _, .nil => .nil
  | _, _, .cons x r => .cons (h _ _ x) (pw_mono h r)
theorem pw_len : ∀ {l : List α} {m : List β}, Paired F l m → l.length = m.length
  | _, _, .nil => rfl
  | _, _, .cons _ r => by simp [pw_len r]
theorem pw_getR : ∀ {l : List α} {m : List β} {i : Nat} {b : β}, Paired F l m → m[i]? = some b → ∃ a, l[i]? = some a ∧ F a b
  | _, _, i, b, .nil, h => by simp at h
  | _, _, 0, b, .cons x r, h => by simp at h; subst h; exact ⟨_, by simp, x⟩
  | _, _, i + 1, b, .cons x r, h => by
    obtain ⟨a, h1, h2⟩ := pw_getR (i := i) r (by simpa using h)
    exact ⟨a, by simpa using h1, h2⟩
theorem pw_getL : ∀ {l : List α} {m : List β} {i : Nat} {a : α}, Paired F l m → l[i]? = some a → ∃ b, m[i]? = some b ∧ F a b
  | _, _, i, b, .nil, h => by simp at h
  | _, _, 0, b, .cons x r, h => by simp at h; subst h; exact ⟨_, by simp, x⟩
  | _, _, i + 1, b, .cons x r, h => by
    obtain ⟨a, h1, h2⟩ := pw_getL (i := i) r (by simpa using h)
    exact ⟨a, by simpa using h1, h2⟩
theorem pw_app : ∀ {l l' : List α} {m m' : List β}, Paired F l m → Paired F l' m' → Paired F (l ++ l') (m ++ m')
  | _, _, _, _, .nil, s => s
  | _, _, _, _, .cons x r, s => .cons x (pw_app r s)
theorem pw_take : ∀ {l : List α} {m : List β} (n : Nat), Paired F l m → Paired F (l.take n) (m.take n)
  | _, _, 0, _ => by simp; exact .nil
  | _, _, _ + 1, .nil => .nil
  | _, _, n + 1, .cons x r => .cons x (pw_take n r)
theorem pw_drop : ∀ {l : List α} {m : List β} (n : Nat), Paired F l m → Paired F (l.drop n) (m.drop n)
  | _, _, 0, r => r
  | _, _, _ + 1, .nil => .nil
  | _, _, n + 1, .cons _ r => pw_drop n r
theorem pw_set {a : α} {b : β} (x : F a b) : ∀ {l : List α} {m : List β} (i : Nat), Paired F l m → Paired F (l.set i a) (m.set i b)
  | _, _, _, .nil => .nil
  | _, _, 0, .cons _ r => .cons x r
  | _, _, i + 1, .cons y r => .cons y (pw_set x i r)
theorem pw_dropLast : ∀ {l : List α} {m : List β}, Paired F l m → Paired F l.dropLast m.dropLast := fun {l m} p => by
  rw [List.dropLast_eq_take, List.dropLast_eq_take, pw_len p]; exact pw_take _ p
theorem pw_eraseIdx : ∀ {l : List α} {m : List β} (i : Nat), Paired F l m → Paired F (l.eraseIdx i) (m.eraseIdx i)
  | _, _, _, .nil => .nil
  | _, _, 0, .cons _ r => r
  | _, _, i + 1, .cons y r => .cons y (pw_eraseIdx i r)
theorem pw_snoc {l : List α} {m : List β} {a : α} {b : β} (p : Paired F l m) (x : F a b) : Paired F (l ++ [a]) (m ++ [b]) := pw_app p (.cons x .nil)
theorem pw_rev : ∀ {l : List α} {m : List β}, Paired F l m → Paired F l.reverse m.reverse
  | _, _, .nil => .nil
  | _, _, .cons x r => by rw [List.reverse_cons, List.reverse_cons]; exact pw_snoc (pw_rev r) x
theorem pw_rep {a : α} {b : β} (x : F a b) : ∀ n, Paired F (List.replicate n a) (List.replicate n b)
  | 0 => .nil
  | n + 1 => .cons x (pw_rep x n)
theorem pw_mapI {l : List Int} : Paired (fun (v : V) (x : Int) => v = V.int x) (l.map V.int) l := by
  induction l with
  | nil => exact .nil
  | cons a r ih => exact .cons rfl ih
theorem pw_intEq : ∀ {vs : List V} {l : List Int}, Paired (fun (v : V) (x : Int) => v = V.int x) vs l → vs = l.map V.int
  | _, _, .nil => rfl
  | _, _, .cons x r => by rw [List.map_cons, ← pw_intEq r, x]
end

/-! ### kinds of data: how a value stands for a Lean datum -/
structure Ty (α : Type) where
  rep : Hp → V → α → Prop
  mono : ∀ {B B' : Hp} {v : V} {x : α}, Ex B B' → rep B v x → rep B' v x

section
variable {α β γ δ : Type}
def tI : Ty Int := ⟨fun _ v x => v = .int x, fun _ h => h⟩
def tBo : Ty Bool := ⟨fun _ v x => v = .bl x, fun _ h => h⟩
def tS : Ty Str := ⟨fun _ v x => v = .str x, fun _ h => h⟩
def tN : Ty Unit := ⟨fun _ v _ => v = .non, fun _ h => h⟩
/-- a list of data that nobody changes any more -/
def tL (t : Ty α) : Ty (List α) := ⟨fun B v xs => ∃ a vs, v = .ref a ∧ B a = some (.lst vs) ∧ Paired (t.rep B) vs xs,
  fun e ⟨a, vs, h, s, p⟩ => ⟨a, vs, h, e _ _ s, pw_mono (fun _ _ => t.mono e) p⟩⟩
/-- a tuple of data of one kind -/
def tU (t : Ty α) : Ty (List α) := ⟨fun B v xs => ∃ a vs, v = .ref a ∧ B a = some (.tup vs) ∧ Paired (t.rep B) vs xs,
  fun e ⟨a, vs, h, s, p⟩ => ⟨a, vs, h, e _ _ s, pw_mono (fun _ _ => t.mono e) p⟩⟩
/-- a list that is read alone: a locked one, one of the module's -/
def tLs (K : Frag) (t : Ty α) : Ty (List α) := ⟨fun B v xs => ∃ a vs, v = .ref a ∧ SqL K B a vs ∧ Paired (t.rep B) vs xs,
  fun e ⟨a, vs, h, s, p⟩ => ⟨a, vs, h, e.l s, pw_mono (fun _ _ => t.mono e) p⟩⟩
def tP (t : Ty α) (u : Ty β) : Ty (α × β) := ⟨fun B v x => ∃ a p q, v = .ref a ∧ B a = some (.tup [p, q]) ∧ t.rep B p x.1 ∧ u.rep B q x.2,
  fun e ⟨a, p, q, h, s, h1, h2⟩ => ⟨a, p, q, h, e _ _ s, t.mono e h1, u.mono e h2⟩⟩
def tP3 (t : Ty α) (u : Ty β) (r : Ty γ) : Ty (α × β × γ) := ⟨fun B v x => ∃ a p q z, v = .ref a ∧ B a = some (.tup [p, q, z]) ∧ t.rep B p x.1 ∧ u.rep B q x.2.1 ∧ r.rep B z x.2.2,
  fun e ⟨a, p, q, z, h, s, h1, h2, h3⟩ => ⟨a, p, q, z, h, e _ _ s, t.mono e h1, u.mono e h2, r.mono e h3⟩⟩
def tP4 (t : Ty α) (u : Ty β) (r : Ty γ) (s : Ty δ) : Ty (α × β × γ × δ) := ⟨fun B v x => ∃ a p q z y, v = .ref a ∧ B a = some (.tup [p, q, z, y]) ∧ t.rep B p x.1 ∧ u.rep B q x.2.1 ∧ r.rep B z x.2.2.1 ∧ s.rep B y x.2.2.2,
  fun e ⟨a, p, q, z, y, h, ss, h1, h2, h3, h4⟩ => ⟨a, p, q, z, y, h, e _ _ ss, t.mono e h1, u.mono e h2, r.mono e h3, s.mono e h4⟩⟩
/-- None, or a datum -/
def tO (t : Ty α) : Ty (Option α) := ⟨fun B v x => match x with
  | none => v = .non
  | some y => t.rep B v y, fun {B B' v x} e h => by
    cases x with
    | none => exact h
    | some y => exact t.mono e h⟩
end

/-! ### the environment -/
/-- what an object of one's own is -/
structure Rs where
  R : Addr → Hp → HO → Prop
  mono : ∀ {l : Addr} {B B' : Hp} {o : HO}, Ex B B' → R l B o → R l B' o
inductive Ent : Type 1 where
  | no
  | im {α : Type} (t : Ty α) (x : α)
  | mu (r : Rs)
  | pen
  /-- a name for what another name owns -/
  | al (a : Addr)
  /-- a list of one's own lists, which lie at as -/
  | mm {α : Type} (t : Ty α) (as : List Addr) (xss : List (List α))
abbrev Env := List Ent
/-- a list that one may still change -/
def rL {α : Type} (t : Ty α) (xs : List α) : Rs := ⟨fun _ B o => ∃ vs, o = .lst vs ∧ Paired (t.rep B) vs xs, fun e ⟨vs, h, p⟩ => ⟨vs, h, pw_mono (fun _ _ => t.mono e) p⟩⟩
abbrev Ent.ml {α : Type} (t : Ty α) (xs : List α) : Ent := .mu (rL t xs)
/-- a dict with whole-number keys that one may still change -/
def rD {α : Type} (t : Ty α) (xs : List (Int × α)) : Rs := ⟨fun _ B o => ∃ kvs : List (Key × V), o = .dK kvs ∧ Paired (fun (p : Key × V) (q : Int × α) => p.1 = .inl q.1 ∧ t.rep B p.2 q.2) kvs xs,
  fun e ⟨vs, h, p⟩ => ⟨vs, h, pw_mono (fun _ _ ⟨h1, h2⟩ => ⟨h1, t.mono e h2⟩) p⟩⟩
abbrev Ent.md {α : Type} (t : Ty α) (xs : List (Int × α)) : Ent := .mu (rD t xs)

/-- d: where the pen lies; B0, H0: what stood at the def's entry -/
structure Wd where
  d : Addr
  ca : Addr
  cs : List Int
  B0 : Hp
  H0 : Hp

def penKV (c : Addr) (a l : Int) : List (Key × V) := [(.inr "cells", .ref c), (.inr "at", .int a), (.inr "left", .int l)]
/-- the source of draws, n draws at most are done -/
structure PenAt (B H : Hp) (w : Wd) (n : Nat) : Prop where
  fr : B w.d = none
  st : ∃ (a l : Int), H w.d = some (.dK (penKV w.ca a l)) ∧ B w.ca = some (.lst (w.cs.map V.int)) ∧ w.cs.length ≤ 63 ∧ 0 ≤ a ∧ a ≤ n ∧ 0 ≤ l

/-- one of the lists within a list of one's own -/
def Kid {α : Type} (w : Wd) (B H : Hp) (t : Ty α) (a : Addr) (xs : List α) : Prop := ∃ vs, H a = some (.lst vs) ∧ Paired (t.rep B) vs xs ∧ B a = none ∧ w.H0 a = none
def SlotOk (w : Wd) (B H : Hp) : Ent → Option (Option V) → Prop
  | .no, _ => True
  | .im t x, s => ∃ v, s = some (some v) ∧ t.rep B v x
  | .mu r, s => ∃ l o, s = some (some (.ref l)) ∧ H l = some o ∧ B l = none ∧ w.H0 l = none ∧ r.R l B o
  | .pen, s => s = some (some (.ref w.d))
  | .al a, s => s = some (some (.ref a))
  | .mm t as xss, s => ∃ l, s = some (some (.ref l)) ∧ H l = some (.lst (as.map V.ref)) ∧ B l = none ∧ w.H0 l = none ∧ (l :: as).Nodup ∧ Paired (Kid w B H t) as xss
/-- what a name owns -/
def Ent.owns : Ent → Option (Option V) → Addr → Prop
  | .mu _, s, a => s = some (some (.ref a))
  | .mm _ as _, s, a => s = some (some (.ref a)) ∨ a ∈ as
  | _, _, _ => False

structure Ok (K : Frag) (w : Wd) (n : Option Nat) (Γ : Env) (σ : L2.St) (B H : Hp) : Prop where
  ex : Ex B H
  ex0 : Ex w.B0 B
  nw : ∀ a o, B a = some o → w.B0 a = some o ∨ w.H0 a = none
  kp : ∀ a o, w.H0 a = some o → a ≠ w.d → H a = some o
  hd : (w.H0 w.d).isSome = true
  hh : (H w.d).isSome = true
  pn : ∀ k, n = some k → PenAt B H w k
  ln : Γ.length = σ.length
  sl : ∀ (i : Nat) e, Γ[i]? = some e → SlotOk w B H e σ[i]?
  ds : ∀ (i j : Nat) e e' a, i ≠ j → Γ[i]? = some e → Γ[j]? = some e' → e.owns σ[i]? a → ¬ e'.owns σ[j]? a

section
variable {K : Frag} {w w' : Wd} {n : Option Nat} {Γ : Env} {σ : L2.St} {B H B' H' : Hp} {α : Type} {t : Ty α} {x : α} {v : V}
theorem pw_kid {as : List Addr} {xss : List (List α)} (p : Paired (Kid w B H t) as xss) : ∀ a ∈ as, ∃ vs, H a = some (.lst vs) ∧ B a = none ∧ w.H0 a = none := by
  induction p with
  | nil => intro a h; cases h
  | cons h r ih =>
    intro a ha
    rcases List.mem_cons.mp ha with rfl | ha
    · obtain ⟨vs, h1, _, h3, h4⟩ := h; exact ⟨vs, h1, h3, h4⟩
    · exact ih a ha
theorem pw_kids {as : List Addr} {xss : List (List α)} (p : Paired (Kid w B H t) as xss) (eb : Ex B B') (h : ∀ a ∈ as, H' a = H a ∧ B' a = none ∧ w'.H0 a = none) : Paired (Kid w' B' H' t) as xss := by
  induction p with
  | nil => exact .nil
  | cons k r ih =>
    obtain ⟨vs, h1, h2, _⟩ := k
    obtain ⟨g1, g2, g3⟩ := h _ List.mem_cons_self
    exact .cons ⟨vs, by rw [g1]; exact h1, pw_mono (fun _ _ => t.mono eb) h2, g2, g3⟩ (ih fun a ha => h a (List.mem_cons_of_mem _ ha))
/-- what is owned stands in the heap, new and open -/
theorem SlotOk.owned {e : Ent} {s : Option (Option V)} {a : Addr} (h : SlotOk w B H e s) (ho : e.owns s a) : ∃ o, H a = some o ∧ B a = none ∧ w.H0 a = none := by
  cases e with
  | mu r =>
    obtain ⟨l, o, h1, h2, h3, h4, _⟩ := h
    have : some (some (V.ref l)) = some (some (V.ref a)) := h1.symm.trans ho
    cases this
    exact ⟨o, h2, h3, h4⟩
  | mm t as xss =>
    obtain ⟨l, h1, h2, h3, h4, _, p⟩ := h
    rcases ho with ho | ho
    · have : some (some (V.ref l)) = some (some (V.ref a)) := h1.symm.trans ho
      cases this
      exact ⟨_, h2, h3, h4⟩
    · obtain ⟨vs, q1, q2, q3⟩ := pw_kid p a ho
      exact ⟨_, q1, q2, q3⟩
  | no => exact ho.elim
  | im t x => exact ho.elim
  | pen => exact ho.elim
  | al a => exact ho.elim
/-- what is owned stays as it is: so does the name -/
theorem SlotOk.keep {e : Ent} {s : Option (Option V)} (h : SlotOk w B H e s) (eb : Ex B B') (hd : w'.d = w.d) (k : ∀ a, e.owns s a → H' a = H a ∧ B' a = none ∧ w'.H0 a = none) : SlotOk w' B' H' e s := by
  cases e with
  | no => trivial
  | im t x => obtain ⟨v, h1, h2⟩ := h; exact ⟨v, h1, t.mono eb h2⟩
  | pen =>
    show s = _
    rw [hd]; exact h
  | al a => exact h
  | mu r =>
    obtain ⟨l, o, h1, h2, h3, h4, h5⟩ := h
    obtain ⟨g1, g2, g3⟩ := k l h1
    exact ⟨l, o, h1, by rw [g1]; exact h2, g2, g3, r.mono eb h5⟩
  | mm t as xss =>
    obtain ⟨l, h1, h2, h3, h4, h5, p⟩ := h
    obtain ⟨g1, g2, g3⟩ := k l (.inl h1)
    exact ⟨l, h1, by rw [g1]; exact h2, g2, g3, h5, pw_kids p eb fun a ha => k a (.inr ha)⟩
/-- the heap grows -/
structure Grow (B H B' H' : Hp) : Prop where
  ex : Ex B' H'
  b : Ex B B'
  h : Ex H H'
  nw : ∀ a o, B' a = some o → B a = some o ∨ H a = none
theorem Grow.refl (e : Ex B H) : Grow B H B H := ⟨e, Ex.refl _, Ex.refl _, fun _ _ h => .inl h⟩
theorem Grow.trans {B2 H2 : Hp} (a : Grow B H B' H') (b : Grow B' H' B2 H2) : Grow B H B2 H2 := ⟨b.ex, a.b.trans b.b, a.h.trans b.h, fun x o h => by
  rcases b.nw x o h with q | q
  · exact a.nw x o q
  · exact .inr (a.h.none q)⟩
/-- a new thing, at once frozen -/
theorem Grow.new {p : Addr} {o : HO} (e : Ex B H) (h : H p = none) : Grow B H (upd B p o) (upd H p o) := ⟨e.both, Ex.new (e.none h), Ex.new h, fun a u q => by
  by_cases c : a = p
  · subst c; exact .inr h
  · rw [upd_ne c] at q; exact .inl q⟩
/-- a new thing, left open -/
theorem Grow.open {p : Addr} {o : HO} (e : Ex B H) (h : H p = none) : Grow B H B (upd H p o) := ⟨e.over (e.none h), Ex.refl _, Ex.new h, fun a u q => .inl q⟩
theorem Grow.none {a : Addr} {o : HO} (g : Grow B H B' H') (h1 : B a = Option.none) (h2 : H a = some o) : B' a = Option.none := by
  cases q : B' a with
  | none => rfl
  | some u =>
    rcases g.nw a u q with z | z
    · rw [h1] at z; cases z
    · rw [h2] at z; cases z
theorem SlotOk.grow {e : Ent} {s : Option (Option V)} (g : Grow B H B' H') (h : SlotOk w B H e s) : SlotOk w B' H' e s := h.keep g.b rfl fun a ha => by
  obtain ⟨o, h1, h2, h3⟩ := h.owned ha
  exact ⟨by rw [h1, g.h _ _ h1], g.none h2 h1, h3⟩
theorem PenAt.grow {k : Nat} (g : Grow B H B' H') (h : PenAt B H w k) : PenAt B' H' w k := by
  obtain ⟨fr, a, l, h1, h2, h3⟩ := h
  refine ⟨?_, a, l, g.h _ _ h1, g.b _ _ h2, h3⟩
  cases q : B' w.d with
  | none => rfl
  | some u =>
    rcases g.nw w.d u q with z | z
    · rw [fr] at z; cases z
    · rw [h1] at z; cases z
theorem PenAt.le {k k' : Nat} (h : PenAt B H w k) (e : k ≤ k') : PenAt B H w k' := by
  obtain ⟨fr, a, l, h1, h2, h3, h4, h5, h6⟩ := h
  exact ⟨fr, a, l, h1, h2, h3, h4, by omega, h6⟩
theorem PenAt.cast {w' : Wd} {k : Nat} (h : PenAt B H w k) (e1 : w'.d = w.d) (e2 : w'.ca = w.ca) (e3 : w'.cs = w.cs) : PenAt B H w' k := by
  obtain ⟨fr, a, l, h1, h2, h3⟩ := h
  exact ⟨by rw [e1]; exact fr, a, l, by rw [e1, e2]; exact h1, by rw [e2, e3]; exact h2, by rw [e3]; exact h3⟩
theorem isS {α : Type} {x : Option α} {a : α} (h : x = some a) : x.isSome = true := by rw [h]; rfl
theorem noS {α : Type} {x : Option α} (h : x = none) (h' : x.isSome = true) : False := by rw [h] at h'; cases h'
theorem Ok.grow (h : Ok K w n Γ σ B H) (g : Grow B H B' H') : Ok K w n Γ σ B' H' where
  ex := g.ex
  ex0 := h.ex0.trans g.b
  nw := fun a o q => by
    rcases g.nw a o q with z | z
    · exact h.nw a o z
    · have c : a ≠ w.d := fun c => noS z (c ▸ h.hh)
      right
      cases e : w.H0 a with
      | none => rfl
      | some u => rw [h.kp a u e c] at z; cases z
  kp := fun a o q c => g.h a o (h.kp a o q c)
  hd := h.hd
  hh := by
    obtain ⟨o, q⟩ := Option.isSome_iff_exists.mp h.hh
    exact isS (g.h _ _ q)
  pn := fun k e => (h.pn k e).grow g
  ln := h.ln
  sl := fun i e q => (h.sl i e q).grow g
  ds := h.ds
/-- an address of one's own -/
structure Own (w : Wd) (Γ : Env) (σ : L2.St) (B H : Hp) (r : Rs) (l : Addr) : Prop where
  ob : ∃ o, H l = some o ∧ r.R l B o
  b : B l = none
  h0 : w.H0 l = none
  df : ∀ (i : Nat) e, Γ[i]? = some e → ¬ e.owns σ[i]? l
theorem Own.ned (h : Own w Γ σ B H r l) (k : Ok K w n Γ σ B H) : l ≠ w.d := fun c => noS h.h0 (c ▸ k.hd)
theorem Own.grow {r : Rs} {l : Addr} (g : Grow B H B' H') (h : Own w Γ σ B H r l) : Own w Γ σ B' H' r l := by
  obtain ⟨⟨o, h1, h2⟩, hb, h0, df⟩ := h
  exact ⟨⟨o, g.h _ _ h1, r.mono g.b h2⟩, g.none hb h1, h0, df⟩
theorem Own.new {r : Rs} {l : Addr} {o : HO} (k : Ok K w n Γ σ B H) (h : H l = none) (hr : r.R l B o) : Own w Γ σ B (upd H l o) r l := by
  have c : l ≠ w.d := fun c => noS h (c ▸ k.hh)
  refine ⟨⟨o, upd_same, hr⟩, k.ex.none h, ?_, fun i e he z => ?_⟩
  · cases e : w.H0 l with
    | none => rfl
    | some u => rw [k.kp l u e c] at h; cases h
  · obtain ⟨o', h2, _⟩ := (k.sl i _ he).owned z
    rw [h] at h2; cases h2
/-- names that own no more than before -/
theorem Ok.ds_of {Γ' : Env} {σ' : L2.St} (k : Ok K w n Γ σ B H) (h : ∀ (x : Nat) e, Γ'[x]? = some e → (∀ a, ¬ e.owns σ'[x]? a) ∨ ∃ e0, Γ[x]? = some e0 ∧ ∀ a, e.owns σ'[x]? a → e0.owns σ[x]? a) :
    ∀ (i j : Nat) e e' a, i ≠ j → Γ'[i]? = some e → Γ'[j]? = some e' → e.owns σ'[i]? a → ¬ e'.owns σ'[j]? a := fun i j e e' a ne hi hj oi oj => by
  rcases h i e hi with z | ⟨e0, z1, z2⟩
  · exact z a oi
  rcases h j e' hj with y | ⟨e1, y1, y2⟩
  · exact y a oj
  exact k.ds i j e0 e1 a ne z1 y1 (z2 a oi) (y2 a oj)
/-- one thing of one's own changes -/
theorem Ok.chg {Γ' : Env} {l : Addr} {o : HO} (k : Ok K w n Γ σ B H) (b : B l = none) (h0 : w.H0 l = none) (ln : Γ'.length = Γ.length)
    (hs : ∀ (j : Nat) e, Γ'[j]? = some e → SlotOk w B (upd H l o) e σ[j]? ∨ (Γ[j]? = some e ∧ ¬ e.owns σ[j]? l)) (hds : ∀ (x : Nat) e, Γ'[x]? = some e → (∀ a, ¬ e.owns σ[x]? a) ∨ ∃ e0, Γ[x]? = some e0 ∧ ∀ a, e.owns σ[x]? a → e0.owns σ[x]? a) :
    Ok K w n Γ' σ B (upd H l o) := by
  have c : l ≠ w.d := fun c => noS h0 (c ▸ k.hd)
  refine ⟨k.ex.over b, k.ex0, k.nw, fun a u e ne => ?_, k.hd, ?_, fun m e => ?_, by rw [ln]; exact k.ln, fun j e he => ?_, k.ds_of hds⟩
  · rw [upd_ne (fun z => by rw [z] at e; rw [h0] at e; cases e)]; exact k.kp a u e ne
  · rw [upd_ne (Ne.symm c)]; exact k.hh
  · obtain ⟨fr, a, b, p1, p2⟩ := k.pn m e
    exact ⟨fr, a, b, by rw [upd_ne (Ne.symm c)]; exact p1, p2⟩
  · rcases hs j e he with z | ⟨z1, z2⟩
    · exact z
    · have s := k.sl j e z1
      refine s.keep (Ex.refl _) rfl fun a ha => ?_
      obtain ⟨o', h1, h2, h3⟩ := s.owned ha
      have ne : a ≠ l := fun q => z2 (by rw [← q]; exact ha)
      exact ⟨by rw [upd_ne ne], h2, h3⟩
/-- what is one's own changes -/
theorem Ok.put {r r' : Rs} {l : Addr} {o : HO} {i : Nat} (k : Ok K w n Γ σ B H) (hi : Γ[i]? = some (.mu r)) (hv : σ[i]? = some (some (.ref l))) (hr : r'.R l B o) : Ok K w n (Γ.set i (.mu r')) σ B (upd H l o) := by
  obtain ⟨l', o', h1, h2, h3, h4, h5⟩ := k.sl i _ hi
  rw [hv] at h1; cases h1
  have il : i < Γ.length := (List.getElem?_eq_some_iff.mp hi).1
  refine k.chg h3 h4 (by rw [List.length_set]) (fun j e he => ?_) (fun x e hx => ?_)
  · rw [List.getElem?_set] at he
    by_cases z : i = j
    · subst z
      rw [if_pos rfl, if_pos il] at he
      cases he
      exact .inl ⟨l, o, hv, upd_same, h3, h4, hr⟩
    · rw [if_neg z] at he
      exact .inr ⟨he, k.ds i j _ _ l z hi he hv⟩
  · rw [List.getElem?_set] at hx
    by_cases z : i = x
    · subst z
      rw [if_pos rfl, if_pos il] at hx
      cases hx
      exact .inr ⟨_, hi, fun a ha => ha⟩
    · rw [if_neg z] at hx
      exact .inr ⟨e, hx, fun a ha => ha⟩
/-- a slot is given what owns nothing -/
theorem Ok.setN {i : Nat} {e0 : Ent} (k : Ok K w n Γ σ B H) (no : ∀ s a, ¬ e0.owns s a) (h : SlotOk w B H e0 (some (some v))) : Ok K w n (Γ.set i e0) (σ.set i (some v)) B H := by
  refine ⟨k.ex, k.ex0, k.nw, k.kp, k.hd, k.hh, k.pn, by rw [List.length_set, List.length_set]; exact k.ln, fun j e he => ?_, k.ds_of fun x e hx => ?_⟩
  · rw [List.getElem?_set] at he
    by_cases z : i = j
    · subst z
      rw [if_pos rfl] at he
      split at he
      · rename_i il
        cases he
        rw [List.getElem?_set, if_pos rfl, if_pos (by rw [← k.ln]; exact il)]
        exact h
      · cases he
    · rw [if_neg z] at he
      rw [List.getElem?_set, if_neg z]
      exact k.sl j e he
  · rw [List.getElem?_set] at hx
    by_cases z : i = x
    · subst z
      rw [if_pos rfl] at hx
      split at hx
      · cases hx; exact .inl fun a => no _ a
      · cases hx
    · rw [if_neg z] at hx
      rw [List.getElem?_set, if_neg z]
      exact .inr ⟨e, hx, fun a ha => ha⟩
/-- a slot is given a datum -/
theorem Ok.setIm {i : Nat} (k : Ok K w n Γ σ B H) (h : t.rep B v x) : Ok K w n (Γ.set i (.im t x)) (σ.set i (some v)) B H := k.setN (e0 := .im t x) (fun _ _ z => z) ⟨v, rfl, h⟩
/-- a slot is given another name's thing -/
theorem Ok.setAl {i : Nat} {a : Addr} (k : Ok K w n Γ σ B H) : Ok K w n (Γ.set i (.al a)) (σ.set i (some (.ref a))) B H := k.setN (e0 := .al a) (fun _ _ z => z) rfl
/-- a slot is given what owns new things -/
theorem Ok.setO {i : Nat} {e0 : Ent} (k : Ok K w n Γ σ B H) (h : SlotOk w B H e0 (some (some v))) (df : ∀ a, e0.owns (some (some v)) a → ∀ (i : Nat) e, Γ[i]? = some e → ¬ e.owns σ[i]? a) : Ok K w n (Γ.set i e0) (σ.set i (some v)) B H := by
  refine ⟨k.ex, k.ex0, k.nw, k.kp, k.hd, k.hh, k.pn, by rw [List.length_set, List.length_set]; exact k.ln, fun j e he => ?_, fun p q e e' a ne hp hq op oq => ?_⟩
  · rw [List.getElem?_set] at he
    by_cases z : i = j
    · subst z
      rw [if_pos rfl] at he
      split at he
      · rename_i il
        cases he
        rw [List.getElem?_set, if_pos rfl, if_pos (by rw [← k.ln]; exact il)]
        exact h
      · cases he
    · rw [if_neg z] at he
      rw [List.getElem?_set, if_neg z]
      exact k.sl j e he
  · have old : ∀ (x' : Nat) e, (Γ.set i e0)[x']? = some e → (i = x' ∧ e = e0 ∧ (σ.set i (some v))[x']? = some (some v)) ∨ (Γ[x']? = some e ∧ i ≠ x' ∧ (σ.set i (some v))[x']? = σ[x']?) := fun x' s hx => by
      rw [List.getElem?_set] at hx
      by_cases z : i = x'
      · subst z
        rw [if_pos rfl] at hx
        split at hx
        · rename_i il
          cases hx
          exact .inl ⟨rfl, rfl, by rw [List.getElem?_set, if_pos rfl, if_pos (by rw [← k.ln]; exact il)]⟩
        · cases hx
      · rw [if_neg z] at hx
        exact .inr ⟨hx, z, by rw [List.getElem?_set, if_neg z]⟩
    rcases old p e hp with ⟨i1, rfl, e1⟩ | ⟨e1, n1, f1⟩ <;> rcases old q e' hq with ⟨i2, e2', e2⟩ | ⟨e2, n2, f2⟩
    · exact absurd (i1.symm.trans i2) ne
    · rw [e1] at op; rw [f2] at oq
      exact df a op q e' e2 oq
    · subst e2'
      rw [e2] at oq; rw [f1] at op
      exact df a oq p e e1 op
    · rw [f1] at op; rw [f2] at oq
      exact k.ds p q e e' a ne e1 e2 op oq
/-- a slot is given what is one's own -/
theorem Ok.setMu {i : Nat} {r : Rs} {l : Addr} (k : Ok K w n Γ σ B H) (h : Own w Γ σ B H r l) : Ok K w n (Γ.set i (.mu r)) (σ.set i (some (.ref l))) B H := by
  obtain ⟨⟨o, h1, h2⟩, h3, h4, h5⟩ := h
  exact k.setO (e0 := .mu r) ⟨l, o, rfl, h1, h3, h4, h2⟩ fun a ha j e he z => by
    have : some (some (V.ref l)) = some (some (V.ref a)) := ha
    cases this
    exact h5 j e he z
/-- things of one's own are frozen -/
theorem Ok.frz {Γ' : Env} {B' : Hp} (k : Ok K w n Γ σ B H) (eb : Ex B B') (hB : ∀ a o, B' a = some o → B a = some o ∨ (H a = some o ∧ w.H0 a = none)) (ln : Γ'.length = Γ.length)
    (hs : ∀ (j : Nat) e, Γ'[j]? = some e → e = .no ∨ (Γ[j]? = some e ∧ ∀ a, e.owns σ[j]? a → B' a = none)) : Ok K w n Γ' σ B' H := by
  refine ⟨fun a o q => ?_, k.ex0.trans eb, fun a u e => ?_, k.kp, k.hd, k.hh, fun m e => ?_, by rw [ln]; exact k.ln, fun j e he => ?_, k.ds_of fun x e hx => ?_⟩
  · rcases hB a o q with z | z
    · exact k.ex a o z
    · exact z.1
  · rcases hB a u e with z | z
    · exact k.nw a u z
    · exact .inr z.2
  · obtain ⟨fr, a, b, p1, p2, p3⟩ := k.pn m e
    refine ⟨?_, a, b, p1, eb _ _ p2, p3⟩
    cases q : B' w.d with
    | none => rfl
    | some u =>
      rcases hB w.d u q with z | z
      · rw [fr] at z; cases z
      · exact (noS z.2 k.hd).elim
  · rcases hs j e he with rfl | ⟨z1, z2⟩
    · trivial
    · have s := k.sl j e z1
      refine s.keep eb rfl fun a ha => ?_
      obtain ⟨o, h1, h2, h3⟩ := s.owned ha
      exact ⟨rfl, z2 a ha, h3⟩
  · rcases hs x e hx with rfl | ⟨z1, z2⟩
    · exact .inl fun a z => z
    · exact .inr ⟨e, z1, fun a ha => ha⟩
/-- what is one's own is frozen -/
theorem Ok.freeze {i : Nat} {r : Rs} {l : Addr} (k : Ok K w n Γ σ B H) (hi : Γ[i]? = some (.mu r)) (hv : σ[i]? = some (some (.ref l))) :
    ∃ o, H l = some o ∧ r.R l B o ∧ Ex B (upd B l o) ∧ Ok K w n (Γ.set i .no) σ (upd B l o) H := by
  obtain ⟨l', o, h1, h2, h3, h4, h5⟩ := k.sl i _ hi
  rw [hv] at h1; cases h1
  have eb : Ex B (upd B l o) := Ex.new h3
  refine ⟨o, h2, h5, eb, k.frz eb (fun a u e => ?_) (by rw [List.length_set]) fun j e he => ?_⟩
  · by_cases z : a = l
    · subst z; rw [upd_same] at e; cases e; exact .inr ⟨h2, h4⟩
    · rw [upd_ne z] at e; exact .inl e
  · rw [List.getElem?_set] at he
    by_cases z : i = j
    · subst z
      rw [if_pos rfl] at he
      split at he
      · cases he; exact .inl rfl
      · cases he
    · rw [if_neg z] at he
      refine .inr ⟨he, fun a ha => ?_⟩
      have ne : a ≠ l := fun q => k.ds i j _ _ l z hi he hv (by rw [← q]; exact ha)
      rw [upd_ne ne]
      obtain ⟨_, _, hb, _⟩ := (k.sl j e he).owned ha
      exact hb
theorem Ok.same {Γ' : Env} (k : Ok K w n Γ σ B H) (ln : Γ'.length = Γ.length) (h : ∀ (i : Nat) e, Γ'[i]? = some e → e = .no ∨ Γ[i]? = some e) : Ok K w n Γ' σ B H :=
  k.frz (Ex.refl _) (fun a o q => .inl q) ln fun j e he => by
    rcases h j e he with rfl | z
    · exact .inl rfl
    · exact .inr ⟨z, fun a ha => by obtain ⟨_, _, hb, _⟩ := (k.sl j e z).owned ha; exact hb⟩
/-- less is known of a slot -/
theorem Ok.drop {i : Nat} (k : Ok K w n Γ σ B H) : Ok K w n (Γ.set i .no) σ B H := k.same (by rw [List.length_set]) fun x' s hx => by
  rw [List.getElem?_set] at hx
  by_cases z : i = x'
  · subst z; rw [if_pos rfl] at hx; split at hx
    · cases hx; exact .inl rfl
    · cases hx
  · rw [if_neg z] at hx; exact .inr hx
theorem Ok.le {k k' : Nat} (h : Ok K w (some k) Γ σ B H) (e : k ≤ k') : Ok K w (some k') Γ σ B H :=
  ⟨h.ex, h.ex0, h.nw, h.kp, h.hd, h.hh, fun m q => by cases q; exact (h.pn k rfl).le e, h.ln, h.sl, h.ds⟩
end
end TL

/-! # TL: judgements, and the rules of expressions -/
namespace TL
open PySem L2
open PySem.W (Frag)

/-! ### rules of operators that leave the kinds open -/
section
variable {X : Cx}
theorem opOr {f : Value → Value → Sem Value} {r s : R2} (h1 : OpR X f r) (h2 : OpR X f s) : OpR X f (fun x y H Q => r x y H Q ∨ s x y H Q) := fun pins s σ H x y u v Q I rx ry h => by
  rcases h with h | h
  · exact h1 pins s σ H x y u v Q I rx ry h
  · exact h2 pins s σ H x y u v Q I rx ry h
theorem callOr {f : Value} {r s : List V → Hp → VK → Prop} (h1 : CallR X f r) (h2 : CallR X f s) : CallR X f (fun x H Q => r x H Q ∨ s x H Q) := fun pins s σ H x us Q I rx h => by
  rcases h with h | h
  · exact h1 pins s σ H x us Q I rx h
  · exact h2 pins s σ H x us Q I rx h
theorem piOr {tg e : Expr} {a b : TI} (h1 : PI X tg e a) (h2 : PI X tg e b) : PI X tg e (fun σ H R => a σ H R ∨ b σ H R) := ⟨fun pins s σ H R I h => by
  rcases h with h | h
  · exact h1.run pins s σ H R I h
  · exact h2.run pins s σ H R I h⟩
def rAddS : R2 := fun x y H Q => ∃ i j, x = .str i ∧ y = .str j ∧ i.length + j.length ≤ sizeLine ∧ Q (.str (i ++ j)) H
/-- + of ints, texts, lists -/
def rAddU : R2 := fun x y H Q => rI0 (fun i j => .int (i + j)) x y H Q ∨ (rAddS x y H Q ∨ rCat x y H Q)
theorem op_addU : OpR X (binaryOp .Add) rAddU := opOr op_add (opOr op_add_str op_cat)
def rMulU : R2 := fun x y H Q => rI CMulW (fun i j => .int (i * j)) x y H Q ∨ (rI CMul (fun i j => .int (i * j)) x y H Q ∨ rRep x y H Q)
theorem op_mulU : OpR X (binaryOp .Mult) rMulU := opOr op_mulW (opOr op_mul op_rep)
def rSubI : R2 := rI0 fun i j => .int (i - j)
theorem op_subU : OpR X (binaryOp .Sub) rSubI := op_sub
def rDivU : R2 := fun x y H Q => rI CDivW (fun i j => .int (i / j)) x y H Q ∨ rI CDivN (fun i j => .int (i.fdiv j)) x y H Q
theorem op_divU : OpR X (binaryOp .FloorDiv) rDivU := opOr op_fdivW op_fdivN
def rModU : R2 := rI (fun _ j => j ≠ 0) fun i j => .int (i.fmod j)
theorem op_modU : OpR X (binaryOp .Mod) rModU := op_modN
def rPowU : R2 := rI CPow fun i j => .int (i ^ j.toNat)
theorem op_powU : OpR X (binaryOp .Pow) rPowU := op_pow
def rEqU (K : Frag) : R2 := fun x y H Q => rEq x y H Q ∨ rEqD K x y H Q
theorem op_eqU (hu : X.A.units + 64 < cLine) : OpR X (compareOp .Eq) (rEqU X.K) := opOr op_eq (op_eqD hu)
def rNeU (K : Frag) : R2 := fun x y H Q => rNe x y H Q ∨ rNeD K x y H Q
theorem op_neU (hu : X.A.units + 64 < cLine) : OpR X (compareOp .NotEq) (rNeU X.K) := opOr op_ne (op_neD hu)
def rLtI : R2 := rI0 fun i j => .bl (decide (i < j))
theorem op_ltU : OpR X (compareOp .Lt) rLtI := op_lt
def rLeI : R2 := rI0 fun i j => .bl (decide (i ≤ j))
theorem op_leU : OpR X (compareOp .LtE) rLeI := op_le
def rGtI : R2 := rI0 fun i j => .bl (decide (j < i))
theorem op_gtU : OpR X (compareOp .Gt) rGtI := op_gt
def rGeI : R2 := rI0 fun i j => .bl (decide (j ≤ i))
theorem op_geU : OpR X (compareOp .GtE) rGeI := op_ge
def rIntU : List V → Hp → VK → Prop := fun xs H Q => (∃ i, xs = [.int i] ∧ Q (.int i) H) ∨ ∃ k, xs = [.bl k] ∧ Q (.int (if k then 1 else 0)) H
theorem call_intU : CallR X (.type "int") rIntU := call_int1
def rLenU (K : Frag) : List V → Hp → VK → Prop := fun xs H Q => ∃ x n, xs = [x] ∧ LenV K x H n ∧ Q (.int n) H
theorem call_lenU : CallR X (.builtin "len") (rLenU X.K) := call_len
def rListU (K : Frag) : List V → Hp → VK → Prop := fun xs H Q => ∃ p ys, xs = [.ref p] ∧ (SqL K H p ys ∨ SqT K H p ys) ∧ ∀ l, H l = none → Q (.ref l) (upd H l (.lst ys))
theorem call_listU : CallR X (.type "list") (rListU X.K) := call_list_of
def rTupleU (K : Frag) : List V → Hp → VK → Prop := fun xs H Q => ∃ p ys, xs = [.ref p] ∧ ((SqL K H p ys ∧ ∀ l, H l = none → Q (.ref l) (upd H l (.tup ys))) ∨ (SqT K H p ys ∧ Q (.ref p) H))
theorem call_tupleU : CallR X (.type "tuple") (rTupleU X.K) := call_tuple_of
def rMinU : List V → Hp → VK → Prop := fun xs H Q => ∃ i j, xs = [.int i, .int j] ∧ Q (.int (if j < i then j else i)) H
theorem call_minU (hc : X.calm = true) : CallR X (.builtin "min") rMinU := call_min2 hc
def rMaxU : List V → Hp → VK → Prop := fun xs H Q => ∃ i j, xs = [.int i, .int j] ∧ Q (.int (if j > i then j else i)) H
theorem call_maxU (hc : X.calm = true) : CallR X (.builtin "max") rMaxU := call_max2 hc
def rNegI : V → Hp → VK → Prop := rU fun i => .int (-i)
theorem un_negU : UnR X (unaryOp .USub) rNegI := un_neg
end

/-- an environment yet to be reckoned -/
def SetE (Γ : Env) (k : Env → Prop) : Prop := k Γ
theorem setE_go {Γ Γ' : Env} {k : Env → Prop} (h : Γ = Γ') (q : k Γ') : SetE Γ k := by subst h; exact q

/-! ### judgements -/
section
variable (K : Frag) (w : Wd)
abbrev NK := Option Nat → Env → Prop
/-- te gives a datum of the kind t -/
def WpE {α : Type} (n : Option Nat) (Γ : Env) (te : TE) (t : Ty α) (k : α → NK) : Prop := ∀ σ B H, Ok K w n Γ σ B H → ∀ Q : VK,
  (∀ x v n' Γ' B' H', k x n' Γ' → Ex B B' → Ok K w n' Γ' σ B' H' → t.rep B' v x → Q v H') → te σ H Q
/-- te gives a new thing of one's own -/
def WpM (n : Option Nat) (Γ : Env) (te : TE) (k : Rs → NK) : Prop := ∀ σ B H, Ok K w n Γ σ B H → ∀ Q : VK,
  (∀ r l n' Γ' B' H', k r n' Γ' → Ex B B' → Ok K w n' Γ' σ B' H' → Own w Γ' σ B' H' r l → Q (.ref l) H') → te σ H Q
def WpT (n : Option Nat) (Γ : Env) (tt : TT) (kt kf : NK) : Prop := ∀ σ B H, Ok K w n Γ σ B H → ∀ Q : Bool → Hp → Prop,
  (∀ n' Γ' B' H', kt n' Γ' → Ex B B' → Ok K w n' Γ' σ B' H' → Q true H') → (∀ n' Γ' B' H', kf n' Γ' → Ex B B' → Ok K w n' Γ' σ B' H' → Q false H') → tt σ H Q
/-- arguments -/
structure TyA (A : Type) where
  rep : Addr → Hp → List V → A → Prop
  mono : ∀ {d : Addr} {B B' : Hp} {vs : List V} {a : A}, Ex B B' → rep d B vs a → rep d B' vs a
def aNil : TyA Unit := ⟨fun _ _ vs _ => vs = [], fun _ h => h⟩
def aCons {α A : Type} (t : Ty α) (r : TyA A) : TyA (α × A) := ⟨fun d B vs a => ∃ v us, vs = v :: us ∧ t.rep B v a.1 ∧ r.rep d B us a.2, fun e ⟨v, us, h, h1, h2⟩ => ⟨v, us, h, t.mono e h1, r.mono e h2⟩⟩
def aPen {A : Type} (r : TyA A) : TyA A := ⟨fun d B vs a => ∃ us, vs = .ref d :: us ∧ r.rep d B us a, fun e ⟨us, h, h1⟩ => ⟨us, h, r.mono e h1⟩⟩
def WpA {A : Type} (n : Option Nat) (Γ : Env) (ta : TA) (t : TyA A) (k : A → NK) : Prop := ∀ σ B H, Ok K w n Γ σ B H → ∀ Q : List V → Hp → Prop,
  (∀ a vs n' Γ' B' H', k a n' Γ' → Ex B B' → Ok K w n' Γ' σ B' H' → t.rep w.d B' vs a → Q vs H') → ta σ H Q
end

section
variable {K : Frag} {w : Wd} {n : Option Nat} {Γ : Env} {α β γ : Type} {t : Ty α} {u : Ty β} {k : α → NK} {ta tb te : TE}

/-! ### expressions -/
theorem we_mono {k' : α → NK} (h : WpE K w n Γ te t k) (m : ∀ x n' Γ', k x n' Γ' → k' x n' Γ') : WpE K w n Γ te t k' := fun σ B H ok Q q =>
  h σ B H ok Q fun x v n' Γ' B' H' a => q x v n' Γ' B' H' (m _ _ _ a)
theorem we_var {i : Nat} {x : α} (h : Γ[i]? = some (.im t x)) (q : k x n Γ) : WpE K w n Γ (tVar i) t k := fun σ B H ok Q c => by
  obtain ⟨v, h1, h2⟩ := ok.sl i _ h
  exact ⟨v, h1, c x v n Γ B H q (Ex.refl _) ok h2⟩
/-- an own list is frozen as it is used -/
theorem we_varL {i : Nat} {xs : List α} {k : List α → NK} (h : Γ[i]? = some (.ml t xs)) (q : SetE (Γ.set i (.im (tL t) xs)) (k xs n)) : WpE K w n Γ (tVar i) (tL t) k := fun σ B H ok Q c => by
  obtain ⟨l, o, h1, h2⟩ := ok.sl i _ h
  obtain ⟨o', h3, ⟨vs, rfl, p⟩, e, ok'⟩ := ok.freeze h h1
  have rp : (tL t).rep (upd B l (.lst vs)) (.ref l) xs := ⟨l, vs, rfl, upd_same, pw_mono (fun _ _ => t.mono e) p⟩
  have ok2 := ok'.setIm (i := i) rp
  have e1 : (Γ.set i .no).set i (.im (tL t) xs) = Γ.set i (.im (tL t) xs) := by rw [List.set_set]
  have e2 : σ.set i (some (.ref l)) = σ := by
    apply List.ext_getElem?
    intro j
    rw [List.getElem?_set]
    split
    · rename_i z; subst z
      split
      · exact h1.symm
      · rename_i z; exact absurd (List.getElem?_eq_some_iff.mp h1).1 z
    · rfl
  rw [e1, e2] at ok2
  exact ⟨.ref l, h1, c xs _ n _ _ H q e ok2 rp⟩
theorem we_int {i : Int} {k : Int → NK} (q : k i n Γ) : WpE K w n Γ (tC (.int i)) tI k := fun σ B H ok Q c => c i _ n Γ B H q (Ex.refl _) ok rfl
theorem we_bool {i : Bool} {k : Bool → NK} (q : k i n Γ) : WpE K w n Γ (tC (.bl i)) tBo k := fun σ B H ok Q c => c i _ n Γ B H q (Ex.refl _) ok rfl
theorem we_str {i : Str} {k : Str → NK} (q : k i n Γ) : WpE K w n Γ (tC (.str i)) tS k := fun σ B H ok Q c => c i _ n Γ B H q (Ex.refl _) ok rfl
theorem we_none {k : Unit → NK} (q : k () n Γ) : WpE K w n Γ (tC .non) tN k := fun σ B H ok Q c => c () _ n Γ B H q (Ex.refl _) ok rfl
/-- None as an option -/
theorem we_noneO {k : Option α → NK} (q : k none n Γ) : WpE K w n Γ (tC .non) (tO t) k := fun σ B H ok Q c => c none _ n Γ B H q (Ex.refl _) ok rfl
theorem we_someO {k : Option α → NK} (h : WpE K w n Γ te t (fun x => k (some x))) : WpE K w n Γ te (tO t) k := fun σ B H ok Q c => h σ B H ok Q fun x v n' Γ' B' H' a e o r => c (some x) v n' Γ' B' H' a e o r
/-- two operands, then an operation on ints -/
theorem we_op2 {δ : Type} {s : Ty δ} {r : R2} {k : δ → NK} (f : α → β → δ) (C : α → β → Prop)
    (hr : ∀ B x y a b H Q, t.rep B x a → u.rep B y b → Ex B H → C a b → (∀ v, s.rep B v (f a b) → Q v H) → r x y H Q)
    (h : WpE K w n Γ ta t (fun a n Γ => WpE K w n Γ tb u (fun b n Γ => C a b ∧ k (f a b) n Γ))) : WpE K w n Γ (tOp r ta tb) s k := fun σ B H ok Q c =>
  h σ B H ok _ fun a x n1 Γ1 B1 H1 h1 e1 o1 r1 => h1 σ B1 H1 o1 _ fun b y n2 Γ2 B2 H2 ⟨hc, h2⟩ e2 o2 r2 =>
    hr B2 x y a b H2 Q (t.mono e2 r1) r2 o2.ex hc fun v rv => c _ v n2 Γ2 B2 H2 h2 (e1.trans e2) o2 rv
theorem we_add {k : Int → NK} (h : WpE K w n Γ ta tI (fun a n Γ => WpE K w n Γ tb tI (fun b n Γ => k (a + b) n Γ))) : WpE K w n Γ (tOp rAddU ta tb) tI k :=
  we_op2 (s := tI) (fun a b => a + b) (fun _ _ => True) (fun B x y a b H Q h1 h2 e _ q => .inl ⟨a, b, h1, h2, q _ rfl⟩) (we_mono h fun x _ _ q => we_mono q fun y _ _ z => ⟨trivial, z⟩)
theorem we_sub {k : Int → NK} (h : WpE K w n Γ ta tI (fun a n Γ => WpE K w n Γ tb tI (fun b n Γ => k (a - b) n Γ))) : WpE K w n Γ (tOp rSubI ta tb) tI k :=
  we_op2 (s := tI) (fun a b => a - b) (fun _ _ => True) (fun B x y a b H Q h1 h2 e _ q => ⟨a, b, h1, h2, q _ rfl⟩) (we_mono h fun x _ _ q => we_mono q fun y _ _ z => ⟨trivial, z⟩)
/-- the size of a product: one factor is small, or both are not huge -/
def MulOk (a b : Int) : Prop := CMul a b ∨ CMulW a b
theorem we_mul {k : Int → NK} (h : WpE K w n Γ ta tI (fun a n Γ => WpE K w n Γ tb tI (fun b n Γ => MulOk a b ∧ k (a * b) n Γ))) : WpE K w n Γ (tOp rMulU ta tb) tI k :=
  we_op2 (s := tI) (fun a b => a * b) MulOk (fun B x y a b H Q h1 h2 e hc q => by
    rcases hc with hc | hc
    · exact .inr (.inl ⟨a, b, h1, h2, hc, q _ rfl⟩)
    · exact .inl ⟨a, b, h1, h2, hc, q _ rfl⟩) h
theorem we_mulL {k : Int → NK} (h : WpE K w n Γ ta tI (fun a n Γ => (-(2 ^ 64) < a ∧ a < 2 ^ 64) ∧ WpE K w n Γ tb tI (fun b n Γ => k (a * b) n Γ))) : WpE K w n Γ (tOp rMulU ta tb) tI k :=
  we_mul (we_mono h fun x _ _ ⟨c, q⟩ => we_mono q fun y _ _ z => ⟨.inl (.inl c), z⟩)
/-- a positive divisor below 2 ^ 9000 -/
theorem we_div {k : Int → NK} (h : WpE K w n Γ ta tI (fun a n Γ => WpE K w n Γ tb tI (fun b n Γ => CDivW a b ∧ k (a / b) n Γ))) : WpE K w n Γ (tOp rDivU ta tb) tI k :=
  we_op2 (s := tI) (fun a b => a / b) CDivW (fun B x y a b H Q h1 h2 e hc q => .inl ⟨a, b, h1, h2, hc, q _ rfl⟩) h
theorem we_divN {k : Int → NK} (h : WpE K w n Γ ta tI (fun a n Γ => WpE K w n Γ tb tI (fun b n Γ => CDivN a b ∧ k (a.fdiv b) n Γ))) : WpE K w n Γ (tOp rDivU ta tb) tI k :=
  we_op2 (s := tI) (fun (a b : Int) => a.fdiv b) CDivN (fun B x y a b H Q h1 h2 e hc q => .inr ⟨a, b, h1, h2, hc, q (.int (a.fdiv b)) rfl⟩) h
theorem we_modN {k : Int → NK} (h : WpE K w n Γ ta tI (fun a n Γ => WpE K w n Γ tb tI (fun b n Γ => b ≠ 0 ∧ k (a.fmod b) n Γ))) : WpE K w n Γ (tOp rModU ta tb) tI k :=
  we_op2 (s := tI) (fun (a b : Int) => a.fmod b) (fun _ b => b ≠ 0) (fun B x y a b H Q h1 h2 e hc q => ⟨a, b, h1, h2, hc, q (.int (a.fmod b)) rfl⟩) h
theorem we_mod {k : Int → NK} (h : WpE K w n Γ ta tI (fun a n Γ => WpE K w n Γ tb tI (fun b n Γ => 0 < b ∧ k (a % b) n Γ))) : WpE K w n Γ (tOp rModU ta tb) tI k :=
  we_modN (we_mono h fun x _ _ q => we_mono q fun y _ _ ⟨c, z⟩ => ⟨by omega, by rw [Int.fmod_eq_emod_of_nonneg x (by omega)]; exact z⟩)
theorem we_pow {k : Int → NK} (h : WpE K w n Γ ta tI (fun a n Γ => WpE K w n Γ tb tI (fun b n Γ => CPow a b ∧ k (a ^ b.toNat) n Γ))) : WpE K w n Γ (tOp rPowU ta tb) tI k :=
  we_op2 (s := tI) (fun a b => a ^ b.toNat) CPow (fun B x y a b H Q h1 h2 e hc q => ⟨a, b, h1, h2, hc, q (.int (a ^ b.toNat)) rfl⟩) h
theorem we_neg {k : Int → NK} (h : WpE K w n Γ ta tI (fun a n Γ => k (-a) n Γ)) : WpE K w n Γ (tUn rNegI ta) tI k := fun σ B H ok Q c =>
  h σ B H ok _ fun a x n1 Γ1 B1 H1 h1 e1 o1 r1 => ⟨a, r1, c _ _ n1 Γ1 B1 H1 h1 e1 o1 rfl⟩
theorem we_addS {k : Str → NK} (h : WpE K w n Γ ta tS (fun a n Γ => WpE K w n Γ tb tS (fun b n Γ => a.length + b.length ≤ sizeLine ∧ k (a ++ b) n Γ))) : WpE K w n Γ (tOp rAddU ta tb) tS k :=
  we_op2 (s := tS) (fun a b => a ++ b) (fun a b => a.length + b.length ≤ sizeLine) (fun B x y a b H Q h1 h2 e hc q => .inr (.inl ⟨a, b, h1, h2, hc, q _ rfl⟩)) h
/-! comparisons of ints as values -/
theorem we_lt {k : Bool → NK} (h : WpE K w n Γ ta tI (fun a n Γ => WpE K w n Γ tb tI (fun b n Γ => k (decide (a < b)) n Γ))) : WpE K w n Γ (tOp rLtI ta tb) tBo k :=
  we_op2 (s := tBo) (fun a b => decide (a < b)) (fun _ _ => True) (fun B x y a b H Q h1 h2 e _ q => ⟨a, b, h1, h2, q _ rfl⟩) (we_mono h fun x _ _ q => we_mono q fun y _ _ z => ⟨trivial, z⟩)
theorem we_le {k : Bool → NK} (h : WpE K w n Γ ta tI (fun a n Γ => WpE K w n Γ tb tI (fun b n Γ => k (decide (a ≤ b)) n Γ))) : WpE K w n Γ (tOp rLeI ta tb) tBo k :=
  we_op2 (s := tBo) (fun a b => decide (a ≤ b)) (fun _ _ => True) (fun B x y a b H Q h1 h2 e _ q => ⟨a, b, h1, h2, q _ rfl⟩) (we_mono h fun x _ _ q => we_mono q fun y _ _ z => ⟨trivial, z⟩)
theorem we_gt {k : Bool → NK} (h : WpE K w n Γ ta tI (fun a n Γ => WpE K w n Γ tb tI (fun b n Γ => k (decide (b < a)) n Γ))) : WpE K w n Γ (tOp rGtI ta tb) tBo k :=
  we_op2 (s := tBo) (fun a b => decide (b < a)) (fun _ _ => True) (fun B x y a b H Q h1 h2 e _ q => ⟨a, b, h1, h2, q _ rfl⟩) (we_mono h fun x _ _ q => we_mono q fun y _ _ z => ⟨trivial, z⟩)
theorem we_ge {k : Bool → NK} (h : WpE K w n Γ ta tI (fun a n Γ => WpE K w n Γ tb tI (fun b n Γ => k (decide (b ≤ a)) n Γ))) : WpE K w n Γ (tOp rGeI ta tb) tBo k :=
  we_op2 (s := tBo) (fun a b => decide (b ≤ a)) (fun _ _ => True) (fun B x y a b H Q h1 h2 e _ q => ⟨a, b, h1, h2, q _ rfl⟩) (we_mono h fun x _ _ q => we_mono q fun y _ _ z => ⟨trivial, z⟩)

/-! ### data that == compares -/
/-- what stands for a datum of the kind t is data of the library's == -/
structure IsD (K : Frag) (t : Ty α) where
  enc : α → PyData
  dp : ∀ {B v x}, t.rep B v x → Dp K B v (enc x)
  dep : Nat
  dp_le : ∀ x, (enc x).depth ≤ dep
  inj : ∀ x y, PyData.eqv (enc x) (enc y) = true ↔ x = y
theorem IsD.sh (D : IsD K t) (hd : D.dep ≤ 64) {x : α} (h : (D.enc x).canLay0 = true) : SeqAt.shaped (D.enc x) = true := by
  unfold SeqAt.shaped
  rw [h, Bool.true_and]
  exact decide_eq_true (Nat.le_trans (D.dp_le x) hd)
def iI : IsD K tI := ⟨fun x => .int x, fun h => by cases h; exact .int _, 0, fun x => Nat.le_refl _, fun x y => by show (x == y) = true ↔ _; simp⟩
def iB : IsD K tBo := ⟨fun x => .bool x, fun h => by cases h; exact .bl _, 0, fun x => Nat.le_refl _, fun x y => by show (x == y) = true ↔ _; simp⟩
def iS : IsD K tS := ⟨fun x => .str x, fun h => by cases h; exact .str _, 0, fun x => Nat.le_refl _, fun x y => by show (x == y) = true ↔ _; simp⟩
theorem dpAll {D : IsD K t} {B : Hp} : ∀ {vs : List V} {xs : List α}, Paired (t.rep B) vs xs → DpAll K B vs (xs.map D.enc)
  | _, _, .nil => .nil
  | _, _, .cons h r => .cons (D.dp h) (dpAll r)
theorem depthAll_le {D : IsD K t} : ∀ xs : List α, PyData.depthAll (xs.map D.enc) ≤ D.dep
  | [] => Nat.zero_le _
  | x :: xs => by
    show PyData.depthAll (D.enc x :: xs.map D.enc) ≤ D.dep
    unfold PyData.depthAll
    exact Nat.max_le.mpr ⟨D.dp_le x, depthAll_le xs⟩
theorem eqvAll_inj {D : IsD K t} : ∀ xs ys : List α, PyData.eqvAll (xs.map D.enc) (ys.map D.enc) = true ↔ xs = ys
  | [], [] => by simp [PyData.eqvAll]
  | [], y :: ys => by simp [PyData.eqvAll]
  | x :: xs, [] => by simp [PyData.eqvAll]
  | x :: xs, y :: ys => by
    rw [List.map_cons, List.map_cons, PyData.eqvAll, Bool.and_eq_true, D.inj, eqvAll_inj xs ys, List.cons.injEq]
def iL (D : IsD K t) : IsD K (tL t) := ⟨fun xs => .list (xs.map D.enc), fun ⟨a, vs, h, s, p⟩ => by subst h; exact .lst (SqL.of s) (dpAll p), D.dep + 1,
  fun xs => by unfold PyData.depth; have := depthAll_le (D := D) xs; omega, fun x y => by unfold PyData.eqv; exact eqvAll_inj x y⟩
def iU (D : IsD K t) : IsD K (tU t) := ⟨fun xs => .tuple (xs.map D.enc), fun ⟨a, vs, h, s, p⟩ => by subst h; exact .tup (SqT.of s) (dpAll p), D.dep + 1,
  fun xs => by unfold PyData.depth; have := depthAll_le (D := D) xs; omega, fun x y => by unfold PyData.eqv; exact eqvAll_inj x y⟩
def iP (D : IsD K t) (E : IsD K u) : IsD K (tP t u) := ⟨fun x => .tuple [D.enc x.1, E.enc x.2], fun ⟨a, p, q, h, s, h1, h2⟩ => by subst h; exact .tup (SqT.of s) (.cons (D.dp h1) (.cons (E.dp h2) .nil)), max D.dep E.dep + 1,
  fun x => by
    have h1 := D.dp_le x.1
    have h2 := E.dp_le x.2
    simp only [PyData.depth, PyData.depthAll]; omega, fun x y => by
    simp only [PyData.eqv, PyData.eqvAll, Bool.and_eq_true, D.inj, E.inj, and_true]
    exact ⟨fun ⟨a, b⟩ => Prod.ext a b, fun h => by subst h; exact ⟨rfl, rfl⟩⟩⟩
theorem layAll {D : IsD K t} {xs : List α} (h : ∀ x ∈ xs, (D.enc x).canLay0 = true) : PyData.canLayAll0 (xs.map D.enc) = true := by
  induction xs with
  | nil => simp [PyData.canLayAll0]
  | cons x r ih =>
    rw [List.map_cons, PyData.canLayAll0, h x List.mem_cons_self, ih fun y hy => h y (List.mem_cons_of_mem _ hy)]
    rfl
theorem layI (x : Int) : ((iI (K := K)).enc x).canLay0 = true := by show PyData.canLay0 (.int x) = true; simp [PyData.canLay0]
theorem layL {D : IsD K t} {xs : List α} (h : ∀ x ∈ xs, (D.enc x).canLay0 = true) : ((iL D).enc xs).canLay0 = true := by
  show PyData.canLay0 (.list _) = true
  rw [PyData.canLay0]; exact layAll h
theorem layU {D : IsD K t} {xs : List α} (h : ∀ x ∈ xs, (D.enc x).canLay0 = true) : ((iU D).enc xs).canLay0 = true := by
  show PyData.canLay0 (.tuple _) = true
  rw [PyData.canLay0]; exact layAll h
theorem layLI (xs : List Int) : ((iL (iI (K := K))).enc xs).canLay0 = true := layL fun x _ => layI x
theorem layLLI (xs : List (List Int)) : ((iL (iL (iI (K := K)))).enc xs).canLay0 = true := layL fun x _ => layLI x
theorem dec_iff {a b : Prop} [Decidable b] {c : Bool} (h : c = true ↔ b) : c = decide b := by
  cases c with
  | true => exact (decide_eq_true (h.mp rfl)).symm
  | false => exact (decide_eq_false fun z => by cases h.mpr z).symm
/-- == of data of one kind -/
theorem we_eqD [DecidableEq α] {k : Bool → NK} (D : IsD K t) (hd : D.dep ≤ 64) (h : WpE K w n Γ ta t (fun a n Γ => WpE K w n Γ tb t (fun b n Γ => ((D.enc a).canLay0 = true ∧ (D.enc b).canLay0 = true) ∧ k (decide (a = b)) n Γ))) : WpE K w n Γ (tOp (rEqU K) ta tb) tBo k :=
  we_op2 (s := tBo) (fun a b => decide (a = b)) (fun a b => (D.enc a).canLay0 = true ∧ (D.enc b).canLay0 = true) (fun B x y a b H Q h1 h2 e hc q =>
    .inr ⟨_, _, D.dp (t.mono e h1), D.dp (t.mono e h2), D.sh hd hc.1, D.sh hd hc.2, q _ (by show V.bl _ = V.bl _; rw [dec_iff (a := True) (D.inj a b)])⟩) h
theorem we_neD [DecidableEq α] {k : Bool → NK} (D : IsD K t) (hd : D.dep ≤ 64) (h : WpE K w n Γ ta t (fun a n Γ => WpE K w n Γ tb t (fun b n Γ => ((D.enc a).canLay0 = true ∧ (D.enc b).canLay0 = true) ∧ k (!decide (a = b)) n Γ))) : WpE K w n Γ (tOp (rNeU K) ta tb) tBo k :=
  we_op2 (s := tBo) (fun a b => !decide (a = b)) (fun a b => (D.enc a).canLay0 = true ∧ (D.enc b).canLay0 = true) (fun B x y a b H Q h1 h2 e hc q =>
    .inr ⟨_, _, D.dp (t.mono e h1), D.dp (t.mono e h2), D.sh hd hc.1, D.sh hd hc.2, q _ (by show V.bl _ = V.bl _; rw [dec_iff (a := True) (D.inj a b)])⟩) h
theorem we_eqI {k : Bool → NK} (h : WpE K w n Γ ta tI (fun a n Γ => WpE K w n Γ tb tI (fun b n Γ => k (decide (a = b)) n Γ))) : WpE K w n Γ (tOp (rEqU K) ta tb) tBo k :=
  we_eqD iI (Nat.zero_le _) (we_mono h fun x _ _ q => we_mono q fun y _ _ z => ⟨⟨layI x, layI y⟩, z⟩)
theorem we_neI {k : Bool → NK} (h : WpE K w n Γ ta tI (fun a n Γ => WpE K w n Γ tb tI (fun b n Γ => k (!decide (a = b)) n Γ))) : WpE K w n Γ (tOp (rNeU K) ta tb) tBo k :=
  we_neD iI (Nat.zero_le _) (we_mono h fun x _ _ q => we_mono q fun y _ _ z => ⟨⟨layI x, layI y⟩, z⟩)
theorem we_eqS {k : Bool → NK} (h : WpE K w n Γ ta tS (fun a n Γ => WpE K w n Γ tb tS (fun b n Γ => k (decide (a = b)) n Γ))) : WpE K w n Γ (tOp (rEqU K) ta tb) tBo k :=
  we_op2 (s := tBo) (fun a b => decide (a = b)) (fun _ _ => True) (fun B x y a b H Q h1 h2 e _ q => by
    cases h1; cases h2
    refine .inl ⟨rfl, ?_⟩
    have e : decide (V.str a = V.str b) = decide (a = b) := by simp
    rw [e]; exact q _ rfl) (we_mono h fun x _ _ q => we_mono q fun y _ _ z => ⟨trivial, z⟩)
theorem we_neS {k : Bool → NK} (h : WpE K w n Γ ta tS (fun a n Γ => WpE K w n Γ tb tS (fun b n Γ => k (!decide (a = b)) n Γ))) : WpE K w n Γ (tOp (rNeU K) ta tb) tBo k :=
  we_op2 (s := tBo) (fun a b => !decide (a = b)) (fun _ _ => True) (fun B x y a b H Q h1 h2 e _ q => by
    cases h1; cases h2
    refine .inl ⟨rfl, ?_⟩
    have e : decide (V.str a = V.str b) = decide (a = b) := by simp
    rw [e]; exact q _ rfl) (we_mono h fun x _ _ q => we_mono q fun y _ _ z => ⟨trivial, z⟩)

/-! ### tests -/
section
variable {tt t1 t2 : TT} {kt kf : NK}
theorem wt_val (h : WpE K w n Γ te tBo (fun b n Γ => (b = true → kt n Γ) ∧ (b = false → kf n Γ))) : WpT K w n Γ (tTest te) kt kf := fun σ B H ok Q ct cf =>
  h σ B H ok _ fun b v n1 Γ1 B1 H1 ⟨h1, h2⟩ e o r => ⟨b, r, by
    cases b with
    | true => exact ct n1 Γ1 B1 H1 (h1 rfl) e o
    | false => exact cf n1 Γ1 B1 H1 (h2 rfl) e o⟩
theorem wt_valB (h : WpE K w n Γ te tBo (fun b n Γ => (b = true → kt n Γ) ∧ (b = false → kf n Γ))) : WpT K w n Γ (tB te) kt kf := fun σ B H ok Q ct cf =>
  h σ B H ok _ fun b v n1 Γ1 B1 H1 ⟨h1, h2⟩ e o r => ⟨b, r, by
    cases b with
    | true => exact ct n1 Γ1 B1 H1 (h1 rfl) e o
    | false => exact cf n1 Γ1 B1 H1 (h2 rfl) e o⟩
theorem dec2 {p : Prop} [Decidable p] {A B : Prop} (h1 : p → A) (h2 : ¬ p → B) : (decide p = true → A) ∧ (decide p = false → B) := ⟨fun e => h1 (of_decide_eq_true e), fun e => h2 (of_decide_eq_false e)⟩
theorem dec2n {p : Prop} [Decidable p] {A B : Prop} (h1 : ¬ p → A) (h2 : p → B) : ((!decide p) = true → A) ∧ ((!decide p) = false → B) :=
  ⟨fun e => h1 (of_decide_eq_false (by simpa using e)), fun e => h2 (of_decide_eq_true (by simpa using e))⟩
theorem wt_and (h : WpT K w n Γ t1 (fun n Γ => WpT K w n Γ t2 kt kf) kf) : WpT K w n Γ (tAnd t1 t2) kt kf := fun σ B H ok Q ct cf =>
  h σ B H ok _ (fun n1 Γ1 B1 H1 h1 e1 o1 => by
    show t2 σ H1 Q
    exact h1 σ B1 H1 o1 Q (fun n2 Γ2 B2 H2 h2 e2 o2 => ct n2 Γ2 B2 H2 h2 (e1.trans e2) o2) (fun n2 Γ2 B2 H2 h2 e2 o2 => cf n2 Γ2 B2 H2 h2 (e1.trans e2) o2)) fun n1 Γ1 B1 H1 h1 e1 o1 => by
    show Q false H1
    exact cf n1 Γ1 B1 H1 h1 e1 o1
theorem wt_or (h : WpT K w n Γ t1 kt (fun n Γ => WpT K w n Γ t2 kt kf)) : WpT K w n Γ (tOr t1 t2) kt kf := fun σ B H ok Q ct cf =>
  h σ B H ok _ (fun n1 Γ1 B1 H1 h1 e1 o1 => by
    show Q true H1
    exact ct n1 Γ1 B1 H1 h1 e1 o1) fun n1 Γ1 B1 H1 h1 e1 o1 => by
    show t2 σ H1 Q
    exact h1 σ B1 H1 o1 Q (fun n2 Γ2 B2 H2 h2 e2 o2 => ct n2 Γ2 B2 H2 h2 (e1.trans e2) o2) (fun n2 Γ2 B2 H2 h2 e2 o2 => cf n2 Γ2 B2 H2 h2 (e1.trans e2) o2)
theorem wt_not (h : WpT K w n Γ t1 kf kt) : WpT K w n Γ (tNot t1) kt kf := fun σ B H ok Q ct cf => h σ B H ok _ cf ct
theorem we_if (h : WpT K w n Γ tt (fun n Γ => WpE K w n Γ ta t k) (fun n Γ => WpE K w n Γ tb t k)) : WpE K w n Γ (tIf tt ta tb) t k := fun σ B H ok Q c =>
  h σ B H ok _ (fun n1 Γ1 B1 H1 h1 e1 o1 => by
    show ta σ H1 Q
    exact h1 σ B1 H1 o1 Q fun x v n2 Γ2 B2 H2 h2 e2 o2 r => c x v n2 Γ2 B2 H2 h2 (e1.trans e2) o2 r) fun n1 Γ1 B1 H1 h1 e1 o1 => by
    show tb σ H1 Q
    exact h1 σ B1 H1 o1 Q fun x v n2 Γ2 B2 H2 h2 e2 o2 r => c x v n2 Γ2 B2 H2 h2 (e1.trans e2) o2 r
theorem wt_mono {kt' kf' : NK} (h : WpT K w n Γ tt kt kf) (m1 : ∀ n Γ, kt n Γ → kt' n Γ) (m2 : ∀ n Γ, kf n Γ → kf' n Γ) : WpT K w n Γ tt kt' kf' := fun σ B H ok Q ct cf =>
  h σ B H ok Q (fun n' Γ' B' H' a => ct n' Γ' B' H' (m1 _ _ a)) (fun n' Γ' B' H' a => cf n' Γ' B' H' (m2 _ _ a))
/-- truth of a list -/
theorem wt_truL {xs : List α} {t : Ty α} (h : WpE K w n Γ ta (tL t) (fun xs n Γ => (xs ≠ [] → kt n Γ) ∧ (xs = [] → kf n Γ))) : WpT K w n Γ (fun σ H Q => ta σ H fun x H' => ∃ k, TruV K x H' k ∧ Q k H') kt kf := fun σ B H ok Q ct cf =>
  h σ B H ok _ fun xs v n1 Γ1 B1 H1 ⟨h1, h2⟩ e o ⟨a, vs, hv, hs, hp⟩ => by
    subst hv
    refine ⟨!vs.isEmpty, .inl ⟨vs, SqL.of (o.ex _ _ hs), rfl⟩, ?_⟩
    cases hp with
    | nil => exact cf n1 Γ1 B1 H1 (h2 rfl) e o
    | cons _ _ => exact ct n1 Γ1 B1 H1 (h1 (by simp)) e o
end
end
end TL

/-! # TL: statements, loops -/
namespace TL
open PySem L2
open PySem.W (Frag)

section
variable (K : Frag) (w : Wd)
def WpS {ρ : Type} (n : Option Nat) (Γ : Env) (ts : TS) (res : ρ → Ent) (nx bk ct : NK) (rt : ρ → Option Nat → Prop) : Prop := ∀ σ B H, Ok K w n Γ σ B H → ∀ D : Ends,
  (∀ n' Γ' σ' B' H', nx n' Γ' → Ex B B' → Ok K w n' Γ' σ' B' H' → D.nx σ' H') →
  (∀ n' Γ' σ' B' H', bk n' Γ' → Ex B B' → Ok K w n' Γ' σ' B' H' → D.bk σ' H') →
  (∀ n' Γ' σ' B' H', ct n' Γ' → Ex B B' → Ok K w n' Γ' σ' B' H' → D.ct σ' H') →
  (∀ x v n' B' H', rt x n' → Ex B B' → Ok K w n' [] [] B' H' → SlotOk w B' H' (res x) (some (some v)) → D.rt v H') → ts D σ H
def WpG {α : Type} (n : Option Nat) (Γ : Env) (g : TG) (t : Ty α) (x : α) (k : NK) : Prop := ∀ σ B H, Ok K w n Γ σ B H → ∀ v, t.rep B v x → ∀ Q : L2.St → Hp → Prop,
  (∀ n' Γ' σ' B' H', k n' Γ' → Ex B B' → Ok K w n' Γ' σ' B' H' → Q σ' H') → g v σ H Q
/-- what is known may be weakened: forgotten, frozen -/
def View (n : Option Nat) (Γ : Env) (n' : Option Nat) (Γ' : Env) : Prop := ∀ σ B H, Ok K w n Γ σ B H → ∃ B', Ex B B' ∧ Ok K w n' Γ' σ B' H
/-- J walks the data xs -/
structure Iter {α : Type} (t : Ty α) (xs : List α) (J : It) (B : Hp) : Prop where
  stop : ∀ H1, Ex B H1 → J.stop xs.length H1
  go : ∀ i H1, Ex B H1 → i < xs.length → J.go i H1
  yld : ∀ i x H1 B1 v H', xs[i]? = some x → Ex B B1 → Ex B1 H1 → J.yld i H1 v H' → ∃ B2, Grow B1 H1 B2 H' ∧ t.rep B2 v x
def WpI {α : Type} (n : Option Nat) (Γ : Env) (wi : TI) (t : Ty α) (k : List α → NK) : Prop := ∀ σ B H, Ok K w n Γ σ B H → ∀ R : It → Hp → Prop,
  (∀ xs J n' Γ' B' H', k xs n' Γ' → Ex B B' → Ok K w n' Γ' σ B' H' → Iter t xs J B' → R J H') → wi σ H R
end

section
variable {K : Frag} {w : Wd} {n : Option Nat} {Γ : Env} {α β γ δ ρ : Type} {t : Ty α} {u : Ty β} {ta tb te : TE} {ts ts' : TS} {res : ρ → Ent} {nx bk ct : NK} {rt : ρ → Option Nat → Prop}
theorem Ok.nil {σ : L2.St} {B H : Hp} (h : Ok K w n Γ σ B H) : Ok K w n [] [] B H :=
  ⟨h.ex, h.ex0, h.nw, h.kp, h.hd, h.hh, h.pn, rfl, fun i e q => by simp at q, fun i j e e' a _ q => by simp at q⟩

theorem View.refl : View K w n Γ n Γ := fun σ B H ok => ⟨B, Ex.refl _, ok⟩
theorem View.trans {n1 n2 : Option Nat} {Γ1 Γ2 : Env} (a : View K w n Γ n1 Γ1) (b : View K w n1 Γ1 n2 Γ2) : View K w n Γ n2 Γ2 := fun σ B H ok => by
  obtain ⟨B1, e1, o1⟩ := a σ B H ok
  obtain ⟨B2, e2, o2⟩ := b σ B1 H o1
  exact ⟨B2, e1.trans e2, o2⟩
theorem View.drop (i : Nat) : View K w n Γ n (Γ.set i .no) := fun σ B H ok => ⟨B, Ex.refl _, ok.drop⟩
theorem View.le {a b : Nat} (h : a ≤ b) : View K w (some a) Γ (some b) Γ := fun σ B H ok => ⟨B, Ex.refl _, ok.le h⟩
theorem slot_same {σ : L2.St} {i : Nat} {v : Option V} (h : σ[i]? = some v) : σ.set i v = σ := by
  apply List.ext_getElem?
  intro j
  rw [List.getElem?_set]
  split
  · rename_i z; subst z
    split
    · exact h.symm
    · rename_i z; exact absurd (List.getElem?_eq_some_iff.mp h).1 z
  · rfl
theorem Ok.freezeL {σ : L2.St} {B H : Hp} {i : Nat} {xs : List α} (ok : Ok K w n Γ σ B H) (h : Γ[i]? = some (.ml t xs)) : ∃ B', Ex B B' ∧ Ok K w n (Γ.set i (.im (tL t) xs)) σ B' H := by
  obtain ⟨l, o, h1, h2⟩ := ok.sl i _ h
  obtain ⟨o', h3, ⟨vs, rfl, p⟩, e, ok'⟩ := ok.freeze h h1
  have rp : (tL t).rep (upd B l (.lst vs)) (.ref l) xs := ⟨l, vs, rfl, upd_same, pw_mono (fun _ _ => t.mono e) p⟩
  have ok2 := ok'.setIm (i := i) rp
  have e1 : (Γ.set i .no).set i (.im (tL t) xs) = Γ.set i (.im (tL t) xs) := by rw [List.set_set]
  rw [e1, slot_same h1] at ok2
  exact ⟨_, e, ok2⟩
theorem View.freezeL {i : Nat} {xs : List α} (h : Γ[i]? = some (.ml t xs)) : View K w n Γ n (Γ.set i (.im (tL t) xs)) := fun σ B H ok => ok.freezeL h

/-! ### statements -/
theorem ws_view {n' : Option Nat} {Γ' : Env} (v : View K w n Γ n' Γ') (h : WpS K w n' Γ' ts res nx bk ct rt) : WpS K w n Γ ts res nx bk ct rt := fun σ B H ok D a b c d => by
  obtain ⟨B1, e1, o1⟩ := v σ B H ok
  exact h σ B1 H o1 D (fun n' Γ' σ' B' H' q e => a n' Γ' σ' B' H' q (e1.trans e)) (fun n' Γ' σ' B' H' q e => b n' Γ' σ' B' H' q (e1.trans e)) (fun n' Γ' σ' B' H' q e => c n' Γ' σ' B' H' q (e1.trans e))
    (fun x v n' B' H' q e => d x v n' B' H' q (e1.trans e))
theorem ws_mono {nx' bk' ct' : NK} {rt' : ρ → Option Nat → Prop} (h : WpS K w n Γ ts res nx bk ct rt) (m1 : ∀ n Γ, nx n Γ → nx' n Γ) (m2 : ∀ n Γ, bk n Γ → bk' n Γ) (m3 : ∀ n Γ, ct n Γ → ct' n Γ) (m4 : ∀ x n, rt x n → rt' x n) : WpS K w n Γ ts res nx' bk' ct' rt' := fun σ B H ok D a b c d =>
  h σ B H ok D (fun n' Γ' σ' B' H' q => a n' Γ' σ' B' H' (m1 _ _ q)) (fun n' Γ' σ' B' H' q => b n' Γ' σ' B' H' (m2 _ _ q)) (fun n' Γ' σ' B' H' q => c n' Γ' σ' B' H' (m3 _ _ q)) (fun x v n' B' H' q => d x v n' B' H' (m4 _ _ q))
theorem ws_seq (h : WpS K w n Γ ts res (fun n Γ => WpS K w n Γ ts' res nx bk ct rt) bk ct rt) : WpS K w n Γ (tSeq ts ts') res nx bk ct rt := fun σ B H ok D a b c d =>
  h σ B H ok { D with nx := ts' D } (fun n1 Γ1 σ1 B1 H1 q e o => q σ1 B1 H1 o D (fun n' Γ' σ' B' H' q e' => a n' Γ' σ' B' H' q (e.trans e')) (fun n' Γ' σ' B' H' q e' => b n' Γ' σ' B' H' q (e.trans e'))
    (fun n' Γ' σ' B' H' q e' => c n' Γ' σ' B' H' q (e.trans e')) (fun x v n' B' H' q e' => d x v n' B' H' q (e.trans e'))) b c d
theorem ws_next (h : nx n Γ) : WpS K w n Γ tNext res nx bk ct rt := fun σ B H ok D a b c d => a n Γ σ B H h (Ex.refl _) ok
theorem ws_brk (h : bk n Γ) : WpS K w n Γ tBreak res nx bk ct rt := fun σ B H ok D a b c d => b n Γ σ B H h (Ex.refl _) ok
theorem ws_cont (h : ct n Γ) : WpS K w n Γ tCont res nx bk ct rt := fun σ B H ok D a b c d => c n Γ σ B H h (Ex.refl _) ok
theorem ws_set {i : Nat} (h : WpE K w n Γ te t (fun x n Γ => SetE (Γ.set i (.im t x)) (nx n))) : WpS K w n Γ (tAsg te (gName i)) res nx bk ct rt := fun σ B H ok D a b c d =>
  h σ B H ok _ fun x v n' Γ' B' H' q e o r => a n' _ _ B' H' q e (o.setIm r)
theorem ws_setM {i : Nat} (h : WpM K w n Γ te (fun r n Γ => SetE (Γ.set i (.mu r)) (nx n))) : WpS K w n Γ (tAsg te (gName i)) res nx bk ct rt := fun σ B H ok D a b c d =>
  h σ B H ok _ fun r l n' Γ' B' H' q e o ow => a n' _ _ B' H' q e (o.setMu ow)
theorem ws_ret {t : Ty ρ} (h : WpE K w n Γ te t (fun x n _ => rt x n)) : WpS K w n Γ (tRet te) (fun x => .im t x) nx bk ct rt := fun σ B H ok D a b c d =>
  h σ B H ok _ fun x v n' Γ' B' H' q e o r => d x v n' B' H' q e o.nil ⟨v, rfl, r⟩
/-- a new thing of one's own is handed back -/
theorem ws_retM {rs : ρ → Rs} (h : WpM K w n Γ te (fun r n _ => ∃ x, r = rs x ∧ rt x n)) : WpS K w n Γ (tRet te) (fun x => .mu (rs x)) nx bk ct rt := fun σ B H ok D a b c d =>
  h σ B H ok _ fun r l n' Γ' B' H' ⟨x, hx, q⟩ e o ow => by
    subst hx
    obtain ⟨⟨ob, h1, h2⟩, h3, h4, _⟩ := ow
    exact d x _ n' B' H' q e o.nil ⟨l, ob, rfl, h1, h3, h4, h2⟩
/-- one's own name is handed back -/
theorem ws_retV {rs : ρ → Rs} {i : Nat} {x : ρ} (h : Γ[i]? = some (.mu (rs x))) (q : rt x n) : WpS K w n Γ (tRet (tVar i)) (fun x => .mu (rs x)) nx bk ct rt := fun σ B H ok D a b c d => by
  obtain ⟨l, o, h1, h2⟩ := ok.sl i _ h
  exact ⟨.ref l, h1, d x _ n B H q (Ex.refl _) ok.nil ⟨l, o, rfl, h2⟩⟩
theorem ws_drop (h : WpE K w n Γ te t (fun _ n Γ => nx n Γ)) : WpS K w n Γ (tDrop te) res nx bk ct rt := fun σ B H ok D a b c d =>
  h σ B H ok _ fun x v n' Γ' B' H' q e o r => a n' _ _ B' H' q e o
theorem ws_if {tt : TT} (h : WpT K w n Γ tt (fun n Γ => WpS K w n Γ ts res nx bk ct rt) (fun n Γ => WpS K w n Γ ts' res nx bk ct rt)) : WpS K w n Γ (tIfS tt ts ts') res nx bk ct rt := fun σ B H ok D a b c d =>
  h σ B H ok _ (fun n1 Γ1 B1 H1 q e o => by
    show ts D σ H1
    exact q σ B1 H1 o D (fun n' Γ' σ' B' H' q e' => a n' Γ' σ' B' H' q (e.trans e')) (fun n' Γ' σ' B' H' q e' => b n' Γ' σ' B' H' q (e.trans e'))
      (fun n' Γ' σ' B' H' q e' => c n' Γ' σ' B' H' q (e.trans e')) (fun x v n' B' H' q e' => d x v n' B' H' q (e.trans e'))) fun n1 Γ1 B1 H1 q e o => by
    show ts' D σ H1
    exact q σ B1 H1 o D (fun n' Γ' σ' B' H' q e' => a n' Γ' σ' B' H' q (e.trans e')) (fun n' Γ' σ' B' H' q e' => b n' Γ' σ' B' H' q (e.trans e'))
      (fun n' Γ' σ' B' H' q e' => c n' Γ' σ' B' H' q (e.trans e')) (fun x v n' B' H' q e' => d x v n' B' H' q (e.trans e'))
/-- one word for what both ways leave -/
theorem ws_cut (P : NK) (h : WpS K w n Γ ts res P bk ct rt) (q : ∀ n Γ, P n Γ → nx n Γ) : WpS K w n Γ ts res nx bk ct rt := ws_mono h q (fun _ _ z => z) (fun _ _ z => z) (fun _ _ z => z)
theorem sz {n : Nat} (h : n ≤ 100000) : n ≤ sizeLine := Nat.le_trans h (by decide)
theorem szl {n : Nat} (h : n < 100000) : n < sizeLine := Nat.lt_of_lt_of_le h (by decide)
theorem ws_append {i : Nat} {xs : List α} (hi : Γ[i]? = some (.ml t xs)) (h : WpE K w n Γ te t (fun x n' Γ' => Γ'[i]? = some (.ml t xs) ∧ xs.length < 100000 ∧ SetE (Γ'.set i (.ml t (xs ++ [x]))) (nx n'))) :
    WpS K w n Γ (tDrop (tBM K "list" rAppend (tVar i) (tCons te tNil))) res nx bk ct rt := fun σ B H ok D a b c d => by
  obtain ⟨l, o, h1, h2, h3, h4, vs, rfl, p⟩ := ok.sl i _ hi
  refine ⟨.ref l, h1, .inl ⟨rfl, vs, .inl (.inl h2)⟩, h σ B H ok _ fun x v n' Γ' B' H' ⟨g, hz, q⟩ e o r => ?_⟩
  obtain ⟨l', o', k1, k2, k3, k4, vs', rfl, p'⟩ := o.sl i _ g
  rw [h1] at k1; cases k1
  refine ⟨l, vs', v, rfl, rfl, k2, by rw [pw_len p']; exact szl hz, a n' _ _ B' _ q e (o.put (r' := rL t (xs ++ [x])) g h1 ⟨vs' ++ [v], rfl, pw_snoc p' r⟩)⟩
theorem ixN_int {n : Nat} {j : Int} (h0 : 0 ≤ j) (hj : j < n) : ixN n j = some j.toNat := by
  unfold ixN
  rw [if_pos h0, if_pos hj]
/-- xs[j] = e -/
theorem ws_setIx {i : Nat} {r0 : Rs} {xs : List α} {ti : TE} (hi : Γ[i]? = some (.mu r0)) (h : WpE K w n Γ te t (fun x n Γ => WpE K w n Γ ti tI (fun j n Γ => Γ[i]? = some (.ml t xs) ∧ (0 ≤ j ∧ j < xs.length) ∧ SetE (Γ.set i (.ml t (xs.set j.toNat x))) (nx n)))) :
    WpS K w n Γ (tAsg te (gSub (tVar i) ti rSetL)) res nx bk ct rt := fun σ B H ok D a b c d => by
  obtain ⟨l, _, hl, _⟩ := ok.sl i _ hi
  refine h σ B H ok _ fun x v n1 Γ1 B1 H1 q1 e1 o1 r1 => ⟨.ref l, hl, ?_⟩
  refine q1 σ B1 H1 o1 _ fun j jv n2 Γ2 B2 H2 ⟨g, hj, q⟩ e2 o2 r2 => ?_
  obtain ⟨l', o', k1, k2, k3, k4, vs, rfl, p⟩ := o2.sl i _ g
  rw [hl] at k1; cases k1
  refine ⟨l, vs, j, j.toNat, rfl, r2, k2, ?_, a n2 _ _ B2 _ q (e1.trans e2) (o2.put (r' := rL t (xs.set j.toNat x)) g hl ⟨vs.set j.toNat v, rfl, pw_set (t.mono e2 r1) _ p⟩)⟩
  rw [pw_len p]
  exact ixN_int hj.1 hj.2

/-! ### targets -/
theorem wg_name {i : Nat} {x : α} {k : NK} (h : SetE (Γ.set i (.im t x)) (k n)) : WpG K w n Γ (gName i) t x k := fun σ B H ok v r Q q => q n _ _ B H h (Ex.refl _) (ok.setIm r)
theorem wg_pair {i j : Nat} {x : α × β} {k : NK} (h : SetE ((Γ.set i (.im t x.1)).set j (.im u x.2)) (k n)) : WpG K w n Γ (gTup K 2 (gCons (gName i) (gCons (gName j) gNil))) (tP t u) x k := fun σ B H ok v ⟨a, p, q, hv, hs, h1, h2⟩ Q c => by
  refine ⟨a, [p, q], hv, SqT.of (ok.ex _ _ hs), rfl, p, [q], rfl, q, [], rfl, rfl, ?_⟩
  exact c n _ _ B H h (Ex.refl _) ((ok.setIm h1).setIm h2)
theorem wg_trip {s : Ty γ} {i j l : Nat} {x : α × β × γ} {k : NK} (h : SetE (((Γ.set i (.im t x.1)).set j (.im u x.2.1)).set l (.im s x.2.2)) (k n)) :
    WpG K w n Γ (gTup K 3 (gCons (gName i) (gCons (gName j) (gCons (gName l) gNil)))) (tP3 t u s) x k := fun σ B H ok v ⟨a, p, q, z, hv, hs, h1, h2, h3⟩ Q c => by
  refine ⟨a, [p, q, z], hv, SqT.of (ok.ex _ _ hs), rfl, p, _, rfl, q, _, rfl, z, [], rfl, rfl, ?_⟩
  exact c n _ _ B H h (Ex.refl _) (((ok.setIm h1).setIm h2).setIm h3)
theorem wg_quad {s : Ty γ} {r : Ty δ} {i j l m : Nat} {x : α × β × γ × δ} {k : NK} (h : SetE ((((Γ.set i (.im t x.1)).set j (.im u x.2.1)).set l (.im s x.2.2.1)).set m (.im r x.2.2.2)) (k n)) :
    WpG K w n Γ (gTup K 4 (gCons (gName i) (gCons (gName j) (gCons (gName l) (gCons (gName m) gNil))))) (tP4 t u s r) x k := fun σ B H ok v ⟨a, p, q, z, y, hv, hs, h1, h2, h3, h4⟩ Q c => by
  refine ⟨a, [p, q, z, y], hv, SqT.of (ok.ex _ _ hs), rfl, p, _, rfl, q, _, rfl, z, _, rfl, y, [], rfl, rfl, ?_⟩
  exact c n _ _ B H h (Ex.refl _) ((((ok.setIm h1).setIm h2).setIm h3).setIm h4)
/-- an assignment to any target -/
theorem ws_asg {g : TG} (h : WpE K w n Γ te t (fun x n Γ => WpG K w n Γ g t x nx)) : WpS K w n Γ (tAsg te g) res nx bk ct rt := fun σ B H ok D a b c d =>
  h σ B H ok _ fun x v n' Γ' B' H' q e o r => q σ B' H' o v r _ fun n2 Γ2 σ2 B2 H2 q2 e2 o2 => a n2 Γ2 σ2 B2 H2 q2 (e.trans e2) o2

/-! ### what a for walks -/
theorem wi_range1 {ta : TE} {k : List Int → NK} (h : WpE K w n Γ ta tI (fun j n Γ => (-(2 ^ 62) ≤ j ∧ j < 2 ^ 62) ∧ k ((List.range j.toNat).map fun (i : Nat) => (i : Int)) n Γ)) : WpI K w n Γ (iRng1 (tCons ta tNil)) tI k := fun σ B H ok R c =>
  h σ B H ok _ fun j v n1 Γ1 B1 H1 ⟨hb, q⟩ e o r => by
    refine ⟨j, by rw [r], hb.1, hb.2, c _ _ n1 Γ1 B1 H1 q e o ⟨fun H1 _ => ?_, fun i H1 _ hi => ?_, fun i x H1 B1 v H' hx _ e2 hy => ?_⟩⟩
    · show j.toNat ≤ _
      simp
    · show i < j.toNat
      simpa using hi
    · obtain ⟨rfl, rfl⟩ := hy
      refine ⟨B1, Grow.refl e2, ?_⟩
      rw [List.getElem?_map] at hx
      cases z : (List.range j.toNat)[i]? with
      | none => rw [z] at hx; cases hx
      | some a =>
        rw [z] at hx
        have ha : a = i := by
          obtain ⟨q1, q2⟩ := List.getElem?_eq_some_iff.mp z
          rw [← q2]; simp
        cases hx
        show V.int _ = V.int _
        rw [ha]; simp
def rangeL (a b : Int) : List Int := (List.range (b - a).toNat).map fun (i : Nat) => a + (i : Int)
theorem wi_range2 {ta tb : TE} {k : List Int → NK} (h : WpE K w n Γ ta tI (fun a n Γ => WpE K w n Γ tb tI (fun b n Γ => (-(2 ^ 62) ≤ a ∧ a < 2 ^ 62 ∧ -(2 ^ 62) ≤ b ∧ b < 2 ^ 62) ∧ k (rangeL a b) n Γ))) : WpI K w n Γ (iRng2 (tCons ta (tCons tb tNil))) tI k := fun σ B H ok R c =>
  h σ B H ok _ fun a v n1 Γ1 B1 H1 q1 e1 o1 r1 => q1 σ B1 H1 o1 _ fun b v2 n2 Γ2 B2 H2 ⟨hb, q⟩ e2 o2 r2 => by
    refine ⟨a, b, by rw [r1, r2], hb, c _ _ n2 Γ2 B2 H2 q (e1.trans e2) o2 ⟨fun H1 _ => ?_, fun i H1 _ hi => ?_, fun i x H1 B1 v H' hx _ e2 hy => ?_⟩⟩
    · show (b - a).toNat ≤ _
      simp [rangeL]
    · show i < (b - a).toNat
      simpa [rangeL] using hi
    · obtain ⟨rfl, rfl⟩ := hy
      refine ⟨B1, Grow.refl e2, ?_⟩
      unfold rangeL at hx
      rw [List.getElem?_map] at hx
      cases z : (List.range (b - a).toNat)[i]? with
      | none => rw [z] at hx; cases hx
      | some c =>
        rw [z] at hx
        have ha : c = i := by
          obtain ⟨q1, q2⟩ := List.getElem?_eq_some_iff.mp z
          rw [← q2]; simp
        cases hx
        show V.int _ = V.int _
        rw [ha]
theorem iter_list {B : Hp} {a : Addr} {vs : List V} {xs : List α} (hs : SqL K B a vs) (p : Paired (t.rep B) vs xs) : Iter t xs (Itl K a) B :=
  ⟨fun H1 e => ⟨vs, e.l hs, by rw [pw_len p]; exact Nat.le_refl _⟩, fun i H1 e hi => by
    have hi' : i < vs.length := by rw [pw_len p]; exact hi
    exact ⟨vs, vs[i], e.l hs, by simp⟩, fun i x H1 B1 v H' hx e1 e2 hy => by
    obtain ⟨rfl, hy⟩ := hy
    obtain ⟨v', h1, h2⟩ := pw_getR p hx
    have := hy vs ((e1.trans e2).l hs)
    rw [this] at h1; cases h1
    exact ⟨B1, Grow.refl e2, t.mono e1 h2⟩⟩
theorem iter_tup {B : Hp} {a : Addr} {vs : List V} {xs : List α} (hs : SqT K B a vs) (p : Paired (t.rep B) vs xs) : Iter t xs (Itt K a) B :=
  ⟨fun H1 e => ⟨vs, e.t hs, by rw [pw_len p]; exact Nat.le_refl _⟩, fun i H1 e hi => by
    have hi' : i < vs.length := by rw [pw_len p]; exact hi
    exact ⟨vs, vs[i], e.t hs, by simp⟩, fun i x H1 B1 v H' hx e1 e2 hy => by
    obtain ⟨rfl, hy⟩ := hy
    obtain ⟨v', h1, h2⟩ := pw_getR p hx
    have := hy vs ((e1.trans e2).t hs)
    rw [this] at h1; cases h1
    exact ⟨B1, Grow.refl e2, t.mono e1 h2⟩⟩
/-- a list or a tuple -/
abbrev iSeq (K : Frag) (tl : TE) : TI := fun σ H R => iList K tl σ H R ∨ iTup K tl σ H R
theorem wi_list {k : List α → NK} (h : WpE K w n Γ ta (tL t) k) : WpI K w n Γ (iSeq K ta) t k := fun σ B H ok R c => .inl
  (h σ B H ok _ fun xs v n1 Γ1 B1 H1 q e o ⟨a, vs, hv, hs, p⟩ => ⟨a, hv, ⟨vs, SqL.of (o.ex _ _ hs)⟩, c xs _ n1 Γ1 B1 H1 q e o (iter_list (K := K) (SqL.of hs) p)⟩)
theorem wi_tup {k : List α → NK} (h : WpE K w n Γ ta (tU t) k) : WpI K w n Γ (iSeq K ta) t k := fun σ B H ok R c => .inr
  (h σ B H ok _ fun xs v n1 Γ1 B1 H1 q e o ⟨a, vs, hv, hs, p⟩ => ⟨a, hv, ⟨vs, SqT.of (o.ex _ _ hs)⟩, c xs _ n1 Γ1 B1 H1 q e o (iter_tup (K := K) (SqT.of hs) p)⟩)

/-! ### for -/
/-- a loop's three questions: the start, a turn, the end -/
structure For3 (a b c : Prop) : Prop where
  h0 : a
  hs : b
  he : c
/-- up to what may be forgotten -/
def Up (K : Frag) (w : Wd) (I : NK) : NK := fun n Γ => ∃ n0 Γ0, View K w n Γ n0 Γ0 ∧ I n0 Γ0
theorem Up.of {I : NK} (h : I n Γ) : Up K w I n Γ := ⟨n, Γ, View.refl, h⟩
theorem ws_for {wi : TI} {g : TG} (I : List α → Nat → NK)
    (h : WpI K w n Γ wi t (fun xs n Γ => For3 (Up K w (I xs 0) n Γ)
      (∀ (i : Nat) x n Γ, xs[i]? = some x → I xs i n Γ → WpG K w n Γ g t x (fun n Γ => WpS K w n Γ ts res (Up K w (I xs (i + 1))) nx (Up K w (I xs (i + 1))) rt)) (∀ n Γ, I xs xs.length n Γ → nx n Γ))) :
    WpS K w n Γ (tFor wi g ts) res nx bk ct rt := fun σ B H ok D a b c d =>
  h σ B H ok _ fun xs J n0 Γ0 B0 H0 ⟨hu, hs, he⟩ e0 o0 it => by
    refine ⟨fun i m σ H => m + i = xs.length ∧ ∃ n Γ B', I xs i n Γ ∧ Ex B0 B' ∧ Ok K w n Γ σ B' H, ?_, ?_⟩
    · obtain ⟨n1, Γ1, vw, hI⟩ := hu
      obtain ⟨B1, e1, o1⟩ := vw σ B0 H0 o0
      exact ⟨xs.length, rfl, n1, Γ1, B1, hI, e1, o1⟩
    · rintro i m σ1 H1 ⟨hm, n1, Γ1, B1, hI, e1, o1⟩
      by_cases hi : i < xs.length
      · refine .inr ⟨it.go i H1 (e1.trans o1.ex) hi, fun σ' H' => ∃ n Γ B', I xs (i + 1) n Γ ∧ Ex B0 B' ∧ Ok K w n Γ σ' B' H', ?_, ?_⟩
        · rintro σ' H' ⟨n2, Γ2, B2, h1, h2, h3⟩
          exact ⟨m - 1, by omega, by omega, n2, Γ2, B2, h1, h2, h3⟩
        · intro v H' hy
          obtain ⟨B2, gr, rp⟩ := it.yld i _ H1 B1 v H' (List.getElem?_eq_getElem hi) e1 o1.ex hy
          have o2 := o1.grow gr
          refine hs i _ n1 Γ1 (List.getElem?_eq_getElem hi) hI σ1 B2 H' o2 v rp _ fun n3 Γ3 σ3 B3 H3 q3 e3 o3 => ?_
          have eb : Ex B B3 := ((e0.trans e1).trans gr.b).trans e3
          refine q3 σ3 B3 H3 o3 _ (fun n4 Γ4 σ4 B4 H4 ⟨n5, Γ5, vw, hI5⟩ e4 o4 => ?_) (fun n4 Γ4 σ4 B4 H4 q4 e4 o4 => a n4 Γ4 σ4 B4 H4 q4 (eb.trans e4) o4) (fun n4 Γ4 σ4 B4 H4 ⟨n5, Γ5, vw, hI5⟩ e4 o4 => ?_)
            (fun x v n' B' H' q e' => d x v n' B' H' q (eb.trans e'))
          · obtain ⟨B5, e5, o5⟩ := vw σ4 B4 H4 o4
            exact ⟨n5, Γ5, B5, hI5, (((e1.trans gr.b).trans e3).trans e4).trans e5, o5⟩
          · obtain ⟨B5, e5, o5⟩ := vw σ4 B4 H4 o4
            exact ⟨n5, Γ5, B5, hI5, (((e1.trans gr.b).trans e3).trans e4).trans e5, o5⟩
      · have hi2 : i = xs.length := by omega
        subst hi2
        exact .inl ⟨it.stop H1 (e1.trans o1.ex), a n1 Γ1 σ1 B1 H1 (he n1 Γ1 hI) (e0.trans e1) o1⟩
theorem ws_while {tt : TT} (I : Nat → NK) (m : Nat) (h0 : Up K w (I m) n Γ)
    (hs : ∀ m n Γ, I m n Γ → WpT K w n Γ tt (fun n Γ => WpS K w n Γ ts res (fun n Γ => ∃ m', m' < m ∧ Up K w (I m') n Γ) nx (fun n Γ => ∃ m', m' < m ∧ Up K w (I m') n Γ) rt) nx) :
    WpS K w n Γ (tWhile tt ts) res nx bk ct rt := fun σ B H ok D a b c d => by
  refine ⟨fun m σ H => ∃ n Γ B', I m n Γ ∧ Ex B B' ∧ Ok K w n Γ σ B' H, ?_, ?_⟩
  · obtain ⟨n1, Γ1, vw, hI⟩ := h0
    obtain ⟨B1, e1, o1⟩ := vw σ B H ok
    exact ⟨m, n1, Γ1, B1, hI, e1, o1⟩
  · rintro m σ1 H1 ⟨n1, Γ1, B1, hI, e1, o1⟩
    refine hs m n1 Γ1 hI σ1 B1 H1 o1 _ (fun n2 Γ2 B2 H2 q2 e2 o2 => ?_) (fun n2 Γ2 B2 H2 q2 e2 o2 => ?_)
    · rw [if_pos rfl]
      refine ⟨fun σ' H' => ∃ m', m' < m ∧ ∃ n Γ B', I m' n Γ ∧ Ex B B' ∧ Ok K w n Γ σ' B' H', fun σ' H' ⟨m', h1, h2⟩ => ⟨m', h1, h2⟩, ?_⟩
      have eb : Ex B B2 := e1.trans e2
      refine q2 σ1 B2 H2 o2 _ (fun n4 Γ4 σ4 B4 H4 ⟨m', hm, n5, Γ5, vw, hI5⟩ e4 o4 => ?_) (fun n4 Γ4 σ4 B4 H4 q4 e4 o4 => a n4 Γ4 σ4 B4 H4 q4 (eb.trans e4) o4) (fun n4 Γ4 σ4 B4 H4 ⟨m', hm, n5, Γ5, vw, hI5⟩ e4 o4 => ?_)
        (fun x v n' B' H' q e' => d x v n' B' H' q (eb.trans e'))
      · obtain ⟨B5, e5, o5⟩ := vw σ4 B4 H4 o4
        exact ⟨m', hm, n5, Γ5, B5, hI5, (eb.trans e4).trans e5, o5⟩
      · obtain ⟨B5, e5, o5⟩ := vw σ4 B4 H4 o4
        exact ⟨m', hm, n5, Γ5, B5, hI5, (eb.trans e4).trans e5, o5⟩
    · rw [if_neg Bool.false_ne_true]
      exact a n2 Γ2 σ1 B2 H2 q2 (e1.trans e2) o2
end
end TL

/-! # TL: arguments, defs and their promises, the pen -/
namespace TL
open PySem L2
open PySem.W (Frag)

section
variable {K : Frag} {w : Wd} {n : Option Nat} {Γ : Env} {α β γ δ ρ A : Type} {t : Ty α} {u : Ty β} {ta tb te : TE} {ts ts' : TS} {res : ρ → Ent} {nx bk ct : NK} {rt : ρ → Option Nat → Prop}

/-! ### arguments -/
theorem wa_nil {k : Unit → NK} (h : k () n Γ) : WpA K w n Γ tNil aNil k := fun σ B H ok Q c => c () [] n Γ B H h (Ex.refl _) ok rfl
theorem wa_cons {r : TyA A} {tr : TA} {k : α × A → NK} (h : WpE K w n Γ te t (fun x n Γ => WpA K w n Γ tr r (fun a n Γ => k (x, a) n Γ))) : WpA K w n Γ (tCons te tr) (aCons t r) k := fun σ B H ok Q c =>
  h σ B H ok _ fun x v n1 Γ1 B1 H1 q1 e1 o1 r1 => q1 σ B1 H1 o1 _ fun a vs n2 Γ2 B2 H2 q2 e2 o2 r2 => c (x, a) (v :: vs) n2 Γ2 B2 H2 q2 (e1.trans e2) o2 ⟨v, vs, rfl, t.mono e2 r1, r2⟩
theorem wa_pen {i : Nat} {r : TyA A} {tr : TA} {k : A → NK} (hi : Γ[i]? = some .pen) (h : WpA K w n Γ tr r k) : WpA K w n Γ (tCons (tVar i) tr) (aPen r) k := fun σ B H ok Q c => by
  have hs : σ[i]? = some (some (.ref w.d)) := ok.sl i _ hi
  exact ⟨_, hs, h σ B H ok _ fun a vs n2 Γ2 B2 H2 q2 e2 o2 r2 => c a (.ref w.d :: vs) n2 Γ2 B2 H2 q2 e2 o2 ⟨vs, rfl, r2⟩⟩
/-- one datum as the only argument of a built-in -/
theorem we_cb1 {r : List V → Hp → VK → Prop} {k : β → NK} (f : α → β) (C : α → Prop) (hr : ∀ B x a H Q, t.rep B x a → Ex B H → C a → (∀ v, u.rep B v (f a) → Q v H) → r [x] H Q) (h : WpE K w n Γ ta t (fun a n Γ => C a ∧ k (f a) n Γ)) :
    WpE K w n Γ (tCB r (tCons ta tNil)) u k := fun σ B H ok Q c =>
  h σ B H ok _ fun a x n1 Γ1 B1 H1 ⟨hc, q⟩ e o r1 => hr B1 x a H1 Q r1 o.ex hc fun v rv => c _ v n1 Γ1 B1 H1 q e o rv
theorem we_cb2 {r : List V → Hp → VK → Prop} {s : Ty δ} {k : δ → NK} (f : α → β → δ) (C : α → β → Prop) (hr : ∀ B x y a b H Q, t.rep B x a → u.rep B y b → Ex B H → C a b → (∀ v, s.rep B v (f a b) → Q v H) → r [x, y] H Q)
    (h : WpE K w n Γ ta t (fun a n Γ => WpE K w n Γ tb u (fun b n Γ => C a b ∧ k (f a b) n Γ))) : WpE K w n Γ (tCB r (tCons ta (tCons tb tNil))) s k := fun σ B H ok Q c =>
  h σ B H ok _ fun a x n1 Γ1 B1 H1 q1 e1 o1 r1 => q1 σ B1 H1 o1 _ fun b y n2 Γ2 B2 H2 ⟨hc, q⟩ e2 o2 r2 => hr B2 x y a b H2 Q (t.mono e2 r1) r2 o2.ex hc fun v rv => c _ v n2 Γ2 B2 H2 q (e1.trans e2) o2 rv

/-! ### what a def promises -/
structure FS (K : Frag) where
  A : Type
  args : TyA A
  ρ : Type
  res : ρ → Ent
  cost : Nat
  pre : A → Prop
  post : A → ρ → Prop
/-- n draws before, n' behind -/
def Costs (c : Nat) (n n' : Option Nat) : Prop := (c = 0 ∧ n' = n) ∨ ∃ m, n = some m ∧ n' = some (m + c)
/-- within the promised draws -/
def CLe (c : Nat) (n n' : Option Nat) : Prop := (c = 0 ∧ n' = n) ∨ ∃ m m', n = some m ∧ n' = some m' ∧ m' ≤ m + c
def May (c : Nat) (n : Option Nat) : Prop := c = 0 ∨ ∃ m, n = some m ∧ m + c ≤ 2 ^ 60
def FS.sp (S : FS K) : Sp := fun vs H Q _ => ∃ (d ca : Addr) (cs : List Int) (n : Option Nat) (B : Hp) (a : S.A), Ok K ⟨d, ca, cs, B, H⟩ n [] [] B H ∧ S.args.rep d B vs a ∧ S.pre a ∧ May S.cost n ∧
  ∀ x v n' B' H', S.post a x → Costs S.cost n n' → Ex B B' → Ok K ⟨d, ca, cs, B, H⟩ n' [] [] B' H' → SlotOk ⟨d, ca, cs, B, H⟩ B' H' (S.res x) (some (some v)) → Q v H'
/-- from the callee's end to the caller's -/
theorem Ok.back {n' : Option Nat} {σ : L2.St} {B H B' H' : Hp} (h : Ok K w n Γ σ B H) (c : Ok K ⟨w.d, w.ca, w.cs, B, H⟩ n' [] [] B' H') : Ok K w n' Γ σ B' H' := by
  have nwd : ∀ a o, B' a = some o → B a = some o ∨ H a = none := c.nw
  have neq : ∀ l, w.H0 l = none → l ≠ w.d := fun l e z => noS e (z ▸ h.hd)
  refine ⟨c.ex, h.ex0.trans c.ex0, fun a o q => ?_, fun a o q ne => c.kp a o (h.kp a o q ne) ne, h.hd, c.hh, fun m q => (c.pn m q).cast rfl rfl rfl, h.ln, fun i e q => ?_, h.ds⟩
  · rcases nwd a o q with z | z
    · exact h.nw a o z
    · have cc : a ≠ w.d := fun cc => noS z (cc ▸ h.hh)
      right
      cases e : w.H0 a with
      | none => rfl
      | some u => rw [h.kp a u e cc] at z; cases z
  · have s := h.sl i e q
    refine s.keep c.ex0 rfl fun a ha => ?_
    obtain ⟨o, h1, h2, h3⟩ := s.owned ha
    refine ⟨by rw [h1]; exact c.kp a o h1 (neq a h3), ?_, h3⟩
    cases q : B' a with
    | none => rfl
    | some u =>
      rcases nwd a u q with z | z
      · rw [h2] at z; cases z
      · rw [h1] at z; cases z
theorem Ok.entry {σ : L2.St} {B H : Hp} (h : Ok K w n Γ σ B H) : Ok K ⟨w.d, w.ca, w.cs, B, H⟩ n [] [] B H :=
  ⟨h.ex, Ex.refl _, fun a o q => .inl q, fun a o q _ => q, h.hh, h.hh, fun m q => (h.pn m q).cast rfl rfl rfl, rfl, fun i e q => by simp at q, fun i j e e' a _ q => by simp at q⟩
/-- a call that gives a datum -/
theorem we_call {S : FS K} {E : XK} {ta : TA} {t : Ty S.ρ} {k : S.ρ → NK} (hres : S.res = fun x => .im t x)
    (h : WpA K w n Γ ta S.args (fun a n Γ => S.pre a ∧ May S.cost n ∧ ∀ x n', S.post a x → Costs S.cost n n' → k x n' Γ)) : WpE K w n Γ (tCall S.sp [] E ta) t k := fun σ B H ok Q c =>
  h σ B H ok _ fun a vs n1 Γ1 B1 H1 ⟨hp, hm, q⟩ e o r => by
    rw [List.append_nil]
    refine ⟨w.d, w.ca, w.cs, n1, B1, a, o.entry, r, hp, hm, fun x v n' B' H' hx hc e' o' s => ?_⟩
    rw [hres] at s
    obtain ⟨v', h1, h2⟩ := s
    cases h1
    exact c x v n' Γ1 B' H' (q x n' hx hc) (e.trans e') (o.back o') h2
/-- a call that gives a new thing of one's own -/
theorem wm_call {S : FS K} {E : XK} {ta : TA} {rs : S.ρ → Rs} {k : Rs → NK} (hres : S.res = fun x => .mu (rs x))
    (h : WpA K w n Γ ta S.args (fun a n Γ => S.pre a ∧ May S.cost n ∧ ∀ x n', S.post a x → Costs S.cost n n' → k (rs x) n' Γ)) : WpM K w n Γ (tCall S.sp [] E ta) k := fun σ B H ok Q c =>
  h σ B H ok _ fun a vs n1 Γ1 B1 H1 ⟨hp, hm, q⟩ e o r => by
    rw [List.append_nil]
    refine ⟨w.d, w.ca, w.cs, n1, B1, a, o.entry, r, hp, hm, fun x v n' B' H' hx hc e' o' s => ?_⟩
    rw [hres] at s
    obtain ⟨l, ob, h1, h2, h3, h4, h5⟩ := s
    cases h1
    refine c (rs x) l n' Γ1 B' H' (q x n' hx hc) (e.trans e') (o.back o') ⟨⟨ob, h2, h5⟩, h3, ?_, fun i r' hi z => ?_⟩
    · cases q : w.H0 l with
      | none => rfl
      | some u =>
        have h4' : H1 l = none := h4
        have ne : l ≠ w.d := fun z => noS h4' (z ▸ o.hh)
        rw [o.kp l u q ne] at h4'; cases h4'
    · obtain ⟨o', k2, _⟩ := (o.sl i _ hi).owned z
      have h4' : H1 l = none := h4
      rw [h4'] at k2; cases k2
/-- new things that are used as data -/
theorem we_ofM {xs : List α → Prop} {k : List α → NK} (h : WpM K w n Γ te (fun r n Γ => ∃ ys, r = rL t ys ∧ k ys n Γ)) : WpE K w n Γ te (tL t) k := fun σ B H ok Q c =>
  h σ B H ok _ fun r l n' Γ' B' H' ⟨ys, hr, q⟩ e o ow => by
    subst hr
    have ow' := ow
    obtain ⟨⟨ob, h1, vs, rfl, p⟩, h3, h4, df⟩ := ow'
    have eb : Ex B' (upd B' l (.lst vs)) := Ex.new h3
    have ned : l ≠ w.d := ow.ned o
    refine c ys _ n' Γ' (upd B' l (.lst vs)) H' q (e.trans eb) ?_ ⟨l, vs, rfl, upd_same, pw_mono (fun _ _ => t.mono eb) p⟩
    refine o.frz eb (fun a u q => ?_) rfl fun j e' q => .inr ⟨q, fun a ha => ?_⟩
    · by_cases z : a = l
      · subst z; rw [upd_same] at q; cases q; exact .inr ⟨h1, h4⟩
      · rw [upd_ne z] at q; exact .inl q
    · have ne : a ≠ l := fun zz => df j e' q (by rw [← zz]; exact ha)
      obtain ⟨_, _, hb, _⟩ := (o.sl j e' q).owned ha
      rw [upd_ne ne]; exact hb

/-! ### a def's body -/
/-- the parameters' entries -/
class Ents {A : Type} (T : TyA A) where
  len : Nat
  ents : A → Env
  ok : ∀ {d : Addr} {B : Hp} {vs : List V} {a : A}, T.rep d B vs a → (ents a).length = vs.length ∧ vs.length = len ∧ ∀ (H : Hp) (w : Wd), w.d = d → ∀ (i : Nat) e, (ents a)[i]? = some e → (∀ s a, ¬ e.owns s a) ∧ SlotOk w B H e (vs.map some)[i]?
instance : Ents aNil := ⟨0, fun _ => [], fun {d B vs a} h => by cases h; exact ⟨rfl, rfl, fun H w _ i e q => by simp at q⟩⟩
instance {α A : Type} {t : Ty α} {r : TyA A} [E : Ents r] : Ents (aCons t r) := ⟨E.len + 1, fun a => .im t a.1 :: E.ents a.2, fun {d B vs a} h => by
  obtain ⟨v, us, rfl, h1, h2⟩ := h
  obtain ⟨q1, q2, q3⟩ := E.ok h2
  refine ⟨by simp [q1], by simp [q2], fun H w hw i e q => ?_⟩
  cases i with
  | zero =>
    simp at q; subst q
    exact ⟨fun _ _ z => z, v, by simp, h1⟩
  | succ i => exact q3 H w hw i e (by simpa using q)⟩
instance {A : Type} {r : TyA A} [E : Ents r] : Ents (aPen r) := ⟨E.len + 1, fun a => .pen :: E.ents a, fun {d B vs a} h => by
  obtain ⟨us, rfl, h2⟩ := h
  obtain ⟨q1, q2, q3⟩ := E.ok h2
  refine ⟨by simp [q1], by simp [q2], fun H w hw i e q => ?_⟩
  cases i with
  | zero =>
    simp at q; subst q
    refine ⟨fun _ _ z => z, ?_⟩
    show _ = _
    rw [hw]; simp
  | succ i => exact q3 H w hw i e (by simpa using q)⟩
theorem fs_len {S : FS K} [E : Ents S.args] {vs : List V} {H : Hp} {Q : VK} {X : XK} (h : S.sp vs H Q X) : vs.length = E.len := by
  obtain ⟨d, ca, cs, n, B, a, _, r, _⟩ := h
  exact (E.ok r).2.1
/-- the body keeps the promise -/
theorem fs_body {S : FS K} [E : Ents S.args] {N : List Str} {vs : List V} {H : Hp} {Q : VK} {X : XK} {t : TS} (hN : E.len ≤ N.length) (hsp : S.sp vs H Q X)
    (body : ∀ (w : Wd) (n : Option Nat) (a : S.A), S.pre a → May S.cost n → WpS K w n (E.ents a ++ List.replicate (N.length - E.len) .no) t S.res
      (fun n' _ => ∃ x, S.post a x ∧ S.res x = .im tN () ∧ CLe S.cost n n') (fun _ _ => False) (fun _ _ => False) (fun x n' => S.post a x ∧ CLe S.cost n n')) :
    t { nx := fun _ H' => Q .non H', rt := Q } (L2.start N vs) H := by
  obtain ⟨d, ca, cs, n, B, a, o, r, hp, hm, q⟩ := hsp
  obtain ⟨l1, l2, l3⟩ := E.ok r
  have ok0 : Ok K ⟨d, ca, cs, B, H⟩ n (E.ents a ++ List.replicate (N.length - E.len) .no) (L2.start N vs) B H := by
    have noown : ∀ (i : Nat) e, (E.ents a ++ List.replicate (N.length - E.len) Ent.no)[i]? = some e → ∀ s a, ¬ e.owns s a := fun i e z => by
      by_cases hi : i < (E.ents a).length
      · rw [List.getElem?_append_left hi] at z
        exact (l3 H ⟨d, ca, cs, B, H⟩ rfl i _ z).1
      · rw [List.getElem?_append_right (by omega), List.getElem?_replicate] at z
        split at z
        · cases z; exact fun _ _ y => y
        · cases z
    refine ⟨o.ex, o.ex0, o.nw, o.kp, o.hd, o.hh, o.pn, ?_, fun i e z => ?_, fun i j e e' a _ z _ oi => absurd oi (noown i e z _ a)⟩
    · unfold L2.start; simp [l1, l2]
    · by_cases hi : i < (E.ents a).length
      · rw [List.getElem?_append_left hi] at z
        have := (l3 H ⟨d, ca, cs, B, H⟩ rfl i _ z).2
        unfold L2.start
        rw [List.getElem?_append_left (by simpa [← l1] using hi)]
        exact this
      · rw [List.getElem?_append_right (by omega), List.getElem?_replicate] at z
        split at z
        · cases z; trivial
        · cases z
  have fin : ∀ {n' : Option Nat} {B' H' : Hp}, CLe S.cost n n' → Ok K ⟨d, ca, cs, B, H⟩ n' [] [] B' H' → ∃ n2, Costs S.cost n n2 ∧ Ok K ⟨d, ca, cs, B, H⟩ n2 [] [] B' H' := fun {n' B' H'} c o1 => by
    rcases c with ⟨c0, rfl⟩ | ⟨m, m', rfl, rfl, hle⟩
    · exact ⟨n', .inl ⟨c0, rfl⟩, o1⟩
    · exact ⟨some (m + S.cost), .inr ⟨m, rfl, rfl⟩, o1.le hle⟩
  refine body ⟨d, ca, cs, B, H⟩ n a hp hm (L2.start N vs) B H ok0 _ (fun n' Γ' σ' B' H' ⟨x, hx, hr, hc⟩ e o' => ?_) (fun _ _ _ _ _ h _ _ => h.elim) (fun _ _ _ _ _ h _ _ => h.elim) (fun x v n' B' H' ⟨hx, hc⟩ e o' s => ?_)
  · obtain ⟨n2, c2, o2⟩ := fin hc o'.nil
    exact q x .non n2 B' H' hx c2 e o2 (by rw [hr]; exact ⟨.non, rfl, rfl⟩)
  · obtain ⟨n2, c2, o2⟩ := fin hc o'
    exact q x v n2 B' H' hx c2 e o2 s
end
end TL

/-! # TL: lists, tuples, comprehensions, dicts -/
namespace TL
open PySem L2
open PySem.W (Frag)

section
variable {X : Cx}
theorem peOr {e : Expr} {a b : TE} (h1 : PE X e a) (h2 : PE X e b) : PE X e (fun σ H Q => a σ H Q ∨ b σ H Q) := ⟨fun pins s σ H Q I h => by
  rcases h with h | h
  · exact h1.run pins s σ H Q I h
  · exact h2.run pins s σ H Q I h⟩
theorem ptOr {e : Expr} {a b : TT} (h1 : PT X e a) (h2 : PT X e b) : PT X e (fun σ H Q => a σ H Q ∨ b σ H Q) := ⟨fun pins s σ H Q I h => by
  rcases h with h | h
  · exact h1.run pins s σ H Q I h
  · exact h2.run pins s σ H Q I h⟩
theorem psOr {e : Stmt} {a b : TS} (h1 : PS X e a) (h2 : PS X e b) : PS X e (fun D σ H => a D σ H ∨ b D σ H) := ⟨fun pins s σ H D I h => by
  rcases h with h | h
  · exact h1.run pins s σ H D I h
  · exact h2.run pins s σ H D I h⟩
end

section
variable {K : Frag} {w : Wd} {n : Option Nat} {Γ : Env} {α β γ δ ρ A : Type} {t : Ty α} {u : Ty β} {ta tb te : TE} {ts ts' : TS} {res : ρ → Ent} {nx bk ct : NK} {rt : ρ → Option Nat → Prop}

/-! ### displays -/
/-- data of one kind, one behind another -/
def aAll (t : Ty α) : TyA (List α) := ⟨fun _ B vs xs => Paired (t.rep B) vs xs, fun e p => pw_mono (fun _ _ => t.mono e) p⟩
theorem wal_nil {k : List α → NK} (h : k [] n Γ) : WpA K w n Γ tNil (aAll t) k := fun σ B H ok Q c => c [] [] n Γ B H h (Ex.refl _) ok .nil
theorem wal_cons {tr : TA} {k : List α → NK} (h : WpE K w n Γ te t (fun x n Γ => WpA K w n Γ tr (aAll t) (fun a n Γ => k (x :: a) n Γ))) : WpA K w n Γ (tCons te tr) (aAll t) k := fun σ B H ok Q c =>
  h σ B H ok _ fun x v n1 Γ1 B1 H1 q1 e1 o1 r1 => q1 σ B1 H1 o1 _ fun a vs n2 Γ2 B2 H2 q2 e2 o2 r2 => c (x :: a) (v :: vs) n2 Γ2 B2 H2 q2 (e1.trans e2) o2 (.cons (t.mono e2 r1) r2)
theorem wm_lst {ta : TA} {k : Rs → NK} (h : WpA K w n Γ ta (aAll t) (fun xs n Γ => xs.length ≤ 100000 ∧ k (rL t xs) n Γ)) : WpM K w n Γ (tLst ta) k := fun σ B H ok Q c =>
  h σ B H ok _ fun xs vs n1 Γ1 B1 H1 ⟨hz, q⟩ e o r => ⟨by rw [pw_len r]; exact sz hz, fun p hp => by
    have g := Grow.open (o := .lst vs) o.ex hp
    exact c _ p n1 Γ1 B1 _ q e (o.grow g) (Own.new o hp ⟨vs, rfl, r⟩)⟩
/-- a new tuple -/
theorem we_tupN {ta : TA} {T : TyA A} {s : Ty A} {k : A → NK} (hs : ∀ d B vs a p, T.rep d B vs a → B p = none → s.rep (upd B p (.tup vs)) (.ref p) a) (hl : ∀ d B vs a, T.rep d B vs a → vs.length ≤ 100000) (h : WpA K w n Γ ta T k) : WpE K w n Γ (tTup ta) s k := fun σ B H ok Q c =>
  h σ B H ok _ fun a vs n1 Γ1 B1 H1 q e o r => ⟨sz (hl _ _ _ _ r), fun p hp => by
    have g := Grow.new (o := .tup vs) o.ex hp
    exact c a _ n1 Γ1 _ _ q (e.trans g.b) (o.grow g) (hs _ _ _ _ p r (o.ex.none hp))⟩
theorem we_tup2 {ta tb : TE} {k : α × β → NK} (h : WpE K w n Γ ta t (fun x n Γ => WpE K w n Γ tb u (fun y n Γ => k (x, y) n Γ))) : WpE K w n Γ (tTup (tCons ta (tCons tb tNil))) (tP t u) k :=
  we_tupN (A := α × β) (T := ⟨fun d B vs a => ∃ v v', vs = [v, v'] ∧ t.rep B v a.1 ∧ u.rep B v' a.2, fun e ⟨v, v', h, h1, h2⟩ => ⟨v, v', h, t.mono e h1, u.mono e h2⟩⟩)
    (fun d B vs a p ⟨v, v', h, h1, h2⟩ hp => by subst h; exact ⟨p, v, v', rfl, upd_same, t.mono (Ex.new hp) h1, u.mono (Ex.new hp) h2⟩) (fun d B vs a ⟨v, v', h, _⟩ => by subst h; exact (by decide : 2 ≤ 100000))
    (fun σ B H ok Q c => h σ B H ok _ fun x v n1 Γ1 B1 H1 q1 e1 o1 r1 => q1 σ B1 H1 o1 _ fun y v' n2 Γ2 B2 H2 q2 e2 o2 r2 => c (x, y) _ n2 Γ2 B2 H2 q2 (e1.trans e2) o2 ⟨v, v', rfl, t.mono e2 r1, r2⟩)
theorem we_tup3 {tc : TE} {s : Ty γ} {ta tb : TE} {k : α × β × γ → NK} (h : WpE K w n Γ ta t (fun x n Γ => WpE K w n Γ tb u (fun y n Γ => WpE K w n Γ tc s (fun z n Γ => k (x, y, z) n Γ)))) : WpE K w n Γ (tTup (tCons ta (tCons tb (tCons tc tNil)))) (tP3 t u s) k :=
  we_tupN (A := α × β × γ) (T := ⟨fun d B vs a => ∃ v v' v2, vs = [v, v', v2] ∧ t.rep B v a.1 ∧ u.rep B v' a.2.1 ∧ s.rep B v2 a.2.2, fun e ⟨v, v', v2, h, h1, h2, h3⟩ => ⟨v, v', v2, h, t.mono e h1, u.mono e h2, s.mono e h3⟩⟩)
    (fun d B vs a p ⟨v, v', v2, h, h1, h2, h3⟩ hp => by subst h; exact ⟨p, v, v', v2, rfl, upd_same, t.mono (Ex.new hp) h1, u.mono (Ex.new hp) h2, s.mono (Ex.new hp) h3⟩) (fun d B vs a ⟨v, v', v2, h, _⟩ => by subst h; exact (by decide : 3 ≤ 100000))
    (fun σ B H ok Q c => h σ B H ok _ fun x v n1 Γ1 B1 H1 q1 e1 o1 r1 => q1 σ B1 H1 o1 _ fun y v' n2 Γ2 B2 H2 q2 e2 o2 r2 => q2 σ B2 H2 o2 _ fun z v2 n3 Γ3 B3 H3 q3 e3 o3 r3 =>
      c (x, y, z) _ n3 Γ3 B3 H3 q3 ((e1.trans e2).trans e3) o3 ⟨v, v', v2, rfl, t.mono (e2.trans e3) r1, u.mono e3 r2, r3⟩)
theorem we_tupU {ta : TA} {k : List α → NK} (h : WpA K w n Γ ta (aAll t) (fun xs n Γ => xs.length ≤ 100000 ∧ k xs n Γ)) : WpE K w n Γ (tTup ta) (tU t) k := fun σ B H ok Q c =>
  h σ B H ok _ fun a vs n1 Γ1 B1 H1 ⟨hz, q⟩ e o r => ⟨by rw [pw_len r]; exact sz hz, fun p hp => by
    have g := Grow.new (o := .tup vs) o.ex hp
    exact c a _ n1 Γ1 _ _ q (e.trans g.b) (o.grow g) ⟨p, vs, rfl, upd_same, pw_mono (fun _ _ => t.mono g.b) r⟩⟩

/-! ### list(x), tuple(x), +, *, slices -/
theorem wm_list {s : Ty (List α)} (hs : ∀ {B v xs}, s.rep B v xs → ∃ a vs, v = .ref a ∧ (SqL K B a vs ∨ SqT K B a vs) ∧ Paired (t.rep B) vs xs) {k : Rs → NK} (h : WpE K w n Γ ta s (fun xs n Γ => k (rL t xs) n Γ)) : WpM K w n Γ (tCB (rListU K) (tCons ta tNil)) k := fun σ B H ok Q c =>
  h σ B H ok _ fun xs v n1 Γ1 B1 H1 q e o r => by
    obtain ⟨a, vs, rfl, hl, p⟩ := hs r
    refine ⟨a, vs, rfl, ?_, fun l hl => ?_⟩
    · rcases hl with hl | hl
      · exact .inl (o.ex.l hl)
      · exact .inr (o.ex.t hl)
    · exact c _ l n1 Γ1 B1 _ q e (o.grow (Grow.open o.ex hl)) (Own.new o hl ⟨vs, rfl, p⟩)
theorem wm_listL {k : Rs → NK} (h : WpE K w n Γ ta (tL t) (fun xs n Γ => k (rL t xs) n Γ)) : WpM K w n Γ (tCB (rListU K) (tCons ta tNil)) k := wm_list (t := t) (s := tL t) (fun ⟨a, vs, h, s, p⟩ => ⟨a, vs, h, .inl (SqL.of s), p⟩) h
theorem wm_listU {k : Rs → NK} (h : WpE K w n Γ ta (tU t) (fun xs n Γ => k (rL t xs) n Γ)) : WpM K w n Γ (tCB (rListU K) (tCons ta tNil)) k := wm_list (t := t) (s := tU t) (fun ⟨a, vs, h, s, p⟩ => ⟨a, vs, h, .inr (SqT.of s), p⟩) h
theorem we_tupleL {k : List α → NK} (h : WpE K w n Γ ta (tL t) k) : WpE K w n Γ (tCB (rTupleU K) (tCons ta tNil)) (tU t) k := fun σ B H ok Q c =>
  h σ B H ok _ fun xs v n1 Γ1 B1 H1 q e o ⟨a, vs, hv, hs, p⟩ => by
    subst hv
    refine ⟨a, vs, rfl, .inl ⟨SqL.of (o.ex _ _ hs), fun l hl => ?_⟩⟩
    have g := Grow.new (o := .tup vs) o.ex hl
    exact c xs _ n1 Γ1 _ _ q (e.trans g.b) (o.grow g) ⟨l, vs, rfl, upd_same, pw_mono (fun _ _ => t.mono g.b) p⟩
theorem we_tupleU {k : List α → NK} (h : WpE K w n Γ ta (tU t) k) : WpE K w n Γ (tCB (rTupleU K) (tCons ta tNil)) (tU t) k := fun σ B H ok Q c =>
  h σ B H ok _ fun xs v n1 Γ1 B1 H1 q e o ⟨a, vs, hv, hs, p⟩ => by
    subst hv
    exact ⟨a, vs, rfl, .inr ⟨SqT.of (o.ex _ _ hs), c xs _ n1 Γ1 _ _ q e o ⟨a, vs, rfl, hs, p⟩⟩⟩
theorem wm_cat {k : Rs → NK} (h : WpE K w n Γ ta (tL t) (fun xs n Γ => WpE K w n Γ tb (tL t) (fun ys n Γ => xs.length + ys.length ≤ 100000 ∧ k (rL t (xs ++ ys)) n Γ))) : WpM K w n Γ (tOp rAddU ta tb) k := fun σ B H ok Q c =>
  h σ B H ok _ fun xs v n1 Γ1 B1 H1 q1 e1 o1 ⟨a, vs, hv, hs, p⟩ => q1 σ B1 H1 o1 _ fun ys v2 n2 Γ2 B2 H2 ⟨hz, q⟩ e2 o2 ⟨a2, vs2, hv2, hs2, p2⟩ => by
    subst hv; subst hv2
    refine .inr (.inr ⟨a, a2, vs, vs2, rfl, rfl, o2.ex _ _ (e2 _ _ hs), o2.ex _ _ hs2, by rw [pw_len p, pw_len p2]; exact sz hz, fun l hl => ?_⟩)
    exact c _ l n2 Γ2 B2 _ q (e1.trans e2) (o2.grow (Grow.open o2.ex hl)) (Own.new o2 hl ⟨vs ++ vs2, rfl, pw_app (pw_mono (fun _ _ => t.mono e2) p) p2⟩)
theorem pw_flat {F : α → β → Prop} {l : List α} {m : List β} (p : Paired F l m) : ∀ j, Paired F (List.replicate j l).flatten (List.replicate j m).flatten
  | 0 => .nil
  | j + 1 => by rw [List.replicate_succ, List.replicate_succ, List.flatten_cons, List.flatten_cons]; exact pw_app p (pw_flat p j)
theorem wm_rep {k : Rs → NK} (h : WpE K w n Γ ta (tL t) (fun xs n Γ => WpE K w n Γ tb tI (fun j n Γ => (-(2 ^ 63) ≤ j ∧ j < 2 ^ 63 ∧ xs.length * j.toNat ≤ 100000) ∧ k (rL t (List.replicate j.toNat xs).flatten) n Γ))) : WpM K w n Γ (tOp rMulU ta tb) k := fun σ B H ok Q c =>
  h σ B H ok _ fun xs v n1 Γ1 B1 H1 q1 e1 o1 ⟨a, vs, hv, hs, p⟩ => q1 σ B1 H1 o1 _ fun j v2 n2 Γ2 B2 H2 ⟨hz, q⟩ e2 o2 r2 => by
    subst hv
    refine .inr (.inr ⟨a, j, vs, rfl, r2, o2.ex _ _ (e2 _ _ hs), hz.1, hz.2.1, by rw [pw_len p]; exact sz hz.2.2, fun l hl => ?_⟩)
    exact c _ l n2 Γ2 B2 _ q (e1.trans e2) (o2.grow (Grow.open o2.ex hl)) (Own.new o2 hl ⟨_, rfl, pw_flat (pw_mono (fun _ _ => t.mono e2) p) _⟩)
/-- [e] * n -/
theorem flat_one {x : α} (j : Nat) : (List.replicate j [x]).flatten = List.replicate j x := by
  induction j with
  | zero => rfl
  | succ j ih => rw [List.replicate_succ, List.flatten_cons, ih, List.replicate_succ]; rfl
/-- slices' ends -/
def WpO (K : Frag) (w : Wd) (n : Option Nat) (Γ : Env) (to : TO) (k : Option Int → NK) : Prop := ∀ σ B H, Ok K w n Γ σ B H → ∀ Q : Option Int → Hp → Prop, (∀ x n' Γ' B' H', k x n' Γ' → Ex B B' → Ok K w n' Γ' σ B' H' → Q x H') → to σ H Q
theorem wo_none {k : Option Int → NK} (h : k none n Γ) : WpO K w n Γ tNoPart k := fun σ B H ok Q c => c none n Γ B H h (Ex.refl _) ok
theorem wo_some {k : Option Int → NK} (h : WpE K w n Γ te tI (fun i n Γ => k (some i) n Γ)) : WpO K w n Γ (tPart te) k := fun σ B H ok Q c => h σ B H ok _ fun i v n1 Γ1 B1 H1 q e o r => ⟨i, r, c _ n1 Γ1 B1 H1 q e o⟩
def cutL (xs : List α) (lo hi : Option Int) : List α := (xs.drop (HT.sIx xs.length 0 lo)).take (HT.sIx xs.length xs.length hi - HT.sIx xs.length 0 lo)
theorem wm_slice {tl th : TO} {s : Ty (List α)} (hs : ∀ {B v xs}, s.rep B v xs → ∃ a vs, v = .ref a ∧ SqL K B a vs ∧ Paired (t.rep B) vs xs) {k : Rs → NK}
    (h : WpE K w n Γ te s (fun xs n Γ => WpO K w n Γ tl (fun lo n Γ => WpO K w n Γ th (fun hi n Γ => k (rL t (cutL xs lo hi)) n Γ)))) : WpM K w n Γ (tSl (rSlL K) te tl th) k := fun σ B H ok Q c =>
  h σ B H ok _ fun xs v n1 Γ1 B1 H1 q1 e1 o1 r => q1 σ B1 H1 o1 _ fun lo n2 Γ2 B2 H2 q2 e2 o2 => q2 σ B2 H2 o2 _ fun hi n3 Γ3 B3 H3 q e3 o3 => by
    obtain ⟨a, vs, rfl, hl, p⟩ := hs (s.mono (e2.trans e3) r)
    refine ⟨a, vs, rfl, o3.ex.l hl, fun l hn => ?_⟩
    refine c _ l n3 Γ3 B3 _ q ((e1.trans e2).trans e3) (o3.grow (Grow.open o3.ex hn)) (Own.new o3 hn ⟨_, rfl, ?_⟩)
    unfold cutV cutL
    rw [pw_len p]
    exact pw_take _ (pw_drop _ p)
theorem wm_sliceL {tl th : TO} {k : Rs → NK} (h : WpE K w n Γ te (tL t) (fun xs n Γ => WpO K w n Γ tl (fun lo n Γ => WpO K w n Γ th (fun hi n Γ => k (rL t (cutL xs lo hi)) n Γ)))) : WpM K w n Γ (tSl (rSlL K) te tl th) k := wm_slice (t := t) (s := tL t) (fun ⟨a, vs, h, s, p⟩ => ⟨a, vs, h, SqL.of s, p⟩) h

/-! ### items, len -/
theorem we_ixS {s : Ty (List α)} (hs : ∀ {B v xs}, s.rep B v xs → ∃ a vs, v = .ref a ∧ (SqL K B a vs ∨ SqT K B a vs) ∧ Paired (t.rep B) vs xs) {k : α → NK}
    (h : WpE K w n Γ ta s (fun xs n Γ => WpE K w n Γ tb tI (fun i n Γ => ∃ x, atI xs i = some x ∧ k x n Γ))) : WpE K w n Γ (tOp (rIx K) ta tb) t k := fun σ B H ok Q c =>
  h σ B H ok _ fun xs v n1 Γ1 B1 H1 q1 e1 o1 r1 => q1 σ B1 H1 o1 _ fun i v2 n2 Γ2 B2 H2 ⟨x, hx, q⟩ e2 o2 r2 => by
    obtain ⟨a, vs, rfl, hl, p⟩ := hs (s.mono e2 r1)
    have hv : ∃ y, atI vs i = some y ∧ t.rep B2 y x := by
      unfold atI at hx ⊢
      rw [pw_len p]
      cases z : ixN xs.length i with
      | none => rw [z] at hx; cases hx
      | some j =>
        rw [z] at hx
        exact pw_getR p hx
    obtain ⟨y, hy, ry⟩ := hv
    rcases hl with hl | hl
    · exact .inl ⟨a, vs, i, y, rfl, r2, o2.ex.l hl, hy, c x y n2 Γ2 B2 H2 q (e1.trans e2) o2 ry⟩
    · exact .inr (.inl ⟨a, vs, i, y, rfl, r2, o2.ex.t hl, hy, c x y n2 Γ2 B2 H2 q (e1.trans e2) o2 ry⟩)
theorem we_ixL {k : α → NK} (h : WpE K w n Γ ta (tL t) (fun xs n Γ => WpE K w n Γ tb tI (fun i n Γ => ∃ x, atI xs i = some x ∧ k x n Γ))) : WpE K w n Γ (tOp (rIx K) ta tb) t k :=
  we_ixS (s := tL t) (fun ⟨a, vs, h, s, p⟩ => ⟨a, vs, h, .inl (SqL.of s), p⟩) h
theorem we_ixU {k : α → NK} (h : WpE K w n Γ ta (tU t) (fun xs n Γ => WpE K w n Γ tb tI (fun i n Γ => ∃ x, atI xs i = some x ∧ k x n Γ))) : WpE K w n Γ (tOp (rIx K) ta tb) t k :=
  we_ixS (s := tU t) (fun ⟨a, vs, h, s, p⟩ => ⟨a, vs, h, .inr (SqT.of s), p⟩) h
theorem atI_int {xs : List α} {i : Int} (h0 : 0 ≤ i) (h : i.toNat < xs.length) : atI xs i = some xs[i.toNat] := by
  unfold atI
  rw [ixN_int h0 (by omega)]
  simp
theorem we_len {s : Ty α} {f : α → Nat} (hs : ∀ {B v x H}, s.rep B v x → Ex B H → LenV K v H (f x)) {k : Int → NK} (h : WpE K w n Γ ta s (fun x n Γ => k (f x : Int) n Γ)) : WpE K w n Γ (tCB (rLenU K) (tCons ta tNil)) tI k := fun σ B H ok Q c =>
  h σ B H ok _ fun x v n1 Γ1 B1 H1 q e o r => ⟨v, f x, rfl, hs r o.ex, c _ _ n1 Γ1 B1 H1 q e o rfl⟩
theorem we_lenL {k : Int → NK} (h : WpE K w n Γ ta (tL t) (fun xs n Γ => k (xs.length : Int) n Γ)) : WpE K w n Γ (tCB (rLenU K) (tCons ta tNil)) tI k :=
  we_len (s := tL t) (fun ⟨a, vs, h, s, p⟩ e => by subst h; exact .inl ⟨vs, SqL.of (e _ _ s), (pw_len p).symm⟩) h
theorem we_lenU {k : Int → NK} (h : WpE K w n Γ ta (tU t) (fun xs n Γ => k (xs.length : Int) n Γ)) : WpE K w n Γ (tCB (rLenU K) (tCons ta tNil)) tI k :=
  we_len (s := tU t) (fun ⟨a, vs, h, s, p⟩ e => by subst h; exact .inr ⟨vs, SqT.of (e _ _ s), (pw_len p).symm⟩) h
theorem we_lenLs {k : Int → NK} (h : WpE K w n Γ ta (tLs K t) (fun xs n Γ => k (xs.length : Int) n Γ)) : WpE K w n Γ (tCB (rLenU K) (tCons ta tNil)) tI k :=
  we_len (s := tLs K t) (fun ⟨a, vs, h, s, p⟩ e => by subst h; exact .inl ⟨vs, e.l s, (pw_len p).symm⟩) h
theorem we_intc {k : Int → NK} (h : WpE K w n Γ ta tI k) : WpE K w n Γ (tCB rIntU (tCons ta tNil)) tI k := fun σ B H ok Q c =>
  h σ B H ok _ fun x v n1 Γ1 B1 H1 q e o r => .inl ⟨x, by rw [r], c _ _ n1 Γ1 B1 H1 q e o rfl⟩
theorem we_min {k : Int → NK} (h : WpE K w n Γ ta tI (fun a n Γ => WpE K w n Γ tb tI (fun b n Γ => k (if b < a then b else a) n Γ))) : WpE K w n Γ (tCB rMinU (tCons ta (tCons tb tNil))) tI k :=
  we_cb2 (fun a b => if b < a then b else a) (fun _ _ => True) (fun B x y a b H Q h1 h2 e _ q => ⟨a, b, by rw [h1, h2], q _ rfl⟩) (we_mono h fun _ _ _ q => we_mono q fun _ _ _ z => ⟨trivial, z⟩)
theorem we_max {k : Int → NK} (h : WpE K w n Γ ta tI (fun a n Γ => WpE K w n Γ tb tI (fun b n Γ => k (if b > a then b else a) n Γ))) : WpE K w n Γ (tCB rMaxU (tCons ta (tCons tb tNil))) tI k :=
  we_cb2 (fun a b => if b > a then b else a) (fun _ _ => True) (fun B x y a b H Q h1 h2 e _ q => ⟨a, b, by rw [h1, h2], q _ rfl⟩) (we_mono h fun _ _ _ q => we_mono q fun _ _ _ z => ⟨trivial, z⟩)
theorem we_sum {k : Int → NK} (h : WpE K w n Γ ta (tL tI) (fun xs n Γ => k xs.sum n Γ)) : WpE K w n Γ (tCB (rSum K) (tCons ta tNil)) tI k := fun σ B H ok Q c =>
  h σ B H ok _ fun xs v n1 Γ1 B1 H1 q e o ⟨a, vs, hv, hs, p⟩ => ⟨a, xs, by rw [hv], by rw [← pw_intEq p]; exact SqL.of (o.ex _ _ hs), c _ _ n1 Γ1 B1 H1 q e o rfl⟩
/-- isinstance(x, T), the answer known by the kind -/
theorem we_isi {T : String} {b : Bool} {tn : String} (ht : ∀ {B v x H}, t.rep B v x → Ex B H → TyX K H v (.type tn)) (hb : kitB tn T = some b) {k : Bool → NK} (h : WpE K w n Γ ta t (fun x n Γ => k b n Γ)) : WpE K w n Γ (tCB (rIsi K) (tCons ta (tCons (tC (.ty T)) tNil))) tBo k := fun σ B H ok Q c =>
  h σ B H ok _ fun x v n1 Γ1 B1 H1 q e o r => ⟨v, .ty T, .type tn, .type T, b, rfl, .ty T, ht r o.ex, kit_ty hb, c _ _ n1 Γ1 B1 H1 q e o rfl⟩
theorem tyI {B : Hp} {v : V} {x : Int} {H : Hp} (h : tI.rep B v x) (_ : Ex B H) : TyX K H v (.type "int") := by cases h; exact .base (.int _)
theorem tyB {B : Hp} {v : V} {x : Bool} {H : Hp} (h : tBo.rep B v x) (_ : Ex B H) : TyX K H v (.type "bool") := by cases h; exact .base (.bl _)
theorem tyS {B : Hp} {v : V} {x : Str} {H : Hp} (h : tS.rep B v x) (_ : Ex B H) : TyX K H v (.type "str") := by cases h; exact .base (.str _)
theorem tyN {B : Hp} {v : V} {x : Unit} {H : Hp} (h : tN.rep B v x) (_ : Ex B H) : TyX K H v (.type "NoneType") := by cases h; exact .base .non
theorem tyL {B : Hp} {v : V} {x : List α} {H : Hp} (h : (tL t).rep B v x) (e : Ex B H) : TyX K H v (.type "list") := by obtain ⟨a, vs, rfl, s, _⟩ := h; exact .base (.lst (e _ _ s))
theorem tyU {B : Hp} {v : V} {x : List α} {H : Hp} (h : (tU t).rep B v x) (e : Ex B H) : TyX K H v (.type "tuple") := by obtain ⟨a, vs, rfl, s, _⟩ := h; exact .base (.tup (e _ _ s))
end
end TL

/-! # TL: comprehensions, dicts -/
namespace TL
open PySem L2
open PySem.W (Frag)

section
variable {K : Frag} {w : Wd} {n : Option Nat} {Γ : Env} {α β γ δ ρ A : Type} {t : Ty α} {u : Ty β} {ta tb te : TE} {ts ts' : TS} {res : ρ → Ent} {nx bk ct : NK} {rt : ρ → Option Nat → Prop}

/-! ### comprehensions -/
def Ent.hide : Ent → Ent
  | .mu _ => .no
  | .al _ => .no
  | .mm _ _ _ => .no
  | e => e
/-- within a comprehension: its own names are wiped, what is one's own is not touched -/
def hideE (Γ : Env) : List Nat → Env
  | [] => Γ.map Ent.hide
  | v :: vs => (hideE Γ vs).set v .no
theorem hideE_length (Γ : Env) : ∀ vs, (hideE Γ vs).length = Γ.length
  | [] => by simp [hideE]
  | v :: vs => by simp [hideE, hideE_length Γ vs]
theorem hideE_get (Γ : Env) : ∀ (vs : List Nat) (i : Nat) e, (hideE Γ vs)[i]? = some e → e = .no ∨ (i ∉ vs ∧ ∃ e0, Γ[i]? = some e0 ∧ e = e0.hide)
  | [], i, e, h => by
    unfold hideE at h
    rw [List.getElem?_map] at h
    cases q : Γ[i]? with
    | none => rw [q] at h; cases h
    | some e0 => rw [q] at h; cases h; exact .inr ⟨by simp, e0, rfl, rfl⟩
  | v :: vs, i, e, h => by
    unfold hideE at h
    rw [List.getElem?_set] at h
    by_cases z : v = i
    · subst z
      rw [if_pos rfl] at h
      split at h
      · cases h; exact .inl rfl
      · cases h
    · rw [if_neg z] at h
      rcases hideE_get Γ vs i e h with q | ⟨q, r⟩
      · exact .inl q
      · exact .inr ⟨by simp [q, Ne.symm z], r⟩
theorem wipe_get {σ : L2.St} {i : Nat} : ∀ {vs : List Nat}, i ∉ vs → (wipe σ vs)[i]? = σ[i]?
  | [], _ => rfl
  | v :: vs, h => by
    unfold wipe
    have h1 : v ≠ i := fun z => h (by simp [z])
    rw [List.getElem?_set, if_neg h1]
    exact wipe_get fun z => h (by simp [z])
/-- the element is walked in a world of its own, in which all that stands is the caller's -/
theorem Ok.inner {σ : L2.St} {B H : Hp} (h : Ok K w n Γ σ B H) (vs : List Nat) : Ok K ⟨w.d, w.ca, w.cs, B, H⟩ n (hideE Γ vs) (wipe σ vs) B H := by
  refine ⟨h.ex, Ex.refl _, fun a o q => .inl q, fun a o q _ => q, h.hh, h.hh, fun m q => (h.pn m q).cast rfl rfl rfl, by rw [hideE_length, wipe_length]; exact h.ln, fun i e q => ?_, fun i j e e' a _ q _ oi => ?_⟩
  · rcases hideE_get Γ vs i e q with rfl | ⟨hi, e0, h0, rfl⟩
    · trivial
    · have s := h.sl i e0 h0
      cases e0 with
      | no => trivial
      | mu r => trivial
      | al a => trivial
      | mm t as xss => trivial
      | im t x => obtain ⟨v, h1, h2⟩ := s; exact ⟨v, (wipe_get hi).trans h1, h2⟩
      | pen => exact (wipe_get hi).trans s
  · rcases hideE_get Γ vs i _ q with rfl | ⟨_, e0, _, rfl⟩
    · exact False.elim oi
    · cases e0 <;> exact False.elim oi
/-- a target that stores into the slots vs alone -/
def GSl (g : TG) (vs : List Nat) : Prop := ∀ v σ H (Q : L2.St → Hp → Prop), g v σ H Q → g v σ H (fun σ' H' => wipe σ' vs = wipe σ vs ∧ Q σ' H')
theorem wipe_set {i : Nat} {x : Option V} : ∀ {vs : List Nat} {σ : L2.St}, i ∈ vs → wipe (σ.set i x) vs = wipe σ vs
  | [], _, h => by simp at h
  | v :: vs, σ, h => by
    unfold wipe
    by_cases z : i ∈ vs
    · rw [wipe_set z]
    · have e : v = i := by
        rcases List.mem_cons.mp h with q | q
        · exact q.symm
        · exact absurd q z
      subst e
      have com : ∀ (us : List Nat) (τ : L2.St), v ∉ us → wipe (τ.set v x) us = (wipe τ us).set v x := fun us => by
        induction us with
        | nil => intro τ _; rfl
        | cons a us ih =>
          intro τ hv
          have h1 : v ≠ a := fun q => hv (by simp [q])
          have h2 : v ∉ us := fun q => hv (by simp [q])
          unfold wipe
          rw [ih τ h2, List.set_comm _ _ (Ne.symm h1)]
      rw [com vs σ z, List.set_set]
theorem gsl_name {i : Nat} {vs : List Nat} (h : i ∈ vs) : GSl (gName i) vs := fun v σ H Q q => ⟨wipe_set h, q⟩
theorem gsl_nil {vs : List Nat} : ∀ (v : List V) σ H (Q : L2.St → Hp → Prop), gNil v σ H Q → gNil v σ H (fun σ' H' => wipe σ' vs = wipe σ vs ∧ Q σ' H') := fun v σ H Q ⟨a, b⟩ => ⟨a, rfl, b⟩
theorem gsl_cons {g : TG} {r : TGs} {vs : List Nat} (h : GSl g vs) (hr : ∀ (v : List V) σ H (Q : L2.St → Hp → Prop), r v σ H Q → r v σ H (fun σ' H' => wipe σ' vs = wipe σ vs ∧ Q σ' H')) (hm : ∀ v σ H (Q Q' : L2.St → Hp → Prop), (∀ σ' H', Q σ' H' → Q' σ' H') → g v σ H Q → g v σ H Q') :
    ∀ (v : List V) σ H (Q : L2.St → Hp → Prop), gCons g r v σ H Q → gCons g r v σ H (fun σ' H' => wipe σ' vs = wipe σ vs ∧ Q σ' H') := fun v σ H Q ⟨x, us, e, q⟩ => by
  refine ⟨x, us, e, hm _ _ _ _ _ (fun σ' H' ⟨h1, h2⟩ => ?_) (h x σ H _ q)⟩
  have := hr us σ' H' Q h2
  rw [h1] at this
  exact this
theorem gm_name {i : Nat} : ∀ v σ H (Q Q' : L2.St → Hp → Prop), (∀ σ' H', Q σ' H' → Q' σ' H') → gName i v σ H Q → gName i v σ H Q' := fun v σ H Q Q' m q => m _ _ q
theorem gsl_pair {i j : Nat} {vs : List Nat} (hi : i ∈ vs) (hj : j ∈ vs) {N : Nat} : GSl (gTup K N (gCons (gName i) (gCons (gName j) gNil))) vs := fun v σ H Q ⟨a, xs, h1, h2, h3, q⟩ =>
  ⟨a, xs, h1, h2, h3, gsl_cons (gsl_name hi) (gsl_cons (gsl_name hj) gsl_nil gm_name) gm_name xs σ H Q q⟩
theorem gsl_trip {i j l : Nat} {vs : List Nat} (hi : i ∈ vs) (hj : j ∈ vs) (hl : l ∈ vs) {N : Nat} : GSl (gTup K N (gCons (gName i) (gCons (gName j) (gCons (gName l) gNil)))) vs := fun v σ H Q ⟨a, xs, h1, h2, h3, q⟩ =>
  ⟨a, xs, h1, h2, h3, gsl_cons (gsl_name hi) (gsl_cons (gsl_name hj) (gsl_cons (gsl_name hl) gsl_nil gm_name) gm_name) gm_name xs σ H Q q⟩
theorem gsl_quad {i j l m : Nat} {vs : List Nat} (hi : i ∈ vs) (hj : j ∈ vs) (hl : l ∈ vs) (hm : m ∈ vs) {N : Nat} : GSl (gTup K N (gCons (gName i) (gCons (gName j) (gCons (gName l) (gCons (gName m) gNil))))) vs := fun v σ H Q ⟨a, xs, h1, h2, h3, q⟩ =>
  ⟨a, xs, h1, h2, h3, gsl_cons (gsl_name hi) (gsl_cons (gsl_name hj) (gsl_cons (gsl_name hl) (gsl_cons (gsl_name hm) gsl_nil gm_name) gm_name) gm_name) gm_name xs σ H Q q⟩
theorem wt_yes {kt kf : NK} (h : kt n Γ) : WpT K w n Γ tYes kt kf := fun σ B H ok Q ct cf => ct n Γ B H h (Ex.refl _) ok
theorem wm_lc {wi : TI} {g : TG} {tt : TT} {vs : List Nat} {kk : Rs → NK} (u : Ty β) (I : List α → Nat → List β → Option Nat → Prop) (hg : GSl g vs)
    (h : WpI K w n Γ wi t (fun xs n Γ => For3 (I xs 0 [] n) (∀ (w' : Wd) (i : Nat) x ys n, w'.d = w.d → w'.ca = w.ca → w'.cs = w.cs → xs[i]? = some x → I xs i ys n →
      SetE (hideE Γ vs) fun Γh => WpG K w' n Γh g t x (fun n Γ => WpT K w' n Γ tt (fun n Γ => WpE K w' n Γ te u (fun y n _ => ys.length < 100000 ∧ I xs (i + 1) (ys ++ [y]) n)) (fun n _ => I xs (i + 1) ys n)))
      (∀ ys n, I xs xs.length ys n → kk (rL u ys) n Γ))) : WpM K w n Γ (tLc wi g tt te vs) kk := fun σ B H ok Q c =>
  h σ B H ok _ fun xs J n0 Γ0 B0 H0 ⟨hu, hs, he⟩ e0 o0 it => by
    intro D hD
    refine ⟨fun i m H => m + i = xs.length ∧ ∃ ys n B1 acc, I xs i ys n ∧ Ex B0 B1 ∧ Ok K w n Γ0 σ B1 H ∧ Own w Γ0 σ B1 H (rL u ys) D ∧ H D = some (.lst acc) ∧ Paired (u.rep B1) acc ys, ?_, ?_⟩
    · exact ⟨xs.length, rfl, [], n0, B0, [], hu, Ex.refl _, o0.grow (Grow.open o0.ex hD), Own.new o0 hD ⟨[], rfl, .nil⟩, upd_same, .nil⟩
    · rintro i m H1 ⟨hm, ys, n1, B1, acc, hI, e1, o1, ow1, hacc, pacc⟩
      by_cases hi : i < xs.length
      · refine .inr ⟨it.go i H1 (e1.trans o1.ex) hi, fun H' => ∃ ys n B1 acc, I xs (i + 1) ys n ∧ Ex B0 B1 ∧ Ok K w n Γ0 σ B1 H' ∧ Own w Γ0 σ B1 H' (rL u ys) D ∧ H' D = some (.lst acc) ∧ Paired (u.rep B1) acc ys, ?_, ?_⟩
        · rintro H' hN
          exact ⟨m - 1, by omega, by omega, hN⟩
        · intro v H' hy
          obtain ⟨B2, gr, rp⟩ := it.yld i _ H1 B1 v H' (List.getElem?_eq_getElem hi) e1 o1.ex hy
          have o2 := o1.grow gr
          have ow2 := ow1.grow gr
          have hD2 : H' D = some (.lst acc) := gr.h _ _ hacc
          have ned : D ≠ w.d := ow2.ned o2
          -- behind the element: the list stands as it stood
          have back : ∀ {n' B' H''}, Ok K ⟨w.d, w.ca, w.cs, B2, H'⟩ n' [] [] B' H'' → Ok K w n' Γ0 σ B' H'' ∧ H'' D = some (.lst acc) ∧ B' D = none := fun {n' B' H''} o => by
            refine ⟨o2.back o, o.kp D _ hD2 ned, ?_⟩
            cases q : B' D with
            | none => rfl
            | some z =>
              rcases o.nw D z q with r | r
              · have r' : B2 D = some z := r
                rw [ow2.b] at r'; cases r'
              · have r' : H' D = none := r
                rw [hD2] at r'; cases r'
          have key := hs ⟨w.d, w.ca, w.cs, B2, H'⟩ i _ ys n1 rfl rfl rfl (List.getElem?_eq_getElem hi) hI (wipe σ vs) B2 H' (o2.inner vs) v rp _ fun n3 Γ3 σ3 B3 H3 q3 e3 o3 => q3 σ3 B3 H3 o3 (fun b H3 =>
              if b = true then te σ3 H3 fun y H4 => ∃ acc, H4 D = some (.lst acc) ∧ acc.length < sizeLine ∧ ∃ ys n B1 acc', I xs (i + 1) ys n ∧ Ex B0 B1 ∧ Ok K w n Γ0 σ B1 (upd H4 D (.lst (acc ++ [y]))) ∧ Own w Γ0 σ B1 (upd H4 D (.lst (acc ++ [y]))) (rL u ys) D ∧ (upd H4 D (.lst (acc ++ [y]))) D = some (.lst acc') ∧ Paired (u.rep B1) acc' ys
              else ∃ ys n B1 acc, I xs (i + 1) ys n ∧ Ex B0 B1 ∧ Ok K w n Γ0 σ B1 H3 ∧ Own w Γ0 σ B1 H3 (rL u ys) D ∧ H3 D = some (.lst acc) ∧ Paired (u.rep B1) acc ys)
            (fun n4 Γ4 B4 H4 q4 e4 o4 => by
              rw [if_pos rfl]
              refine q4 σ3 B4 H4 o4 _ fun y yv n5 Γ5 B5 H5 ⟨hz, hI5⟩ e5 o5 ry => ?_
              obtain ⟨ok5, hd5, bd5⟩ := back o5.nil
              have ex25 : Ex B2 B5 := (e3.trans e4).trans e5
              have pr : Paired (u.rep B5) (acc ++ [yv]) (ys ++ [y]) := pw_snoc (pw_mono (fun _ _ => u.mono (gr.b.trans ex25)) pacc) ry
              have ow5 : Own w Γ0 σ B5 H5 (rL u ys) D := ⟨⟨_, hd5, acc, rfl, pw_mono (fun _ _ => u.mono (gr.b.trans ex25)) pacc⟩, bd5, ow1.h0, ow1.df⟩
              refine ⟨acc, hd5, by rw [pw_len pacc]; exact szl hz, ys ++ [y], n5, B5, acc ++ [yv], hI5, (e1.trans gr.b).trans ex25, ?_, ?_, upd_same, pr⟩
              · -- the list is not among the names': it may change
                exact ok5.chg bd5 ow1.h0 rfl (fun j e q => .inr ⟨q, ow1.df j e q⟩) (fun x e q => .inr ⟨e, q, fun a ha => ha⟩)
              · exact ⟨⟨_, upd_same, acc ++ [yv], rfl, pr⟩, bd5, ow1.h0, ow1.df⟩) (fun n4 Γ4 B4 H4 q4 e4 o4 => by
              rw [if_neg Bool.false_ne_true]
              obtain ⟨ok5, hd5, bd5⟩ := back o4.nil
              have ex25 : Ex B2 B4 := e3.trans e4
              have pr : Paired (u.rep B4) acc ys := pw_mono (fun _ _ => u.mono (gr.b.trans ex25)) pacc
              exact ⟨ys, n4, B4, acc, q4, (e1.trans gr.b).trans ex25, ok5, ⟨⟨_, hd5, acc, rfl, pr⟩, bd5, ow1.h0, ow1.df⟩, hd5, pr⟩)
          have key2 := hg v (wipe σ vs) H' _ key
          have ww : wipe (wipe σ vs) vs = wipe σ vs := by
            have gen : ∀ (us : List Nat) (τ : L2.St), (∀ i ∈ us, ∀ x, τ[i]? = some x → x = none) → wipe τ us = τ := fun us => by
              induction us with
              | nil => intro τ _; rfl
              | cons a us ih =>
                intro τ hτ
                unfold wipe
                rw [ih τ fun i hi => hτ i (by simp [hi])]
                apply List.ext_getElem?
                intro j
                rw [List.getElem?_set]
                split
                · rename_i z; subst z
                  split
                  · rename_i z
                    have := hτ a (by simp) τ[a] (List.getElem?_eq_getElem z)
                    rw [List.getElem?_eq_getElem z, this]
                  · rename_i z; exact (List.getElem?_eq_none_iff.mpr (by omega)).symm
                · rfl
            refine gen vs _ fun i hi x hx => ?_
            cases x with
            | none => rfl
            | some y => exact absurd hi (wipe_some hx).2
          rw [ww] at key2
          exact key2
      · have hi2 : i = xs.length := by omega
        subst hi2
        exact .inl ⟨it.stop H1 (e1.trans o1.ex), c _ D n1 Γ0 B1 H1 (he ys n1 hI) (e0.trans e1) o1 ow1⟩
end
end TL

/-! # TL: calls by name; dicts; the pen -/
namespace TL
open PySem L2
open PySem.W (Frag)

/-- a def of the text, by its promise -/
structure Callee (P : Program) (w : World) (K : Frag) (mg : Str → Option Value) (base : Heap) (CX : CXT) (k : Nat) (x : Str) (ps : List Str) (sp : Sp) : Prop where
  ex : ∃ f fd, mg x = some (.ref f) ∧ PySem.W.keepIn K (.ref f) = true ∧ FnOk P w K mg base CX k f fd ps sp ∧ Binds K fd ps []
theorem Callee.mk' {P : Program} {w : World} {K : Frag} {mg : Str → Option Value} {base : Heap} {CX : CXT} {k : Nat} {x : Str} {ps : List Str} {sp : Sp} {f : Addr} {fd : FuncData} (h1 : mg x = some (.ref f)) (h2 : PySem.W.keepIn K (.ref f) = true) (h3 : FnOk P w K mg base CX k f fd ps sp) (h4 : Binds K fd ps []) :
    Callee P w K mg base CX k x ps sp := ⟨f, fd, h1, h2, h3, h4⟩
section
variable {X : Cx} {k : Nat} {x : Str} {ps : List Str} {sp : Sp} {p pos : Pos} {e : Expr} {es : List Expr} {t : TA}
theorem pe_callC (c : Callee X.prog X.w X.K X.mg X.base CX0 k x ps sp) (hr : Room k X.A) (hg : Gl X x) (ha : PA X (e :: es) t) (hdb : (x == ("__debug__" : Str)) = false := by decide) (he : starEach (e :: es) X.env = (false, eval e X.env) :: starEach es X.env := by rfl) (hpl : (backTo pos (starEach es X.env)).any (·.1) = false := by rfl) :
    PE X (.Call (.Name x p) (e :: es) [] pos) (tCall sp [] E0 t) := by
  obtain ⟨f, fd, h1, h2, h3, h4⟩ := c.ex
  exact pe_call h3 hr hg h1 h2 h4 .nil pass0 ha hdb he hpl
end

section
variable {K : Frag} {w : Wd} {n : Option Nat} {Γ : Env} {α β γ δ ρ A : Type} {t : Ty α} {u : Ty β} {ta tb te : TE} {ts ts' : TS} {res : ρ → Ent} {nx bk ct : NK} {rt : ρ → Option Nat → Prop}

/-! ### dicts with whole-number keys -/
/-- what is read as the dict kvs -/
structure DRead (r : Rs) (t : Ty α) (kvs : List (Int × α)) : Prop where
  rd : ∀ l B o, r.R l B o → ∃ kv : List (Key × V), (o = .dK kv ∨ ∃ od, o = .frz od (.dK kv)) ∧ Paired (fun (p : Key × V) (q : Int × α) => p.1 = .inl q.1 ∧ t.rep B p.2 q.2) kv kvs
theorem dread_md {kvs : List (Int × α)} : DRead (rD t kvs) t kvs := ⟨fun _ B o ⟨kv, h, p⟩ => ⟨kv, .inl h, p⟩⟩
def dGet (kvs : List (Int × α)) (i : Int) : Option α := (kvs.find? fun kv => decide (kv.1 = i)).map (·.2)
def dPut (kvs : List (Int × α)) (i : Int) (x : α) : List (Int × α) := if (kvs.any fun kv => decide (kv.1 = i)) = true then kvs.map (fun kv => if kv.1 = i then (kv.1, x) else kv) else kvs ++ [(i, x)]
theorem valV_pair {B : Hp} {i : Int} : ∀ {kv : List (Key × V)} {kvs : List (Int × α)}, Paired (fun (p : Key × V) (q : Int × α) => p.1 = .inl q.1 ∧ t.rep B p.2 q.2) kv kvs →
    (valV kv (.inl i) = none ∧ dGet kvs i = none) ∨ ∃ v x, valV kv (.inl i) = some v ∧ dGet kvs i = some x ∧ t.rep B v x
  | _, _, .nil => .inl ⟨rfl, rfl⟩
  | _, _, .cons (a := a) (b := b) (l₁ := l1) (l₂ := l2) ⟨h1, h2⟩ r => by
    by_cases z : b.1 = i
    · refine .inr ⟨a.2, b.2, valV_pos (by rw [h1, z]), ?_, h2⟩
      unfold dGet
      rw [List.find?_cons, show decide (b.1 = i) = true from decide_eq_true z]; rfl
    · have e : dGet (b :: l2) i = dGet l2 i := by
        unfold dGet
        rw [List.find?_cons, show decide (b.1 = i) = false from decide_eq_false z]
      rw [e, valV_neg (by rw [h1]; intro q; exact z (Sum.inl.inj q))]
      exact valV_pair r
theorem any_pair {B : Hp} {i : Int} : ∀ {kv : List (Key × V)} {kvs : List (Int × α)}, Paired (fun (p : Key × V) (q : Int × α) => p.1 = .inl q.1 ∧ t.rep B p.2 q.2) kv kvs →
    (kv.any fun p => decide (p.1 = .inl i)) = kvs.any fun q => decide (q.1 = i)
  | _, _, .nil => rfl
  | _, _, .cons (a := a) (b := b) ⟨h1, h2⟩ r => by
    rw [List.any_cons, List.any_cons, any_pair r, h1]
    congr 1
    by_cases z : b.1 = i
    · rw [z]; simp
    · rw [decide_eq_false z, decide_eq_false (fun q => z (Sum.inl.inj q))]
theorem putK_pair {B : Hp} {i : Int} {v : V} {x : α} (hv : t.rep B v x) {kv : List (Key × V)} {kvs : List (Int × α)} (p : Paired (fun (p : Key × V) (q : Int × α) => p.1 = .inl q.1 ∧ t.rep B p.2 q.2) kv kvs) :
    Paired (fun (p : Key × V) (q : Int × α) => p.1 = .inl q.1 ∧ t.rep B p.2 q.2) (putK kv (.inl i) v) (dPut kvs i x) := by
  unfold putK dPut
  rw [any_pair p]
  split
  · have gen : ∀ {kv : List (Key × V)} {kvs : List (Int × α)}, Paired (fun (p : Key × V) (q : Int × α) => p.1 = .inl q.1 ∧ t.rep B p.2 q.2) kv kvs →
        Paired (fun (p : Key × V) (q : Int × α) => p.1 = .inl q.1 ∧ t.rep B p.2 q.2) (kv.map fun kv => if kv.1 = .inl i then (kv.1, v) else kv) (kvs.map fun kv => if kv.1 = i then (kv.1, x) else kv) := fun {kv kvs} p => by
      induction p with
      | nil => exact .nil
      | @cons a b _ _ h r ih =>
        rw [List.map_cons, List.map_cons]
        refine .cons ?_ ih
        by_cases z : b.1 = i
        · rw [if_pos z, if_pos (by rw [h.1, z])]; exact ⟨h.1, hv⟩
        · rw [if_neg z, if_neg (by rw [h.1]; intro q; exact z (Sum.inl.inj q))]; exact h
    exact gen p
  · exact pw_snoc p ⟨rfl, hv⟩
theorem drd {H B : Hp} {l : Addr} {o : HO} {r : Rs} {kvs : List (Int × α)} (D : DRead r t kvs) (hl : H l = some o) (hr : r.R l B o) : ∃ kv : List (Key × V), Rd H l (.dK kv) ∧ Paired (fun (p : Key × V) (q : Int × α) => p.1 = .inl q.1 ∧ t.rep B p.2 q.2) kv kvs := by
  obtain ⟨kv, h, p⟩ := D.rd l B o hr
  rcases h with h | ⟨od, h⟩
  · subst h; exact ⟨kv, .inl hl, p⟩
  · subst h; exact ⟨kv, .inr ⟨od, hl⟩, p⟩
/-- d[i] -/
theorem we_dget {i : Nat} {r : Rs} {kvs : List (Int × α)} {ty : TE} {k : α → NK} (hi : Γ[i]? = some (.mu r)) (D : DRead r t kvs) (h : WpE K w n Γ ty tI (fun j n Γ' => Γ'[i]? = some (.mu r) ∧ ∃ x, dGet kvs j = some x ∧ k x n Γ')) :
    WpE K w n Γ (tDGet (tVar i) ty) t k := fun σ B H ok Q c => by
  obtain ⟨l, o, h1, _⟩ := ok.sl i _ hi
  refine ⟨.ref l, h1, h σ B H ok _ fun j v n' Γ' B' H' ⟨g, x, hx, q⟩ e o' r' => ?_⟩
  obtain ⟨l', ob, k1, k2, k3, k4, k5⟩ := o'.sl i _ g
  rw [h1] at k1; cases k1
  obtain ⟨kv, rd, p⟩ := drd D k2 k5
  rcases valV_pair (i := j) p with ⟨_, z⟩ | ⟨y, x', z1, z2, z3⟩
  · rw [z] at hx; cases hx
  · rw [z2] at hx; cases hx
    exact ⟨l, y, rfl, .inl ⟨kv, .inl j, rd, r', z1.symm⟩, c x y n' Γ' B' H' q e o' z3⟩
/-- i in d -/
theorem we_din {i : Nat} {r : Rs} {kvs : List (Int × α)} {ty : TE} {k : Bool → NK} (hi : Γ[i]? = some (.mu r)) (D : DRead r t kvs) (h : WpE K w n Γ ty tI (fun j n Γ' => Γ'[i]? = some (.mu r) ∧ k (dGet kvs j).isSome n Γ')) :
    WpE K w n Γ (tDIn ty (tVar i)) tBo k := fun σ B H ok Q c =>
  h σ B H ok _ fun j v n' Γ' B' H' ⟨g, q⟩ e o' r' => by
    obtain ⟨l, o, h1, k2, k3, k4, k5⟩ := o'.sl i _ g
    obtain ⟨kv, rd, p⟩ := drd D k2 k5
    have es : (valV kv (.inl j)).isSome = (dGet kvs j).isSome := by
      rcases valV_pair (i := j) p with ⟨z1, z2⟩ | ⟨y, x', z1, z2, z3⟩
      · rw [z1, z2]; rfl
      · rw [z1, z2]; rfl
    exact ⟨.ref l, h1, l, valV kv (.inl j), rfl, .inl ⟨kv, .inl j, rd, r', rfl⟩, c _ _ n' Γ' B' H' q e o' (by show V.bl _ = V.bl _; rw [es])⟩
theorem dPut_len {kvs : List (Int × α)} {i : Int} {x : α} : (dPut kvs i x).length ≤ kvs.length + 1 := by
  unfold dPut
  split
  · simp
  · simp
/-- d[i] = e -/
theorem ws_dput {i : Nat} {kvs : List (Int × α)} {ty : TE} (hi : ∃ r0, Γ[i]? = some (.mu r0)) (h : WpE K w n Γ te t (fun x n Γ => WpE K w n Γ ty tI (fun j n Γ => Γ[i]? = some (.md t kvs) ∧ kvs.length < 100000 ∧ SetE (Γ.set i (.md t (dPut kvs j x))) (nx n)))) :
    WpS K w n Γ (sDPut (tVar i) ty te) res nx bk ct rt := fun σ B H ok D a b c d => by
  obtain ⟨r0, hi⟩ := hi
  obtain ⟨l, _, hl, _⟩ := ok.sl i _ hi
  refine h σ B H ok _ fun x v n1 Γ1 B1 H1 q1 e1 o1 r1 => ⟨.ref l, hl, ?_⟩
  refine q1 σ B1 H1 o1 _ fun j jv n2 Γ2 B2 H2 ⟨g, hj, q⟩ e2 o2 r2 => ?_
  obtain ⟨l', o', k1, k2, k3, k4, kv, rfl, p⟩ := o2.sl i _ g
  rw [hl] at k1; cases k1
  exact ⟨l, _, rfl, .inl ⟨kv, .inl j, k2, r2, by rw [pw_len p]; exact szl hj, rfl⟩, a n2 _ _ B2 _ q (e1.trans e2) (o2.put (r' := rD t (dPut kvs j x)) g hl ⟨_, rfl, putK_pair (t.mono e2 r1) p⟩)⟩
theorem wm_dnew {kk : Rs → NK} (t : Ty α) (h : kk (rD t []) n Γ) : WpM K w n Γ tDNewK kk := fun σ B H ok Q c p hp =>
  c _ p n Γ B _ h (Ex.refl _) (ok.grow (Grow.open ok.ex hp)) (Own.new ok hp ⟨[], rfl, .nil⟩)
/-- the dict kvs, locked by a loop -/
def rDF (t : Ty α) (a : Addr) (od : Obj) (u : HO) (kvs : List (Int × α)) : Rs := ⟨fun l B o => l = a ∧ o = .frz od u ∧ ∃ kv : List (Key × V), u = .dK kv ∧ Paired (fun (p : Key × V) (q : Int × α) => p.1 = .inl q.1 ∧ t.rep B p.2 q.2) kv kvs,
  fun e ⟨h0, h, vs, h1, p⟩ => ⟨h0, h, vs, h1, pw_mono (fun _ _ ⟨h1, h2⟩ => ⟨h1, t.mono e h2⟩) p⟩⟩
theorem dread_rDF {a : Addr} {od : Obj} {uu : HO} {kvs : List (Int × α)} : DRead (rDF t a od uu kvs) t kvs := ⟨fun l B o ⟨_, h, kv, h1, p⟩ => ⟨kv, .inr ⟨od, by rw [h, h1]⟩, p⟩⟩
/-- for j in d (nothing leaves the loop early) -/
theorem ws_forKeys {i j : Nat} {kvs : List (Int × α)} (hi : Γ[i]? = some (.md t kvs)) (I : Rs → Nat → NK) (h0 : ∀ r, DRead r t kvs → Up K w (I r 0) n (Γ.set i (.mu r)))
    (hs : ∀ r, DRead r t kvs → ∀ (m : Nat) (x : Int × α) n Γ, kvs[m]? = some x → I r m n Γ → Γ[i]? = some (.mu r) ∧ WpS K w n (Γ.set j (.im tI x.1)) ts res (Up K w (I r (m + 1))) (fun _ _ => False) (Up K w (I r (m + 1))) (fun _ _ => False))
    (he : ∀ r, DRead r t kvs → ∀ n Γ, I r kvs.length n Γ → Γ[i]? = some (.mu r) ∧ nx n (Γ.set i (.md t kvs))) :
    WpS K w n Γ (tLock (tFor (iKeys (tVar i)) (gName j) ts)) res nx bk ct rt := fun σ B H ok D a b c d => by
  obtain ⟨l, o, h1, h2, h3, h4, kv, rfl, p⟩ := ok.sl i _ hi
  refine ⟨l, .dK kv, h2, trivial, fun od => ?_⟩
  have ok1 : Ok K w n (Γ.set i (.mu (rDF t l od (.dK kv) kvs))) σ B (upd H l (.frz od (.dK kv))) := ok.put (r' := rDF t l od (.dK kv) kvs) hi h1 ⟨rfl, rfl, kv, rfl, p⟩
  have hrd : DRead (rDF t l od (.dK kv) kvs) t kvs := dread_rDF
  refine ⟨.ref l, h1, l, od, rfl, .inl ⟨kv, upd_same, ?_⟩⟩
  refine ⟨fun m mm σ' H' => mm + m = kvs.length ∧ ∃ n Γ B', I (rDF t l od (.dK kv) kvs) m n Γ ∧ Ex B B' ∧ Ok K w n Γ σ' B' H', ?_, ?_⟩
  · obtain ⟨n1, Γ1, vw, hI⟩ := h0 _ hrd
    obtain ⟨B1, e1, o1⟩ := vw σ B _ ok1
    exact ⟨kvs.length, rfl, n1, Γ1, B1, hI, e1, o1⟩
  · rintro m mm σ1 H1 ⟨hm, n1, Γ1, B1, hI, e1, o1⟩
    have hG : Γ1[i]? = some (.mu (rDF t l od (.dK kv) kvs)) := by
      by_cases z : m < kvs.length
      · exact (hs _ hrd m _ n1 Γ1 (List.getElem?_eq_getElem z) hI).1
      · have e : m = kvs.length := by omega
        exact (he _ hrd n1 Γ1 (e ▸ hI)).1
    obtain ⟨l', ob, k1, k2, k3, k4, rfl, rfl, kv', hkv, p'⟩ := o1.sl i _ hG
    cases hkv
    by_cases z : m < kvs.length
    · refine .inr ⟨⟨k2, by rw [pw_len p]; exact z⟩, fun σ' H' => ∃ n Γ B', I (rDF t l' od (.dK kv) kvs) (m + 1) n Γ ∧ Ex B B' ∧ Ok K w n Γ σ' B' H', ?_, ?_⟩
      · rintro σ' H' ⟨n2, Γ2, B2, q1, q2, q3⟩
        exact ⟨mm - 1, by omega, by omega, n2, Γ2, B2, q1, q2, q3⟩
      · rintro v H' ⟨rfl, key, vv, hkey, rfl⟩
        obtain ⟨y, hy, hk1, hk2⟩ := pw_getL p' hkey
        have ev : kV key = .int y.1 := by
          have : key = .inl y.1 := hk1
          rw [this]; rfl
        obtain ⟨_, body⟩ := hs _ hrd m y n1 Γ1 hy hI
        have o2 : Ok K w n1 (Γ1.set j (.im tI y.1)) (σ1.set j (some (kV key))) B1 H' := o1.setIm (t := tI) (x := y.1) ev
        refine body _ B1 H' o2 _ (fun n4 Γ4 σ4 B4 H4 ⟨n5, Γ5, vw, hI5⟩ e4 o4 => ?_) (fun _ _ _ _ _ h _ _ => h.elim) (fun n4 Γ4 σ4 B4 H4 ⟨n5, Γ5, vw, hI5⟩ e4 o4 => ?_) (fun _ _ _ _ _ h _ _ _ => h.elim)
        · obtain ⟨B5, e5, o5⟩ := vw σ4 B4 H4 o4
          exact ⟨n5, Γ5, B5, hI5, (e1.trans e4).trans e5, o5⟩
        · obtain ⟨B5, e5, o5⟩ := vw σ4 B4 H4 o4
          exact ⟨n5, Γ5, B5, hI5, (e1.trans e4).trans e5, o5⟩
    · have e : m = kvs.length := by omega
      subst e
      refine .inl ⟨⟨k2, by rw [pw_len p]; exact Nat.le_refl _⟩, k2, ?_⟩
      obtain ⟨_, q⟩ := he _ hrd n1 Γ1 hI
      exact a n1 _ σ1 B1 _ q e1 (o1.put (r' := rD t kvs) hG k1 ⟨kv, rfl, p'⟩)
end
end TL

/-! # TL: the pen; the law's own def -/
namespace TL
open PySem L2
open PySem.W (Frag)

section
variable {K : Frag} {w : Wd} {n : Option Nat} {Γ : Env} {α β γ δ ρ A : Type} {t : Ty α} {u : Ty β} {ta tb te : TE} {ts ts' : TS} {res : ρ → Ent} {nx bk ct : NK} {rt : ρ → Option Nat → Prop}
theorem kne1 : ¬ ((Sum.inr "cells" : Key) = Sum.inr ("left" : Str)) := by decide +kernel
theorem kne2 : ¬ ((Sum.inr "at" : Key) = Sum.inr ("left" : Str)) := by decide +kernel
theorem kne3 : ¬ ((Sum.inr "cells" : Key) = Sum.inr ("at" : Str)) := by decide +kernel
theorem kne4 : ¬ ((Sum.inr "left" : Key) = Sum.inr ("at" : Str)) := by decide +kernel
theorem pk_left {c : Addr} {a l : Int} : valV (penKV c a l) (.inr "left") = some (.int l) := by
  unfold penKV
  rw [valV_neg kne1, valV_neg kne2, valV_pos rfl]
theorem pk_at {c : Addr} {a l : Int} : valV (penKV c a l) (.inr "at") = some (.int a) := by
  unfold penKV
  rw [valV_neg kne3, valV_pos rfl]
theorem pk_cells {c : Addr} {a l : Int} : valV (penKV c a l) (.inr "cells") = some (.ref c) := by
  unfold penKV
  rw [valV_pos rfl]
theorem pk_putL {c : Addr} {a l l' : Int} : putK (penKV c a l) (.inr "left") (.int l') = penKV c a l' := by
  unfold putK penKV
  rw [if_pos (by simp)]
  simp only [List.map_cons, List.map_nil, if_neg kne1, if_neg kne2, if_true]
theorem pk_putA {c : Addr} {a l a' : Int} : putK (penKV c a l) (.inr "at") (.int a') = penKV c a' l := by
  unfold putK penKV
  rw [if_pos (by simp)]
  simp only [List.map_cons, List.map_nil, if_neg kne3, if_neg kne4, if_true]
theorem we_penL {m : Nat} {i : Nat} {k : Int → NK} (hi : Γ[i]? = some .pen) (hn : n = some m) (h : ∀ l : Int, 0 ≤ l → k l n Γ) : WpE K w n Γ (tDGet (tVar i) (tC (.str "left"))) tI k := fun σ B H ok Q c => by
  have hs : σ[i]? = some (some (.ref w.d)) := ok.sl i _ hi
  obtain ⟨fr, a, l, h1, h2, h3, h4, h5, h6⟩ := ok.pn m hn
  exact ⟨_, hs, w.d, .int l, rfl, .inl ⟨_, .inr "left", .inl h1, rfl, pk_left.symm⟩, c l _ n Γ B H (h l h6) (Ex.refl _) ok rfl⟩
theorem we_penA {m : Nat} {i : Nat} {k : Int → NK} (hi : Γ[i]? = some .pen) (hn : n = some m) (h : ∀ a : Int, 0 ≤ a → a ≤ m → k a n Γ) : WpE K w n Γ (tDGet (tVar i) (tC (.str "at"))) tI k := fun σ B H ok Q c => by
  have hs : σ[i]? = some (some (.ref w.d)) := ok.sl i _ hi
  obtain ⟨fr, a, l, h1, h2, h3, h4, h5, h6⟩ := ok.pn m hn
  exact ⟨_, hs, w.d, .int a, rfl, .inl ⟨_, .inr "at", .inl h1, rfl, pk_at.symm⟩, c a _ n Γ B H (h a h4 h5) (Ex.refl _) ok rfl⟩
theorem we_penC {m : Nat} {i : Nat} {k : List Int → NK} (hi : Γ[i]? = some .pen) (hn : n = some m) (h : w.cs.length ≤ 63 → k w.cs n Γ) : WpE K w n Γ (tDGet (tVar i) (tC (.str "cells"))) (tL tI) k := fun σ B H ok Q c => by
  have hs : σ[i]? = some (some (.ref w.d)) := ok.sl i _ hi
  obtain ⟨fr, a, l, h1, h2, h3, h4, h5, h6⟩ := ok.pn m hn
  exact ⟨_, hs, w.d, .ref w.ca, rfl, .inl ⟨_, .inr "cells", .inl h1, rfl, pk_cells.symm⟩, c w.cs _ n Γ B H (h h3) (Ex.refl _) ok ⟨w.ca, _, rfl, h2, pw_mapI⟩⟩
theorem Ok.pen {σ : L2.St} {B H : Hp} {m : Nat} {kv : List (Key × V)} (ok : Ok K w n Γ σ B H) (hk : ∃ (a l : Int), kv = penKV w.ca a l ∧ B w.ca = some (.lst (w.cs.map V.int)) ∧ w.cs.length ≤ 63 ∧ 0 ≤ a ∧ a ≤ m ∧ 0 ≤ l) (hb : B w.d = none) : Ok K w (some m) Γ σ B (upd H w.d (.dK kv)) := by
  obtain ⟨a, l, rfl, h1, h2, h3, h4, h5⟩ := hk
  refine ⟨ok.ex.over hb, ok.ex0, ok.nw, fun x o q ne => ?_, ok.hd, isS upd_same, fun m' q => ?_, ok.ln, fun i e q => ?_, ok.ds⟩
  · rw [upd_ne ne]; exact ok.kp x o q ne
  · cases q
    exact ⟨hb, a, l, upd_same, h1, h2, h3, h4, h5⟩
  · have s := ok.sl i e q
    refine s.keep (Ex.refl _) rfl fun a ha => ?_
    obtain ⟨o, q1, q2, q3⟩ := s.owned ha
    have ne : a ≠ w.d := fun z => noS q3 (z ▸ ok.hd)
    exact ⟨by rw [upd_ne ne], q2, q3⟩
theorem ws_penL {i : Nat} (hi : Γ[i]? = some .pen) (h : WpE K w n Γ te tI (fun v n' Γ' => 0 ≤ v ∧ ∃ m, n' = some m ∧ nx n' Γ')) : WpS K w n Γ (sDPut (tVar i) (tC (.str "left")) te) res nx bk ct rt := fun σ B H ok D a b c d => by
  have hs : σ[i]? = some (some (.ref w.d)) := ok.sl i _ hi
  refine h σ B H ok _ fun v x n' Γ' B' H' hh e o r => ?_
  obtain ⟨h0, m, hn, q⟩ := hh
  obtain ⟨fr, aa, ll, q1, q2, q3, q4, q5, q6⟩ := o.pn m hn
  cases r
  have ok2 := o.pen (m := m) ⟨aa, v, rfl, q2, q3, q4, q5, h0⟩ fr
  rw [← hn] at ok2
  exact ⟨_, hs, w.d, _, rfl, .inl ⟨_, .inr "left", q1, rfl, by show (3 : Nat) < sizeLine; decide, rfl⟩, by rw [pk_putL]; exact a n' Γ' _ B' _ q e ok2⟩
theorem ws_penA {i : Nat} (hi : Γ[i]? = some .pen) (h : WpE K w n Γ te tI (fun v n' Γ' => 0 ≤ v ∧ ∃ m m', n' = some m ∧ v ≤ (m' : Nat) ∧ nx (some m') Γ')) : WpS K w n Γ (sDPut (tVar i) (tC (.str "at")) te) res nx bk ct rt := fun σ B H ok D a b c d => by
  have hs : σ[i]? = some (some (.ref w.d)) := ok.sl i _ hi
  refine h σ B H ok _ fun v x n' Γ' B' H' hh e o r => ?_
  obtain ⟨h0, m, m', hn, hv, q⟩ := hh
  obtain ⟨fr, aa, ll, q1, q2, q3, q4, q5, q6⟩ := o.pn m hn
  cases r
  have ok2 := o.pen (m := m') ⟨v, ll, rfl, q2, q3, h0, hv, q6⟩ fr
  exact ⟨_, hs, w.d, _, rfl, .inl ⟨_, .inr "at", q1, rfl, by show (3 : Nat) < sizeLine; decide, rfl⟩, by rw [pk_putA]; exact a (some m') Γ' _ B' _ q e ok2⟩

theorem divw {a b : Int} (h : 0 < b) (h2 : b < 2 ^ 30) : CDivW a b := wide_div (b := 30) h (by omega) (by decide) (by decide)
theorem mod_in {a b : Int} (h : 0 < b) : 0 ≤ a % b ∧ a % b < b := ⟨Int.emod_nonneg _ (by omega), Int.emod_lt_of_pos _ h⟩
theorem we_neNil {k : Bool → NK} (h : WpE K w n Γ ta (tL tI) (fun a n Γ => k (!decide (a = [])) n Γ)) : WpE K w n Γ (tOp (rNeU K) ta (tLst tNil)) tBo k :=
  we_neD (iL iI) (Nat.le_of_ble_eq_true rfl) (we_mono h fun x _ _ q => we_ofM (xs := fun _ => True) (wm_lst (t := tI) (wal_nil ⟨Nat.zero_le _, _, rfl, ⟨layLI x, layLI []⟩, q⟩)))
theorem we_eqNil {k : Bool → NK} (h : WpE K w n Γ ta (tL tI) (fun a n Γ => k (decide (a = [])) n Γ)) : WpE K w n Γ (tOp (rEqU K) ta (tLst tNil)) tBo k :=
  we_eqD (iL iI) (Nat.le_of_ble_eq_true rfl) (we_mono h fun x _ _ q => we_ofM (xs := fun _ => True) (wm_lst (t := tI) (wal_nil ⟨Nat.zero_le _, _, rfl, ⟨layLI x, layLI []⟩, q⟩)))

/-! ### rules for names, by what the slot holds -/
theorem we_lenVL {i : Nat} {xs : List α} {k : Int → NK} (h : Γ[i]? = some (.im (tL t) xs)) (q : k (xs.length : Int) n Γ) : WpE K w n Γ (tCB (rLenU K) (tCons (tVar i) tNil)) tI k := we_lenL (we_var h q)
theorem we_lenVU {i : Nat} {xs : List α} {k : Int → NK} (h : Γ[i]? = some (.im (tU t) xs)) (q : k (xs.length : Int) n Γ) : WpE K w n Γ (tCB (rLenU K) (tCons (tVar i) tNil)) tI k := we_lenU (we_var h q)
theorem we_lenVLs {i : Nat} {xs : List α} {k : Int → NK} (h : Γ[i]? = some (.im (tLs K t) xs)) (q : k (xs.length : Int) n Γ) : WpE K w n Γ (tCB (rLenU K) (tCons (tVar i) tNil)) tI k := we_lenLs (we_var h q)
/-- of one's own list, which stays one's own -/
theorem we_lenVM {i : Nat} {xs : List α} {k : Int → NK} (h : Γ[i]? = some (.ml t xs)) (q : k (xs.length : Int) n Γ) : WpE K w n Γ (tCB (rLenU K) (tCons (tVar i) tNil)) tI k := fun σ B H ok Q c => by
  obtain ⟨l, o, h1, h2, h3, h4, vs, rfl, p⟩ := ok.sl i _ h
  exact ⟨_, h1, _, xs.length, rfl, .inl ⟨vs, SqL.of h2, (pw_len p).symm⟩, c _ _ n Γ B H q (Ex.refl _) ok rfl⟩
theorem we_ixVL {i : Nat} {xs : List α} {k : α → NK} (h : Γ[i]? = some (.im (tL t) xs)) (q : WpE K w n Γ tb tI (fun j n Γ => ∃ x, atI xs j = some x ∧ k x n Γ)) : WpE K w n Γ (tOp (rIx K) (tVar i) tb) t k := we_ixL (we_var h q)
theorem we_ixVU {i : Nat} {xs : List α} {k : α → NK} (h : Γ[i]? = some (.im (tU t) xs)) (q : WpE K w n Γ tb tI (fun j n Γ => ∃ x, atI xs j = some x ∧ k x n Γ)) : WpE K w n Γ (tOp (rIx K) (tVar i) tb) t k := we_ixU (we_var h q)
theorem we_ixVM {i : Nat} {xs : List α} {k : α → NK} (h : Γ[i]? = some (.ml t xs)) (q : WpE K w n Γ tb tI (fun j n Γ' => Γ'[i]? = some (.ml t xs) ∧ ∃ x, atI xs j = some x ∧ k x n Γ')) : WpE K w n Γ (tOp (rIx K) (tVar i) tb) t k := fun σ B H ok Q c => by
  obtain ⟨l, o, h1, _⟩ := ok.sl i _ h
  refine ⟨_, h1, q σ B H ok _ fun j v n' Γ' B' H' ⟨g, x, hx, q⟩ e o' r' => ?_⟩
  obtain ⟨l', ob, k1, k2, k3, k4, vs, rfl, p⟩ := o'.sl i _ g
  rw [h1] at k1; cases k1
  have hv : ∃ y, atI vs j = some y ∧ t.rep B' y x := by
    unfold atI at hx ⊢
    rw [pw_len p]
    cases z : ixN xs.length j with
    | none => rw [z] at hx; cases hx
    | some m =>
      rw [z] at hx
      exact pw_getR p hx
  obtain ⟨y, hy, ry⟩ := hv
  exact .inl ⟨l, vs, j, y, rfl, r', SqL.of k2, hy, c x y n' Γ' B' H' q e o' ry⟩

/-! ### the law's def: the pen is made first -/
def spPen (K : Frag) : Sp := fun vs H Q _ => ∃ (a : Addr) (ns : List Int), vs = [.ref a] ∧ SqL K H a (ns.map V.int) ∧ ns.length ≤ 63 ∧
  ∀ c p H', Ex H H' → H c = none → H p = none → p ≠ c → H' c = some (.lst (ns.map V.int)) → H' p = some (.dK (penKV c 0 0)) → Q (.ref p) H'
def spLaw (K : Frag) : Sp := fun vs H Q _ => ∃ (a : Addr) (ns : List Int), vs = [.ref a] ∧ SqL K H a (ns.map V.int) ∧ ns.length ≤ 63 ∧ ∀ H', Q (.bl true) H'
theorem law_body {N : List Str} {vs : List V} {H : Hp} {Q : VK} {X E : XK} {t : TS} (hN : 2 ≤ N.length) (hsp : spLaw K vs H Q X)
    (body : ∀ (w : Wd) (ns : List Int), ns.length ≤ 63 → WpS K w (some 0) (.im (tLs K tI) ns :: .pen :: List.replicate (N.length - 2) .no) t (fun x => .im tBo x)
      (fun _ _ => False) (fun _ _ => False) (fun _ _ => False) (fun x _ => x = true)) :
    tSeq (tAsg (tCall (spPen K) [] E (tCons (tVar 0) tNil)) (gName 1)) t { nx := fun _ H' => Q .non H', rt := Q } (L2.start N vs) H := by
  obtain ⟨a, ns, rfl, hS, hl, q⟩ := hsp
  have hst : L2.start N [V.ref a] = some (.ref a) :: List.replicate (N.length - 1) none := by unfold L2.start; simp
  rw [hst]
  refine ⟨.ref a, rfl, a, ns, rfl, hS, hl, fun c p H' ex hc hp hne h1 h2 => ?_⟩
  have e2 : (some (V.ref a) :: List.replicate (N.length - 1) none).set 1 (some (V.ref p)) = some (.ref a) :: some (.ref p) :: List.replicate (N.length - 2) none := by
    have : N.length - 1 = (N.length - 2) + 1 := by omega
    rw [this, List.replicate_succ]; rfl
  show (_ : L2.St → Hp → Prop) _ _
  have B0 : Hp := upd H c (.lst (ns.map V.int))
  have ok : Ok K ⟨p, c, ns, upd H c (.lst (ns.map V.int)), H'⟩ (some 0) (.im (tLs K tI) ns :: .pen :: List.replicate (N.length - 2) .no) (some (.ref a) :: some (.ref p) :: List.replicate (N.length - 2) none) (upd H c (.lst (ns.map V.int))) H' := by
    refine ⟨ex.put h1, Ex.refl _, fun x o q => .inl q, fun x o q _ => q, isS h2, isS h2, fun m q => ?_, by simp, fun i e q => ?_, fun i j e e' a _ q _ oi => ?_⟩
    · cases q
      exact ⟨by rw [upd_ne hne]; exact hp, 0, 0, h2, upd_same, hl, Int.le_refl _, Int.le_refl _, Int.le_refl _⟩
    · match i with
      | 0 =>
        simp at q; subst q
        exact ⟨.ref a, by simp, a, _, rfl, (Ex.new hc).l hS, pw_mapI⟩
      | 1 => simp at q; subst q; show _ = _; simp
      | i + 2 =>
        simp only [List.getElem?_cons_succ, List.getElem?_replicate] at q
        split at q
        · cases q; trivial
        · cases q
    · match i with
      | 0 => simp at q; subst q; exact False.elim oi
      | 1 => simp at q; subst q; exact False.elim oi
      | i + 2 =>
        simp only [List.getElem?_cons_succ, List.getElem?_replicate] at q
        split at q
        · cases q; exact False.elim oi
        · cases q
  have key := body ⟨p, c, ns, upd H c (.lst (ns.map V.int)), H'⟩ ns hl _ _ _ ok { nx := fun _ H' => Q .non H', rt := Q } (fun _ _ _ _ _ h _ _ => h.elim) (fun _ _ _ _ _ h _ _ => h.elim) (fun _ _ _ _ _ h _ _ => h.elim) (fun x v n' B' H' h e o s => by
    subst h
    obtain ⟨v', h1, h2⟩ := s
    cases h1; cases h2
    exact q H')
  show t _ _ _
  rw [e2]
  exact key
end
end TL

/-! # TL: the promises of the law's own draws -/
namespace TL
open PySem L2
open PySem.W (Frag)

section
variable {K : Frag} {w : Wd} {n : Option Nat} {Γ : Env} {α β γ δ ρ A : Type} {t : Ty α} {u : Ty β} {ta tb te : TE} {ts ts' : TS} {res : ρ → Ent} {nx bk ct : NK} {rt : ρ → Option Nat → Prop}
theorem Up.drop {I : NK} (i : Nat) (h : I n (Γ.set i .no)) : Up K w I n Γ := ⟨_, _, View.drop i, h⟩
theorem Up.drop2 {I : NK} (i j : Nat) (h : I n ((Γ.set i .no).set j .no)) : Up K w I n Γ := ⟨_, _, (View.drop i).trans (View.drop j), h⟩
theorem Up.drop3 {I : NK} (i j l : Nat) (h : I n (((Γ.set i .no).set j .no).set l .no)) : Up K w I n Γ := ⟨_, _, ((View.drop i).trans (View.drop j)).trans (View.drop l), h⟩
theorem Up.drop4 {I : NK} (i j l m : Nat) (h : I n ((((Γ.set i .no).set j .no).set l .no).set m .no)) : Up K w I n Γ := ⟨_, _, (((View.drop i).trans (View.drop j)).trans (View.drop l)).trans (View.drop m), h⟩
theorem Up.le {I : NK} {a b : Nat} (e : a ≤ b) (h : Up K w I (some b) Γ) : Up K w I (some a) Γ := by
  obtain ⟨n0, Γ0, v, q⟩ := h
  exact ⟨n0, Γ0, (View.le e).trans v, q⟩
/-- a call that draws nothing -/
theorem we_call0 {S : FS K} {E : XK} {ta : TA} {t : Ty S.ρ} {k : S.ρ → NK} (hres : S.res = fun x => .im t x) (hc : S.cost = 0) (h : WpA K w n Γ ta S.args (fun a n Γ => S.pre a ∧ ∀ x, S.post a x → k x n Γ)) : WpE K w n Γ (tCall S.sp [] E ta) t k :=
  we_call hres fun σ B H ok Q c => h σ B H ok Q fun a vs n' Γ' B' H' ⟨h1, h2⟩ => c a vs n' Γ' B' H' ⟨h1, .inl hc, fun x n2 hx hcc => by
    rcases hcc with ⟨_, rfl⟩ | ⟨m, rfl, rfl⟩
    · exact h2 x hx
    · rw [hc]; exact h2 x hx⟩
theorem we_callN {S : FS K} {E : XK} {ta : TA} {t : Ty S.ρ} {k : S.ρ → NK} {c : Nat} (hres : S.res = fun x => .im t x) (hc : S.cost = c) (h : WpA K w n Γ ta S.args (fun a n Γ => S.pre a ∧ ∃ m, n = some m ∧ m + c ≤ 2 ^ 60 ∧ ∀ x, S.post a x → k x (some (m + c)) Γ)) : WpE K w n Γ (tCall S.sp [] E ta) t k :=
  we_call hres fun σ B H ok Q c' => h σ B H ok Q fun a vs n' Γ' B' H' ⟨h1, m, hn, hm, h2⟩ => c' a vs n' Γ' B' H' ⟨h1, .inr ⟨m, hn, by rw [hc]; exact hm⟩, fun x n2 hx hcc => by
    subst hn
    rcases hcc with ⟨z, rfl⟩ | ⟨m', e, rfl⟩
    · rw [hc] at z; subst z; exact h2 x hx
    · cases e; rw [hc]; exact h2 x hx⟩
theorem wm_call0 {S : FS K} {E : XK} {ta : TA} {rs : S.ρ → Rs} {k : Rs → NK} (hres : S.res = fun x => .mu (rs x)) (hc : S.cost = 0) (h : WpA K w n Γ ta S.args (fun a n Γ => S.pre a ∧ ∀ x, S.post a x → k (rs x) n Γ)) : WpM K w n Γ (tCall S.sp [] E ta) k :=
  wm_call hres fun σ B H ok Q c => h σ B H ok Q fun a vs n' Γ' B' H' ⟨h1, h2⟩ => c a vs n' Γ' B' H' ⟨h1, .inl hc, fun x n2 hx hcc => by
    rcases hcc with ⟨_, rfl⟩ | ⟨m, rfl, rfl⟩
    · exact h2 x hx
    · rw [hc]; exact h2 x hx⟩
theorem wm_callN {S : FS K} {E : XK} {ta : TA} {rs : S.ρ → Rs} {k : Rs → NK} {c : Nat} (hres : S.res = fun x => .mu (rs x)) (hc : S.cost = c) (h : WpA K w n Γ ta S.args (fun a n Γ => S.pre a ∧ ∃ m, n = some m ∧ m + c ≤ 2 ^ 60 ∧ ∀ x, S.post a x → k (rs x) (some (m + c)) Γ)) : WpM K w n Γ (tCall S.sp [] E ta) k :=
  wm_call hres fun σ B H ok Q c' => h σ B H ok Q fun a vs n' Γ' B' H' ⟨h1, m, hn, hm, h2⟩ => c' a vs n' Γ' B' H' ⟨h1, .inr ⟨m, hn, by rw [hc]; exact hm⟩, fun x n2 hx hcc => by
    subst hn
    rcases hcc with ⟨z, rfl⟩ | ⟨m', e, rfl⟩
    · rw [hc] at z; subst z; exact h2 x hx
    · cases e; rw [hc]; exact h2 x hx⟩
/-- the draws that a body of cost c + .. has at hand -/
theorem May.some {c : Nat} {n : Option Nat} (h : May (c + 1) n) : ∃ m, n = some m ∧ m + (c + 1) ≤ 2 ^ 60 := by
  rcases h with z | z
  · cases z
  · exact z
end

theorem CLe_some {c m m' : Nat} (h : m' ≤ m + c) : CLe c (some m) (some m') := .inr ⟨m, m', rfl, rfl, h⟩
theorem CLe_refl {n : Option Nat} : CLe 0 n n := .inl ⟨rfl, rfl⟩
theorem rg_get {k i : Nat} {x : Int} (h : ((List.range k).map fun (i : Nat) => (i : Int))[i]? = some x) : i < k ∧ x = i := by
  rw [List.getElem?_map] at h
  cases z : (List.range k)[i]? with
  | none => rw [z] at h; cases h
  | some c =>
    rw [z] at h
    obtain ⟨q1, q2⟩ := List.getElem?_eq_some_iff.mp z
    have hc : c = i := by rw [← q2]; simp
    exact ⟨by simpa using q1, by rw [← Option.some.inj h, hc]⟩
theorem rl_get {a b : Int} {i : Nat} {x : Int} (h : (rangeL a b)[i]? = some x) : (i : Int) < b - a ∧ x = a + i := by
  unfold rangeL at h
  rw [List.getElem?_map] at h
  cases z : (List.range (b - a).toNat)[i]? with
  | none => rw [z] at h; cases h
  | some c =>
    rw [z] at h
    obtain ⟨q1, q2⟩ := List.getElem?_eq_some_iff.mp z
    have hc : c = i := by rw [← q2]; simp
    have q3 : i < (b - a).toNat := by simpa using q1
    exact ⟨by omega, by rw [← Option.some.inj h, hc]⟩
theorem get_lt {α : Type} {xs : List α} {i : Nat} {x : α} (h : xs[i]? = some x) : i < xs.length := (List.getElem?_eq_some_iff.mp h).1
theorem rg_len {k : Nat} : ((List.range k).map fun (i : Nat) => (i : Int)).length = k := by simp
theorem rl_len {a b : Int} : (rangeL a b).length = (b - a).toNat := by simp [rangeL]

/-! ### what the law's draws give -/
section
variable (K : Frag)
def S__law_draw : FS K := { A := Int × Unit, args := aPen (aCons tI aNil), ρ := Int, res := fun x => .im tI x, cost := 1, pre := fun a => 1 ≤ a.1 ∧ a.1 < 2 ^ 30, post := fun a r => 0 ≤ r ∧ r < a.1 }
abbrev sp__law_draw : Sp := (S__law_draw K).sp
instance : Ents (S__law_draw K).args := inferInstanceAs (Ents (aPen (aCons tI aNil)))
def S_pick {α : Type} (t : Ty α) : FS K := { A := List α × Unit, args := aPen (aCons (tL t) aNil), ρ := α, res := fun x => .im t x, cost := 1, pre := fun a => a.1 ≠ [] ∧ a.1.length < 1000, post := fun a r => r ∈ a.1 }
instance {α : Type} {t : Ty α} : Ents (S_pick K t).args := inferInstanceAs (Ents (aPen (aCons (tL t) aNil)))
def S__law_below : FS K := { A := Int × Unit, args := aPen (aCons tI aNil), ρ := Int, res := fun x => .im tI x, cost := 10, pre := fun a => 1 ≤ a.1, post := fun a r => 0 ≤ r ∧ r < a.1 }
abbrev sp__law_below : Sp := (S__law_below K).sp
instance : Ents (S__law_below K).args := inferInstanceAs (Ents (aPen (aCons tI aNil)))
def S__law_far : FS K := { A := Unit, args := aPen aNil, ρ := Int, res := fun x => .im tI x, cost := 12, pre := fun a => True, post := fun a r => -(10 ^ 60) < r ∧ r < 10 ^ 60 }
abbrev sp__law_far : Sp := (S__law_far K).sp
instance : Ents (S__law_far K).args := inferInstanceAs (Ents (aPen aNil))
def S__law_little : FS K := { A := Unit, args := aPen aNil, ρ := Int, res := fun x => .im tI x, cost := 12, pre := fun a => True, post := fun a r => -(10 ^ 12) < r ∧ r < 10 ^ 12 }
abbrev sp__law_little : Sp := (S__law_little K).sp
instance : Ents (S__law_little K).args := inferInstanceAs (Ents (aPen aNil))
def S__law_size : FS K := { A := Unit, args := aPen aNil, ρ := Int, res := fun x => .im tI x, cost := 11, pre := fun a => True, post := fun a r => 1 ≤ r ∧ r ≤ 10 ^ 60 }
abbrev sp__law_size : Sp := (S__law_size K).sp
instance : Ents (S__law_size K).args := inferInstanceAs (Ents (aPen aNil))
end
section
variable {K : Frag} {w : Wd} {n : Option Nat} {Γ : Env} {α : Type} {t : Ty α} {ta tb te : TE} {E : XK}
theorem we_draw {i : Nat} {k : Int → NK} (hi : Γ[i]? = some .pen) (h : WpE K w n Γ tb tI (fun m n Γ => (1 ≤ m ∧ m < 2 ^ 30) ∧ ∃ c, n = some c ∧ c + 1 ≤ 2 ^ 60 ∧ ∀ r : Int, 0 ≤ r → r < m → k r (some (c + 1)) Γ)) : WpE K w n Γ (tCall (S__law_draw K).sp [] E (tCons (tVar i) (tCons tb tNil))) tI k :=
  we_callN (S := S__law_draw K) rfl rfl (wa_pen hi (wa_cons (we_mono h fun m n' Γ' ⟨h1, c, hn, hc, h2⟩ => wa_nil ⟨h1, c, hn, hc, fun r hr => h2 r hr.1 hr.2⟩)))
theorem we_below {i : Nat} {k : Int → NK} (hi : Γ[i]? = some .pen) (h : WpE K w n Γ tb tI (fun m n Γ => 1 ≤ m ∧ ∃ c, n = some c ∧ c + 10 ≤ 2 ^ 60 ∧ ∀ r : Int, 0 ≤ r → r < m → k r (some (c + 10)) Γ)) : WpE K w n Γ (tCall (S__law_below K).sp [] E (tCons (tVar i) (tCons tb tNil))) tI k :=
  we_callN (S := S__law_below K) rfl rfl (wa_pen hi (wa_cons (we_mono h fun m n' Γ' ⟨h1, c, hn, hc, h2⟩ => wa_nil ⟨h1, c, hn, hc, fun r hr => h2 r hr.1 hr.2⟩)))
theorem we_far {i : Nat} {k : Int → NK} (hi : Γ[i]? = some .pen) (h : ∃ c, n = some c ∧ c + 12 ≤ 2 ^ 60 ∧ ∀ r : Int, -(10 ^ 60) < r → r < 10 ^ 60 → k r (some (c + 12)) Γ) : WpE K w n Γ (tCall (S__law_far K).sp [] E (tCons (tVar i) tNil)) tI k := by
  obtain ⟨c, hn, hc, h2⟩ := h
  exact we_callN (S := S__law_far K) rfl rfl (wa_pen hi (wa_nil ⟨trivial, c, hn, hc, fun r hr => h2 r hr.1 hr.2⟩))
theorem we_little {i : Nat} {k : Int → NK} (hi : Γ[i]? = some .pen) (h : ∃ c, n = some c ∧ c + 12 ≤ 2 ^ 60 ∧ ∀ r : Int, -(10 ^ 12) < r → r < 10 ^ 12 → k r (some (c + 12)) Γ) : WpE K w n Γ (tCall (S__law_little K).sp [] E (tCons (tVar i) tNil)) tI k := by
  obtain ⟨c, hn, hc, h2⟩ := h
  exact we_callN (S := S__law_little K) rfl rfl (wa_pen hi (wa_nil ⟨trivial, c, hn, hc, fun r hr => h2 r hr.1 hr.2⟩))
theorem we_size {i : Nat} {k : Int → NK} (hi : Γ[i]? = some .pen) (h : ∃ c, n = some c ∧ c + 11 ≤ 2 ^ 60 ∧ ∀ r : Int, 1 ≤ r → r ≤ 10 ^ 60 → k r (some (c + 11)) Γ) : WpE K w n Γ (tCall (S__law_size K).sp [] E (tCons (tVar i) tNil)) tI k := by
  obtain ⟨c, hn, hc, h2⟩ := h
  exact we_callN (S := S__law_size K) rfl rfl (wa_pen hi (wa_nil ⟨trivial, c, hn, hc, fun r hr => h2 r hr.1 hr.2⟩))
theorem we_pick {i : Nat} {k : α → NK} (hi : Γ[i]? = some .pen) (h : WpE K w n Γ tb (tL t) (fun xs n Γ => (xs ≠ [] ∧ xs.length < 1000) ∧ ∃ c, n = some c ∧ c + 1 ≤ 2 ^ 60 ∧ ∀ x ∈ xs, k x (some (c + 1)) Γ)) : WpE K w n Γ (tCall (S_pick K t).sp [] E (tCons (tVar i) (tCons tb tNil))) t k :=
  we_callN (S := S_pick K t) rfl rfl (wa_pen hi (wa_cons (we_mono h fun m n' Γ' ⟨h1, c, hn, hc, h2⟩ => wa_nil ⟨h1, c, hn, hc, fun r hr => h2 r hr⟩)))
/-- a list written out -/
theorem we_lst {ta : TA} {k : List α → NK} (h : WpA K w n Γ ta (aAll t) (fun xs n Γ => xs.length ≤ 100000 ∧ k xs n Γ)) : WpE K w n Γ (tLst ta) (tL t) k :=
  we_ofM (xs := fun _ => True) (wm_lst fun σ B H ok Q c => h σ B H ok Q fun a vs n' Γ' B' H' ⟨h1, h2⟩ => c a vs n' Γ' B' H' ⟨h1, a, rfl, h2⟩)
theorem atI_mem {xs : List α} {i : Int} (h0 : 0 ≤ i) (h : i < xs.length) : ∃ x, atI xs i = some x ∧ x ∈ xs := ⟨_, atI_int h0 (by omega), List.getElem_mem _⟩
/-- an item of a list written out, whichever -/
theorem we_ixAny {ta : TA} {k : α → NK} (h : WpA K w n Γ ta (aAll t) (fun xs n Γ => xs.length ≤ 100000 ∧ WpE K w n Γ tb tI (fun i n Γ => (0 ≤ i ∧ i < xs.length) ∧ ∀ x, x ∈ xs → k x n Γ))) : WpE K w n Γ (tOp (rIx K) (tLst ta) tb) t k :=
  we_ixL (we_lst fun σ B H ok Q c => h σ B H ok Q fun a vs n' Γ' B' H' ⟨h1, h2⟩ => c a vs n' Γ' B' H' ⟨h1, we_mono h2 fun i _ _ ⟨h3, h4⟩ => by
    obtain ⟨x, hx, hm⟩ := atI_mem h3.1 h3.2
    exact ⟨x, hx, h4 x hm⟩⟩)
theorem we_powC {a b : Int} {m : Nat} {k : Int → NK} (hm : b.toNat = m) (h : CPow a b ∧ k (a ^ m) n Γ) : WpE K w n Γ (tOp rPowU (tC (.int a)) (tC (.int b))) tI k := by
  subst hm
  exact we_pow (we_int (we_int h))
end
end TL

/-! # TL: zip and enumerate over lists and tuples, in any mixture -/
namespace TZ
open PySem PySem.Spec PyProof.Rows L2
open PySem.W (Frag)

/-- a list, a tuple -/
inductive Sk where | l | t | s
def ItAt (k : Sk) (h : Heap) (it a : Addr) (i : Nat) : Prop := match k with
  | .l => h.IsListIter it a i
  | .t => h.IsTupleIter it a i
  | .s => h.IsListIter it a i
def SqAt (k : Sk) (h : Heap) (a : Addr) (xs : Array Value) : Prop := match k with
  | .l => h.IsList a xs
  | .t => h.IsTuple a xs
  | .s => h.IsList a xs
def itName : Sk → String
  | .l => "list_iterator"
  | .t => "tuple_iterator"
  | .s => "list_iterator"
theorem ItAt.ob {k : Sk} {h : Heap} {it a : Addr} {i : Nat} (x : ItAt k h it a i) : ∃ o, h.get? it = some o ∧ o.cls = .type (itName k) ∧ o.data = .fields #[.ref a, .int i 0] := by
  cases k <;> exact x
theorem ItAt.of {k : Sk} {h : Heap} {it a : Addr} {i : Nat} {o : Obj} (e : h.get? it = some o) (c : o.cls = .type (itName k)) (d : o.data = .fields #[.ref a, .int i 0]) : ItAt k h it a i := by
  cases k <;> exact ⟨o, e, c, d⟩
theorem ItAt.go {k : Sk} {h h' : Heap} {it a : Addr} {i : Nat} (x : ItAt k h it a i) (e : ∀ o, h.get? it = some o → h'.get? it = some o) : ItAt k h' it a i := by
  obtain ⟨o, h1, h2, h3⟩ := x.ob
  exact .of (e o h1) h2 h3
theorem SqAt.ob {k : Sk} {h : Heap} {a : Addr} {xs : Array Value} (x : SqAt k h a xs) : ∃ o, h.get? a = some o := by
  cases k
  · obtain ⟨o, e, _⟩ := x; exact ⟨o, e⟩
  · obtain ⟨o, e, _⟩ := x; exact ⟨o, e⟩
  · obtain ⟨o, e, _⟩ := x; exact ⟨o, e⟩
theorem SqAt.go {k : Sk} {h h' : Heap} {a : Addr} {xs : Array Value} (x : SqAt k h a xs) (e : ∀ o, h.get? a = some o → h'.get? a = some o) : SqAt k h' a xs := by
  cases k
  · obtain ⟨o, h1, h2⟩ := x; exact ⟨o, e o h1, h2⟩
  · obtain ⟨o, h1, h2⟩ := x; exact ⟨o, e o h1, h2⟩
  · obtain ⟨o, h1, h2⟩ := x; exact ⟨o, e o h1, h2⟩
section
variable {prog : Program} {w : World} {A : Around} {E : Value → Shared → Prop} {s : Shared}
theorem nxt_item {k : Sk} {it a : Addr} {i : Nat} {xs : Array Value} {x : Value} {Q : Value → Shared → Prop} (h1 : ItAt k s.heap it a i) (h2 : SqAt k s.heap a xs) (h3 : xs[i]? = some x)
    (q : ∀ g, ItAt k g it a (i + 1) → Heap.SameBut it s.heap g → Q x { s with heap := g }) : wpAny (model prog w) A (Builtin.SmallTypes.nextOf (.ref it)) Q E s := by
  cases k
  · exact wpAny_nextOf_list_item h1 h2 h3 q
  · exact RZ.nextOf_tuple_item h1 h2 h3 q
  · exact wpAny_nextOf_list_item h1 h2 h3 q
theorem nxt_end {k : Sk} {it a : Addr} {i : Nat} {xs : Array Value} {Q : Value → Shared → Prop} (hh : A.handled = none) (h1 : ItAt k s.heap it a i) (h2 : SqAt k s.heap a xs) (h3 : xs[i]? = none)
    (q : ∀ g e, Heap.ExtBut it s.heap g → (∃ o, g.get? e = some o ∧ o.cls = .type "StopIteration") → E (.ref e) { s with heap := g }) : wpAny (model prog w) A (Builtin.SmallTypes.nextOf (.ref it)) Q E s := by
  cases k
  · exact wpAny_nextOf_list_end hh h1 h2 h3 q
  · exact RZ.nextOf_tuple_end hh h1 h2 h3 q
  · exact wpAny_nextOf_list_end hh h1 h2 h3 q
/-- what stands besides the iterators' own objects -/
abbrev Rest (h g : Heap) (z o i j : Addr) : Prop := ∀ c ob, c ≠ z → c ≠ o → c ≠ i → c ≠ j → h.get? c = some ob → g.get? c = some ob
theorem zip_next {k k' : Sk} {z TI TO i j a b : Addr} {m n : Nat} {xs ys : Array Value} {x y u v : Value} {Q : Value → Shared → Prop} (D : ZipApart z TI TO i j a b) (hz : IsZip s.heap z TI TO .none)
    (ti : IsPair s.heap TI (.ref i) (.ref j)) (to : IsPair s.heap TO u v) (p1 : ItAt k s.heap i a m) (p2 : ItAt k' s.heap j b n) (q1 : SqAt k s.heap a xs) (q2 : SqAt k' s.heap b ys) (hx : xs[m]? = some x) (hy : ys[n]? = some y)
    (hQ : ∀ g, IsZip g z TI TO (rawInt s.heap.objs.size) → IsPair g TO x y → ItAt k g i a (m + 1) → ItAt k' g j b (n + 1) → IsPair g s.heap.objs.size x y → g.objs.size = s.heap.objs.size + 1 → Rest s.heap g z TO i j → Q (.ref s.heap.objs.size) { s with heap := g }) :
    wpAny (model prog w) A (Builtin.«zip.__next__» ⟨[.ref z], []⟩) (fun fin s' => ∃ v, fin = .done (.ret v) ∧ Q v s') E s := by
  show wpAny _ _ (field (.ref z) 2 >>= _) _ _ _; refine wpAny_bind (wpAny_field hz rfl (x := .bool false) rfl ?_)
  show wpAny _ _ (field (.ref z) 3 >>= _) _ _ _; refine wpAny_bind (wpAny_field hz rfl (x := .ref TI) rfl (wpAny_bind (wpAny_seqItems ti rfl ?_)))
  show wpAny _ _ (Builtin.SmallTypes.ownedTupleIsFree (.ref z) >>= _) _ _ _; refine wpAny_bind ?_; unfold Builtin.SmallTypes.ownedTupleIsFree
  refine wpAny_bind (wpAny_field hz rfl (x := .none) rfl (wpAny_pure ?_)); simp only [if_true]
  refine wpAny_bind (wpAny_rule (wpAny_bind (wpAny_field hz rfl (x := .ref TO) rfl (wpAny_bind (wpAny_setField_rec hz (by simp) fun g1 z1 e1 => ?_)))))
  replace z1 : IsZip g1 z TI TO .ellipsis := z1
  refine wpAny_bind ?_; simp only [List.zipIdx_cons, List.zipIdx_nil, List.forIn_cons, List.forIn_nil]
  refine wpAny_bind (wpAny_bind (wpAny_onRaise ?_)); show wpAny _ _ (Builtin.SmallTypes.nextOf (.ref i) >>= _) _ _ _
  have E1 : ∀ c o, c ≠ z → s.heap.get? c = some o → g1.get? c = some o := fun c o h e => e1.extBut c o h e
  refine wpAny_bind (nxt_item (p1.go fun o => E1 i o D.i1z) (q1.go fun o => E1 a o D.l1z) hx fun g2 r1 e2 => wpAny_pure ?_)
  have E2 : ∀ c o, c ≠ i → g1.get? c = some o → g2.get? c = some o := fun c o h e => e2.extBut c o h e
  have to2 : IsPair g2 TO u v := E2 _ _ D.TOi1 (E1 _ _ D.TOz to)
  refine wpAny_bind (wpAny_seqItems to2 rfl (wpAny_bind (wpAny_updateSeq_pair to2 fun g3 to3 e3 => ?_)))
  replace to3 : IsPair g3 TO x v := to3
  have E3 : ∀ c o, c ≠ TO → g2.get? c = some o → g3.get? c = some o := fun c o h e => e3.extBut c o h e
  refine wpAny_bind (wpAny_letGo (wpAny_pure ?_)); refine wpAny_bind (wpAny_bind (wpAny_onRaise ?_)); show wpAny _ _ (Builtin.SmallTypes.nextOf (.ref j) >>= _) _ _ _
  refine wpAny_bind (nxt_item (p2.go fun o e => E3 j o D.TOi2.symm (E2 j o D.i12.symm (E1 j o D.i2z e))) (q2.go fun o e => E3 b o D.l2TO (E2 b o D.l2i1 (E1 b o D.l2z e))) hy fun g4 r2 e4 => wpAny_pure ?_)
  have E4 : ∀ c o, c ≠ j → g3.get? c = some o → g4.get? c = some o := fun c o h e => e4.extBut c o h e
  have to4 : IsPair g4 TO x v := E4 _ _ D.TOi2 to3
  refine wpAny_bind (wpAny_seqItems to4 rfl (wpAny_bind (wpAny_updateSeq_pair to4 fun g5 to5 e5 => ?_)))
  replace to5 : IsPair g5 TO x y := to5
  have E5 : ∀ c o, c ≠ TO → g4.get? c = some o → g5.get? c = some o := fun c o h e => e5.extBut c o h e
  refine wpAny_bind (wpAny_letGo (wpAny_pure (wpAny_pure ?_))); refine wpAny_bind (wpAny_seqItems to5 rfl (wpAny_bind (wpAny_newTuple ?_)))
  have zs : g5.objs.size = s.heap.objs.size := by rw [e5.1, e4.1, e3.1, e2.1, e1.1]
  have z5 : IsZip g5 z TI TO .ellipsis := E5 _ _ D.TOz.symm (E4 _ _ D.i2z.symm (E3 _ _ D.TOz.symm (E2 _ _ D.i1z.symm z1)))
  have K5 : Rest s.heap g5 z TO i j := fun c o c1 c2 c3 c4 e => E5 _ _ c2 (E4 _ _ c4 (E3 _ _ c2 (E2 _ _ c3 (E1 _ _ c1 e))))
  have r15 : ItAt k g5 i a (m + 1) := r1.go fun o e => E5 _ o D.TOi1.symm (E4 _ o D.i12 (E3 _ o D.TOi1.symm e))
  have r25 : ItAt k' g5 j b (n + 1) := r2.go fun o e => E5 _ o D.TOi2.symm e
  have zl : z < g5.objs.size := Heap.lt_size z5
  show wpAny _ _ (Builtin.SmallTypes.ownedTupleHandOut (.ref z) (.ref g5.objs.size) >>= _) _ _ _; refine wpAny_bind ?_; unfold Builtin.SmallTypes.ownedTupleHandOut
  have z6 : IsZip (g5.push { cls := .type "tuple", data := .seq #[x, y] }) z TI TO .ellipsis := Heap.get?_push_of_some _ z5
  refine wpAny_bind (wpAny_setField_rec z6 (by simp) fun g7 z7 e7 => ?_)
  replace z7 : IsZip g7 z TI TO (rawInt g5.objs.size) := z7
  refine wpAny_setField_rec z7 (by simp) fun g8 z8 e8 => ?_
  replace z8 : IsZip g8 z TI TO (rawInt g5.objs.size) := z8
  have up : ∀ c o, c ≠ z → g5.get? c = some o → g8.get? c = some o := fun c o c1 e => e8.extBut _ _ c1 (e7.extBut _ _ c1 (Heap.get?_push_of_some _ e))
  have t8 : IsPair g8 g5.objs.size x y := e8.extBut _ _ (Nat.ne_of_gt zl) (e7.extBut _ _ (Nat.ne_of_gt zl) (Heap.get?_push_size _ rfl))
  have s8 : g8.objs.size = g5.objs.size + 1 := by rw [e8.1, e7.1, Heap.size_push]
  rw [zs] at z8 t8 s8
  refine wpAny_pure ⟨_, rfl, ?_⟩
  show Q (.ref g5.objs.size) _
  rw [zs]
  exact hQ g8 z8 (up _ _ D.TOz to5) (r15.go fun o e => up _ o D.i1z e) (r25.go fun o e => up _ o D.i2z e) t8 s8 fun c o c1 c2 c3 c4 e => up c o c1 (K5 c o c1 c2 c3 c4 e)
theorem zip_stop {k k' : Sk} {z TI TO i j a b : Addr} {m n : Nat} {xs ys : Array Value} {u v : Value} {Q : Fin → Shared → Prop} (hh : A.handled = none) (D : ZipApart z TI TO i j a b) (hz : IsZip s.heap z TI TO .none)
    (ti : IsPair s.heap TI (.ref i) (.ref j)) (to : IsPair s.heap TO u v) (p1 : ItAt k s.heap i a m) (p2 : ItAt k' s.heap j b n) (q1 : SqAt k s.heap a xs) (q2 : SqAt k' s.heap b ys) (hend : xs[m]? = none ∨ ys[n]? = none)
    (hE : ∀ g e, Rest s.heap g z TO i j → (∃ o, g.get? e = some o ∧ o.cls = .type "StopIteration") → E (.ref e) { s with heap := g }) : wpAny (model prog w) A (Builtin.«zip.__next__» ⟨[.ref z], []⟩) Q E s := by
  show wpAny _ _ (field (.ref z) 2 >>= _) _ _ _; refine wpAny_bind (wpAny_field hz rfl (x := .bool false) rfl ?_)
  show wpAny _ _ (field (.ref z) 3 >>= _) _ _ _; refine wpAny_bind (wpAny_field hz rfl (x := .ref TI) rfl (wpAny_bind (wpAny_seqItems ti rfl ?_)))
  show wpAny _ _ (Builtin.SmallTypes.ownedTupleIsFree (.ref z) >>= _) _ _ _; refine wpAny_bind ?_; unfold Builtin.SmallTypes.ownedTupleIsFree
  refine wpAny_bind (wpAny_field hz rfl (x := .none) rfl (wpAny_pure ?_)); simp only [if_true]
  refine wpAny_bind (wpAny_rule (wpAny_bind (wpAny_field hz rfl (x := .ref TO) rfl (wpAny_bind (wpAny_setField_rec hz (by simp) fun g1 z1 e1 => ?_)))))
  replace z1 : IsZip g1 z TI TO .ellipsis := z1
  refine wpAny_bind ?_; simp only [List.zipIdx_cons, List.zipIdx_nil, List.forIn_cons, List.forIn_nil]
  refine wpAny_bind (wpAny_bind (wpAny_onRaise ?_)); show wpAny _ _ (Builtin.SmallTypes.nextOf (.ref i) >>= _) _ _ _
  have E1 : ∀ c o, c ≠ z → s.heap.get? c = some o → g1.get? c = some o := fun c o h e => e1.extBut c o h e
  cases hx : xs[m]? with
  | none =>
    refine wpAny_bind (nxt_end hh (p1.go fun o => E1 i o D.i1z) (q1.go fun o => E1 a o D.l1z) hx fun g2 e e2 he => ?_)
    obtain ⟨oe, h1, h2⟩ := he
    have z2 : IsZip g2 z TI TO .ellipsis := e2 _ _ D.i1z.symm z1
    have ne : e ≠ z := fun x => by subst x; rw [z2] at h1; cases h1; simp at h2
    exact wpAny_setField_rec z2 (by simp) fun g3 _ e3 => hE g3 e (fun c o c1 _ c3 _ x => e3.extBut _ _ c1 (e2 _ _ c3 (E1 _ _ c1 x))) ⟨oe, e3.extBut _ _ ne h1, h2⟩
  | some x =>
    have hy : ys[n]? = none := by
      rcases hend with h | h
      · rw [hx] at h; cases h
      · exact h
    refine wpAny_bind (nxt_item (p1.go fun o => E1 i o D.i1z) (q1.go fun o => E1 a o D.l1z) hx fun g2 r1 e2 => wpAny_pure ?_)
    have E2 : ∀ c o, c ≠ i → g1.get? c = some o → g2.get? c = some o := fun c o h e => e2.extBut c o h e
    have to2 : IsPair g2 TO u v := E2 _ _ D.TOi1 (E1 _ _ D.TOz to)
    refine wpAny_bind (wpAny_seqItems to2 rfl (wpAny_bind (wpAny_updateSeq_pair to2 fun g3 to3 e3 => ?_)))
    have E3 : ∀ c o, c ≠ TO → g2.get? c = some o → g3.get? c = some o := fun c o h e => e3.extBut c o h e
    refine wpAny_bind (wpAny_letGo (wpAny_pure ?_)); refine wpAny_bind (wpAny_bind (wpAny_onRaise ?_)); show wpAny _ _ (Builtin.SmallTypes.nextOf (.ref j) >>= _) _ _ _
    refine wpAny_bind (nxt_end hh (p2.go fun o e => E3 j o D.TOi2.symm (E2 j o D.i12.symm (E1 j o D.i2z e))) (q2.go fun o e => E3 b o D.l2TO (E2 b o D.l2i1 (E1 b o D.l2z e))) hy fun g4 e e4 he => ?_)
    obtain ⟨oe, h1, h2⟩ := he
    have z4 : IsZip g4 z TI TO .ellipsis := e4 _ _ D.i2z.symm (E3 _ _ D.TOz.symm (E2 _ _ D.i1z.symm z1))
    have ne : e ≠ z := fun x => by subst x; rw [z4] at h1; cases h1; simp at h2
    exact wpAny_setField_rec z4 (by simp) fun g5 _ e5 => hE g5 e (fun c o c1 c2 c3 c4 x => e5.extBut _ _ c1 (e4 _ _ c4 (E3 _ _ c2 (E2 _ _ c3 (E1 _ _ c1 x))))) ⟨oe, e5.extBut _ _ ne h1, h2⟩
theorem pyNext_zip {k k' : Sk} {z TI TO i j a b : Addr} {m n : Nat} {xs ys : Array Value} {x y u v : Value} {Q : Option Value → Shared → Prop} (D : ZipApart z TI TO i j a b) (hz : IsZip s.heap z TI TO .none)
    (ti : IsPair s.heap TI (.ref i) (.ref j)) (to : IsPair s.heap TO u v) (p1 : ItAt k s.heap i a m) (p2 : ItAt k' s.heap j b n) (q1 : SqAt k s.heap a xs) (q2 : SqAt k' s.heap b ys) (hx : xs[m]? = some x) (hy : ys[n]? = some y)
    (hQ : ∀ g, IsZip g z TI TO (rawInt s.heap.objs.size) → IsPair g TO x y → ItAt k g i a (m + 1) → ItAt k' g j b (n + 1) → IsPair g s.heap.objs.size x y → g.objs.size = s.heap.objs.size + 1 → Rest s.heap g z TO i j → Q (some (.ref s.heap.objs.size)) { s with heap := g }) :
    wpAny (model prog w) A (pyNext (.ref z)) Q E s := by
  have hT : s.TypeIs (.ref z) "zip" := ⟨_, hz, rfl⟩
  unfold pyNext
  exact wpAny_bind (wpAny_attempt (wpAny_callSpecial?_slot (name := Str.ofString "__next__") hT F.slot_zip_next (wpAny_call_entry F.slot_zip_next hT F.entry_zip_next
    (zip_next D hz ti to p1 p2 q1 q2 hx hy fun g a1 a2 a3 a4 a5 a6 a7 => wpAny_pure (hQ g a1 a2 a3 a4 a5 a6 a7)) (F.args_zip_next_1 _))))
theorem pyNext_stop {k k' : Sk} {z TI TO i j a b : Addr} {m n : Nat} {xs ys : Array Value} {u v : Value} {Q : Option Value → Shared → Prop} (hh : A.handled = none) (D : ZipApart z TI TO i j a b) (hz : IsZip s.heap z TI TO .none)
    (ti : IsPair s.heap TI (.ref i) (.ref j)) (to : IsPair s.heap TO u v) (p1 : ItAt k s.heap i a m) (p2 : ItAt k' s.heap j b n) (q1 : SqAt k s.heap a xs) (q2 : SqAt k' s.heap b ys) (hend : xs[m]? = none ∨ ys[n]? = none)
    (hQ : ∀ g, Rest s.heap g z TO i j → Q none { s with heap := g }) : wpAny (model prog w) A (pyNext (.ref z)) Q E s := by
  have hT : s.TypeIs (.ref z) "zip" := ⟨_, hz, rfl⟩
  unfold pyNext
  refine wpAny_bind (wpAny_attempt (wpAny_callSpecial?_slot (name := Str.ofString "__next__") hT F.slot_zip_next (wpAny_call_entry F.slot_zip_next hT F.entry_zip_next
    (zip_stop hh D hz ti to p1 p2 q1 q2 hend fun g e hk he => ?_) (F.args_zip_next_1 _))))
  obtain ⟨o, h1, h2⟩ := he
  exact wpAny_bind (wpAny_isInstance (T := "StopIteration") (b := true) ⟨o, h1, h2⟩ isSubtype_stop (wpAny_pure (hQ _ hk)))
/-- zip(x, y) -/
def itObj (k : Sk) (a : Addr) : Obj := { cls := .type (itName k), data := .fields #[.ref a, .int 0 0] }
theorem pyIter_sq {k : Sk} {a : Addr} {xs : Array Value} {Q : Value → Shared → Prop} (h : SqAt k s.heap a xs) (q : Q (.ref s.heap.objs.size) { s with heap := s.heap.push (itObj k a) }) : wpAny (model prog w) A (pyIter (.ref a)) Q E s := by
  cases k
  · exact wpAny_pyIter_list h q
  · exact wpAny_pyIter_tuple h q
  · exact wpAny_pyIter_list h q
end
abbrev zA (h : Heap) (k k' : Sk) (a b : Addr) : Heap := (h.push (itObj k a)).push (itObj k' b)
abbrev zB (h : Heap) (k k' : Sk) (a b : Addr) : Heap := (zA h k k' a b).push { cls := .type "tuple", data := .seq #[.ref h.objs.size, .ref (h.push (itObj k a)).objs.size] }
abbrev zC (h : Heap) (k k' : Sk) (a b : Addr) : Heap := (zB h k k' a b).push { cls := .type "tuple", data := .seq #[.none, .none] }
abbrev zD (h : Heap) (k k' : Sk) (a b : Addr) : Heap := (zC h k k' a b).push { cls := .type "zip", data := .fields #[.none, .bool false, .bool false, .ref (zA h k k' a b).objs.size, .ref (zB h k k' a b).objs.size] }
theorem nz_ll (a b : Addr) (xs ys : Array Value) : Meets (Builtin.«zip.__new__» ⟨[.type "zip", .ref a, .ref b], []⟩) (fun _ R s => SqAt .l s.heap a xs ∧ SqAt .l s.heap b ys ∧
    R (.ok (.ret (.ref (zC s.heap .l .l a b).objs.size))) { s with heap := zD s.heap .l .l a b }) :=
  .of_wp fun prog w A R s h => by
    obtain ⟨hp, g, d, tk, os⟩ := s; obtain ⟨u1, u2, h⟩ := h
    have hsub := sub_zip
    have L1 : SqAt .l (Shared.heap ⟨hp, g, d, tk, os⟩) a xs := u1
    have L2 : SqAt .l (Shared.heap ⟨hp.push (itObj .l a), g, d, tk, os⟩) b ys := u2.go fun o e => Heap.get?_push_of_some _ e
    have M1 : Heap.IsList (Shared.heap ⟨hp, g, d, tk, os⟩) a xs := L1
    have M2 : Heap.IsList (Shared.heap ⟨hp.push { cls := .type "list_iterator", data := .fields #[.ref a, .int 0 0] }, g, d, tk, os⟩) b ys := L2
    wp_walk using wpAny_pyIter_list M1, wpAny_pyIter_list M2
    exact ⟨_, rfl, h⟩
theorem nz_lt (a b : Addr) (xs ys : Array Value) : Meets (Builtin.«zip.__new__» ⟨[.type "zip", .ref a, .ref b], []⟩) (fun _ R s => SqAt .l s.heap a xs ∧ SqAt .t s.heap b ys ∧
    R (.ok (.ret (.ref (zC s.heap .l .t a b).objs.size))) { s with heap := zD s.heap .l .t a b }) :=
  .of_wp fun prog w A R s h => by
    obtain ⟨hp, g, d, tk, os⟩ := s; obtain ⟨u1, u2, h⟩ := h
    have hsub := sub_zip
    have L1 : SqAt .l (Shared.heap ⟨hp, g, d, tk, os⟩) a xs := u1
    have L2 : SqAt .t (Shared.heap ⟨hp.push (itObj .l a), g, d, tk, os⟩) b ys := u2.go fun o e => Heap.get?_push_of_some _ e
    have M1 : Heap.IsList (Shared.heap ⟨hp, g, d, tk, os⟩) a xs := L1
    have M2 : Heap.IsTuple (Shared.heap ⟨hp.push { cls := .type "list_iterator", data := .fields #[.ref a, .int 0 0] }, g, d, tk, os⟩) b ys := L2
    wp_walk using wpAny_pyIter_list M1, wpAny_pyIter_tuple M2
    exact ⟨_, rfl, h⟩
theorem nz_tl (a b : Addr) (xs ys : Array Value) : Meets (Builtin.«zip.__new__» ⟨[.type "zip", .ref a, .ref b], []⟩) (fun _ R s => SqAt .t s.heap a xs ∧ SqAt .l s.heap b ys ∧
    R (.ok (.ret (.ref (zC s.heap .t .l a b).objs.size))) { s with heap := zD s.heap .t .l a b }) :=
  .of_wp fun prog w A R s h => by
    obtain ⟨hp, g, d, tk, os⟩ := s; obtain ⟨u1, u2, h⟩ := h
    have hsub := sub_zip
    have L1 : SqAt .t (Shared.heap ⟨hp, g, d, tk, os⟩) a xs := u1
    have L2 : SqAt .l (Shared.heap ⟨hp.push (itObj .t a), g, d, tk, os⟩) b ys := u2.go fun o e => Heap.get?_push_of_some _ e
    have M1 : Heap.IsTuple (Shared.heap ⟨hp, g, d, tk, os⟩) a xs := L1
    have M2 : Heap.IsList (Shared.heap ⟨hp.push { cls := .type "tuple_iterator", data := .fields #[.ref a, .int 0 0] }, g, d, tk, os⟩) b ys := L2
    wp_walk using wpAny_pyIter_tuple M1, wpAny_pyIter_list M2
    exact ⟨_, rfl, h⟩
theorem nz_tt (a b : Addr) (xs ys : Array Value) : Meets (Builtin.«zip.__new__» ⟨[.type "zip", .ref a, .ref b], []⟩) (fun _ R s => SqAt .t s.heap a xs ∧ SqAt .t s.heap b ys ∧
    R (.ok (.ret (.ref (zC s.heap .t .t a b).objs.size))) { s with heap := zD s.heap .t .t a b }) :=
  .of_wp fun prog w A R s h => by
    obtain ⟨hp, g, d, tk, os⟩ := s; obtain ⟨u1, u2, h⟩ := h
    have hsub := sub_zip
    have L1 : SqAt .t (Shared.heap ⟨hp, g, d, tk, os⟩) a xs := u1
    have L2 : SqAt .t (Shared.heap ⟨hp.push (itObj .t a), g, d, tk, os⟩) b ys := u2.go fun o e => Heap.get?_push_of_some _ e
    have M1 : Heap.IsTuple (Shared.heap ⟨hp, g, d, tk, os⟩) a xs := L1
    have M2 : Heap.IsTuple (Shared.heap ⟨hp.push { cls := .type "tuple_iterator", data := .fields #[.ref a, .int 0 0] }, g, d, tk, os⟩) b ys := L2
    wp_walk using wpAny_pyIter_tuple M1, wpAny_pyIter_tuple M2
    exact ⟨_, rfl, h⟩
theorem new_zip (k k' : Sk) (a b : Addr) (xs ys : Array Value) : Meets (Builtin.«zip.__new__» ⟨[.type "zip", .ref a, .ref b], []⟩) (fun _ R s => SqAt k s.heap a xs ∧ SqAt k' s.heap b ys ∧
    R (.ok (.ret (.ref (zC s.heap k k' a b).objs.size))) { s with heap := zD s.heap k k' a b }) := by
  cases k <;> cases k'
  · exact nz_ll a b xs ys
  · exact nz_lt a b xs ys
  · exact nz_ll a b xs ys
  · exact nz_tl a b xs ys
  · exact nz_tt a b xs ys
  · exact nz_tl a b xs ys
  · exact nz_ll a b xs ys
  · exact nz_lt a b xs ys
  · exact nz_ll a b xs ys
section
variable {prog : Program} {w : World} {A : Around} {E : Value → Shared → Prop} {s : Shared}
theorem call_zip {k k' : Sk} {a b : Addr} {xs ys : Array Value} {Q : Value → Shared → Prop} (q1 : SqAt k s.heap a xs) (q2 : SqAt k' s.heap b ys)
    (h : ∀ g, IsZip g (s.heap.objs.size + 4) (s.heap.objs.size + 2) (s.heap.objs.size + 3) .none → IsPair g (s.heap.objs.size + 2) (.ref s.heap.objs.size) (.ref (s.heap.objs.size + 1)) → IsPair g (s.heap.objs.size + 3) .none .none →
      ItAt k g s.heap.objs.size a 0 → ItAt k' g (s.heap.objs.size + 1) b 0 → (∀ c o, s.heap.get? c = some o → g.get? c = some o) → Q (.ref (s.heap.objs.size + 4)) { s with heap := g }) :
    wpAny (model prog w) A (call (.type "zip") [.ref a, .ref b]) Q E s := by
  refine callType_new F.called_zip (by decide) (F.typeCall_zip_2 _ _) (F.newCall_zip_2 _ _) (fun obj => F.args_object_init_3 obj _ _) F.entry_zip_new (new_zip k k' a b xs ys) ⟨q1, q2, ?_⟩
  have n0 : (s.heap.push (itObj k a)).objs.size = s.heap.objs.size + 1 := Heap.size_push ..
  have nA : (zA s.heap k k' a b).objs.size = s.heap.objs.size + 2 := by rw [Heap.size_push, n0]
  have nB : (zB s.heap k k' a b).objs.size = s.heap.objs.size + 3 := by rw [Heap.size_push, nA]
  have nC : (zC s.heap k k' a b).objs.size = s.heap.objs.size + 4 := by rw [Heap.size_push, nB]
  have r1 : ∀ (h : Heap) (o : Obj) c ob, h.get? c = some ob → (h.push o).get? c = some ob := fun h o c ob e => Heap.get?_push_of_some _ e
  have t5 : (zD s.heap k k' a b).get? (zC s.heap k k' a b).objs.size = some _ := Heap.get?_push_size _ rfl
  have t4 : (zD s.heap k k' a b).get? (zB s.heap k k' a b).objs.size = some _ := r1 _ _ _ _ (Heap.get?_push_size _ rfl)
  have t3 : (zD s.heap k k' a b).get? (zA s.heap k k' a b).objs.size = some _ := r1 _ _ _ _ (r1 _ _ _ _ (Heap.get?_push_size _ rfl))
  have t2 : (zD s.heap k k' a b).get? (s.heap.push (itObj k a)).objs.size = some (itObj k' b) := r1 _ _ _ _ (r1 _ _ _ _ (r1 _ _ _ _ (Heap.get?_push_size _ rfl)))
  have t1 : (zD s.heap k k' a b).get? s.heap.objs.size = some (itObj k a) := r1 _ _ _ _ (r1 _ _ _ _ (r1 _ _ _ _ (r1 _ _ _ _ (Heap.get?_push_size _ rfl))))
  show _ ∧ _
  rw [nA, nB, nC] at t5
  rw [n0, nA] at t3
  rw [nB] at t4
  rw [n0] at t2
  rw [nC]
  exact ⟨⟨_, t5, rfl⟩, h _ t5 t3 t4 (.of t1 rfl rfl) (.of t2 rfl rfl) fun c o x => r1 _ _ _ _ (r1 _ _ _ _ (r1 _ _ _ _ (r1 _ _ _ _ (r1 _ _ _ _ x))))⟩
end
/-! ### over the layer -/
def SqK (k : Sk) (K : Frag) (H : Hp) (a : Addr) (xs : List V) : Prop := match k with
  | .l => SqL K H a xs
  | .t => SqT K H a xs
  | .s => SqL K H a xs
theorem SqK.at {k : Sk} {X : Cx} {pins : List (Addr × Obj)} {σ : L2.St} {H : Hp} {s : Shared} {a : Addr} {xs : List V} (I : Inv X pins σ H s) (h : SqK k X.K H a xs) : ∃ its : List Value, Vals xs its ∧ SqAt k s.heap a its.toArray := by
  cases k
  · obtain ⟨its, rv, p, _⟩ := I.list h; exact ⟨its, rv, p.isList⟩
  · obtain ⟨its, rv, p, _⟩ := I.tuple h; exact ⟨its, rv, p⟩
  · obtain ⟨its, rv, p, _⟩ := I.list h; exact ⟨its, rv, p.isList⟩
theorem SqK.inj {k : Sk} {X : Cx} {pins : List (Addr × Obj)} {σ : L2.St} {H : Hp} {s : Shared} {a : Addr} {xs ys : List V} (I : Inv X pins σ H s) (h : SqK k X.K H a xs) (h' : SqK k X.K H a ys) : xs = ys := by
  cases k
  · exact I.list_inj h h'
  · exact I.tuple_inj h h'
  · exact I.list_inj h h'
def ItzU (K : Frag) (k k' : Sk) (a b : Addr) : It :=
  ⟨fun i H => ∃ (xs ys : List V) (x y : V), SqK k K H a xs ∧ SqK k' K H b ys ∧ xs[i]? = some x ∧ ys[i]? = some y,
    fun i H v H' => ∃ T x y, v = .ref T ∧ H T = none ∧ H' = upd H T (.tup [x, y]) ∧ (∀ xs, SqK k K H a xs → xs[i]? = some x) ∧ ∀ ys, SqK k' K H b ys → ys[i]? = some y,
    fun i H => ∃ xs ys : List V, SqK k K H a xs ∧ SqK k' K H b ys ∧ (xs.length ≤ i ∨ ys.length ≤ i)⟩
theorem turn_zipU {P : Program} {w : World} {K : Frag} {elts : List Expr} {kk : Nat} {tpos : Pos} {k k' : Sk} {a b z TI TO i j : Addr} (D : ZipApart z TI TO i j a b) :
    Turn P w K (.Tuple elts kk tpos) (ItzU K k k' a b) [z, TI, TO, i, j] z (fun n h => IsZip h z TI TO .none ∧ IsPair h TI (.ref i) (.ref j) ∧ (∃ x y, IsPair h TO x y) ∧ ItAt k h i a n ∧ ItAt k' h j b n) where
  mem := by simp
  obj := fun n h ⟨hz, ti, ⟨x, y, to⟩, p1, p2⟩ c hc => by
    obtain ⟨o1, e1, _, d1⟩ := p1.ob
    obtain ⟨o2, e2, _, d2⟩ := p2.ob
    have e' : c = z ∨ c = TI ∨ c = TO ∨ c = i ∨ c = j := by simpa using hc
    rcases e' with q | q | q | q | q <;> subst q
    · exact ⟨_, hz, fun v q => nomatch q⟩
    · exact ⟨_, ti, fun v q => nomatch q⟩
    · exact ⟨_, to, fun v q => nomatch q⟩
    · exact ⟨o1, e1, fun v q => by rw [d1] at q; cases q⟩
    · exact ⟨o2, e2, fun v q => by rw [d2] at q; cases q⟩
  keep := fun n h h' ⟨hz, ti, ⟨x, y, to⟩, p1, p2⟩ e => ⟨e z (by simp) _ hz, e TI (by simp) _ ti, ⟨x, y, e TO (by simp) _ to⟩, p1.go fun o q => e i (by simp) o q, p2.go fun o q => e j (by simp) o q⟩
  item := by
    intro X hP hw hK hc n pins s σ H E I hf st hg
    subst hP hw hK
    obtain ⟨hz, ti, ⟨x0, y0, to⟩, p1, p2⟩ := st
    obtain ⟨xs, ys, x, y, hqx, hqy, hx, hy⟩ := hg
    obtain ⟨its, rv, q1⟩ := hqx.at I
    obtain ⟨its2, rv2, q2⟩ := hqy.at I
    obtain ⟨u, hu, ru⟩ := rv.get hx
    obtain ⟨u2, hu2, ru2⟩ := rv2.get hy
    have zl : z < s.heap.objs.size := Heap.lt_size hz
    refine pyNext_zip D hz ti to p1 p2 q1 q2 (x := u) (y := u2) (by simpa using hu) (by simpa using hu2) fun g z' to' p1' p2' tt hs rk => ?_
    refine ⟨_, rfl, wpAny_letOwnedTupleGo_zip (s := { s with heap := g }) z' fun g2 z2 sb => ?_⟩
    have tt2 : g2.get? s.heap.objs.size = some { cls := .type "tuple", data := .seq #[u, u2] } := (sb.2 _ (Nat.ne_of_gt zl)).trans tt
    have new : ObjOk X.prog X.w (upd H s.heap.objs.size (.tup [x, y])) g2 s.heap.objs.size (.tup [x, y]) := ⟨(by decide : 2 ≤ sizeLine), [u, u2], .cons ru (.cons ru2 .nil), ⟨_, tt2, rfl, _, rfl⟩⟩
    have I1 : Inv X pins σ (upd H s.heap.objs.size (.tup [x, y])) { s with heap := g2 } := I.turnedNew (t' := s.toks) (ch := [z, TI, TO, i, j])
      (fun c o hb q => (sb.2 c (fun q' => hb (by simp [q']))).trans (rk c o (fun q' => hb (by simp [q'])) (fun q' => hb (by simp [q'])) (fun q' => hb (by simp [q'])) (fun q' => hb (by simp [q'])) q)) hf (Nat.le_refl _) new
    refine ⟨.ref s.heap.objs.size, _, I1, rfl, ⟨_, x, y, rfl, I.hok.fresh (Nat.le_refl _), rfl, fun l hl => by rw [hl.inj I hqx]; exact hx, fun l hl => by rw [hl.inj I hqy]; exact hy⟩, ⟨z2, ?_, ⟨u, u2, ?_⟩, ?_, ?_⟩, fun c hcm => ?_⟩
    · exact (sb.2 _ D.TIz).trans (rk _ _ D.TIz D.TITO D.TIi1 D.TIi2 ti)
    · exact (sb.2 _ D.TOz).trans to'
    · exact p1'.go fun o q => (sb.2 _ D.i1z).trans q
    · exact p2'.go fun o q => (sb.2 _ D.i2z).trans q
    · have lt : c < s.heap.objs.size := by
        obtain ⟨_, e1, _⟩ := p1.ob
        obtain ⟨_, e2, _⟩ := p2.ob
        have e' : c = z ∨ c = TI ∨ c = TO ∨ c = i ∨ c = j := by simpa using hcm
        rcases e' with q | q | q | q | q <;> subst q
        · exact zl
        · exact Heap.lt_size ti
        · exact Heap.lt_size to
        · exact Heap.lt_size e1
        · exact Heap.lt_size e2
      rw [upd_ne (Nat.ne_of_lt lt)]
      exact (hf c hcm).1
  done := by
    intro X hP hw hK hc n pins s σ H E I hf st hg
    subst hP hw hK
    obtain ⟨hz, ti, ⟨x0, y0, to⟩, p1, p2⟩ := st
    obtain ⟨xs, ys, hqx, hqy, hend⟩ := hg
    obtain ⟨its, rv, q1⟩ := hqx.at I
    obtain ⟨its2, rv2, q2⟩ := hqy.at I
    have l1 := rv.length
    have l2 := rv2.length
    have he : its.toArray[n]? = none ∨ its2.toArray[n]? = none := by
      rcases hend with q | q
      · exact .inl (by simp; omega)
      · exact .inr (by simp; omega)
    exact pyNext_stop (I.ok.hd hc) D hz ti to p1 p2 q1 q2 he fun g rk => ⟨rfl, I.turnedL (t' := s.toks) (ch := [z, TI, TO, i, j])
      (fun c o hb q => rk c o (fun q' => hb (by simp [q'])) (fun q' => hb (by simp [q'])) (fun q' => hb (by simp [q'])) (fun q' => hb (by simp [q'])) q) hf⟩
  self := fun A n s Q E st h => wpAny_pyIter_zip st.1 h
def iZipU (K : Frag) (ta : TA) : TI := fun σ H R => ta σ H fun vs H1 => ∃ a b xs ys k k', vs = [.ref a, .ref b] ∧ SqK k K H1 a xs ∧ SqK k' K H1 b ys ∧ R (ItzU K k k' a b) H1
theorem pi_zipU {X : Cx} {e e2 : Expr} {ta : TA} {p pos tpos : Pos} {elts : List Expr} {kk : Nat} (hg : Gl X "zip") (hm : X.mg "zip" = none) (ha : PA X [e, e2] ta) (hs : starEach [e, e2] X.env = (false, eval e X.env) :: starEach [e2] X.env := by rfl)
    (hpl : (backTo pos (starEach [e2] X.env)).any (·.1) = false := by rfl) : PI X (.Tuple elts kk tpos) (.Call (.Name "zip" p) [e, e2] [] pos) (iZipU X.K ta) := by
  refine ⟨fun pins s σ H R I h => ?_⟩
  refine Call_ (ld_blt I hg hm PyProof.Rows.boot_zip (PyProof.Rows.callWith_type1 (thn (ha.run pos pins s σ H _ I h) fun us s1 ⟨vs, H1, I1, r1, q1⟩ => ?_) hs hpl))
  obtain ⟨a, b, xs, ys, k, k', ex, hqx, hqy, q⟩ := q1
  subst ex
  cases r1 with
  | cons r rr =>
    cases rr with
    | cons r' rr =>
      cases rr
      cases r
      cases r'
      have fresh : ∀ c, c ∈ [s1.heap.objs.size + 4, s1.heap.objs.size + 2, s1.heap.objs.size + 3, s1.heap.objs.size, s1.heap.objs.size + 1] → FpOk X pins H1 c := fun c hcm => by
        have hle : s1.heap.objs.size ≤ c := by
          simp only [List.mem_cons, List.not_mem_nil, or_false] at hcm
          omega
        exact I1.fpOk hle (I1.hok.fresh hle)
      obtain ⟨its, rv, q1⟩ := hqx.at I1
      obtain ⟨its2, rv2, q2⟩ := hqy.at I1
      obtain ⟨o1, ho1⟩ := q1.ob
      obtain ⟨o2, ho2⟩ := q2.ob
      refine call_zip q1 q2 fun g hz ti to p1 p2 rk => wpAny_pyIter_zip hz ?_
      have I2 : Inv X pins σ H1 { s1 with heap := g } := I1.kept (t' := s1.toks) rk
      exact ⟨s1.heap.objs.size + 4, _, _, _, H1, rfl, I2, turn_zipU (PySem.W.ktu_apart s1.heap.objs.size a b (Heap.lt_size ho1) (Heap.lt_size ho2)), ⟨hz, ti, ⟨_, _, to⟩, p1, p2⟩, fresh, q⟩
end TZ

/-! # TL: enumerate over a list or a tuple -/
namespace TZ
open PySem PySem.Spec PyProof.Rows L2
open PySem.W (Frag)
open AutoSeq1 (wpAny_loadPart')
section
variable {prog : Program} {w : World} {A : Around} {E : Value → Shared → Prop} {s : Shared}
theorem enum_next {k : Sk} {e it a : Addr} {i : Nat} {xs : Array Value} {x old : Value} {Q : Value → Shared → Prop} (he : IsEnum s.heap e it i old) (p : ItAt k s.heap it a i) (q : SqAt k s.heap a xs) (hx : xs[i]? = some x) (hne : e ≠ it)
    (hQ : ∀ g, IsEnumOut g e it ((i : Int) + 1) x s.heap.objs.size → ItAt k g it a (i + 1) → g.get? s.heap.objs.size = some { cls := .type "tuple", data := .seq #[.int i s.toks, x] } → g.objs.size = s.heap.objs.size + 1 →
      (∀ b o, b ≠ e → b ≠ it → s.heap.get? b = some o → g.get? b = some o) → Q (.ref s.heap.objs.size) { s with heap := g, toks := s.toks + 1 }) :
    wpAny (model prog w) A (Builtin.«enumerate.__next__» ⟨[.ref e], []⟩) (fun fin s' => ∃ v, fin = .done (.ret v) ∧ Q v s') E s := by
  obtain ⟨hp, gg, d, tk, os⟩ := s
  show wpAny _ _ (field (.ref e) 2 >>= _) _ _ _; refine wpAny_bind (wpAny_field he rfl (x := .ref it) rfl ?_)
  refine wpAny_bind (nxt_item p q hx fun g1 p1 e1 => ?_)
  replace e1 : Heap.SameBut it hp g1 := e1
  have he1 : IsEnum g1 e it i old := (e1.2 e hne).trans he
  show wpAny _ _ (field (.ref e) 3 >>= _) _ _ ⟨g1, gg, d, tk, os⟩; refine wpAny_bind (wpAny_field he1 rfl (x := rawInt i) rfl ?_)
  show wpAny _ _ (field (.ref e) 4 >>= _) _ _ ⟨g1, gg, d, tk, os⟩; refine wpAny_bind (wpAny_field he1 rfl (x := .none) rfl ?_)
  show wpAny _ _ (mkInt i >>= _) _ _ ⟨g1, gg, d, tk, os⟩; refine wpAny_bind (wpAny_mkInt ?_)
  show wpAny _ _ (setField (.ref e) 3 (rawInt ((i : Int) + 1)) >>= _) _ _ ⟨g1, gg, d, tk + 1, os⟩; refine wpAny_bind (wpAny_setField_rec he1 (by simp) fun g2 he2 e2 => ?_)
  replace e2 : Heap.SameBut e g1 g2 := e2
  replace he2 : IsEnum g2 e it ((i : Int) + 1) old := he2
  show wpAny _ _ (setField (.ref e) 4 .none >>= _) _ _ ⟨g2, gg, d, tk + 1, os⟩; refine wpAny_bind (wpAny_setField_rec he2 (by simp) fun g3 he3 e3 => ?_)
  replace e3 : Heap.SameBut e g2 g3 := e3
  replace he3 : IsEnum g3 e it ((i : Int) + 1) old := he3
  show wpAny _ _ (newTuple [.int i tk, x] >>= _) _ _ ⟨g3, gg, d, tk + 1, os⟩; refine wpAny_bind (wpAny_newTuple ?_)
  have he4 : IsEnum (g3.push { cls := .type "tuple", data := .seq #[.int i tk, x] }) e it ((i : Int) + 1) old := Heap.get?_push_of_some _ he3
  generalize hg4 : g3.push { cls := .type "tuple", data := .seq #[.int i tk, x] } = g4 at he4
  have sz3 : g3.objs.size = hp.objs.size := by rw [e3.1, e2.1, e1.1]
  have el : e < hp.objs.size := Heap.lt_size he
  have t4 : g4.get? hp.objs.size = some { cls := .type "tuple", data := .seq #[.int i tk, x] } := by rw [← hg4, ← sz3]; exact Heap.get?_push_size _ rfl
  have z4 : g4.objs.size = hp.objs.size + 1 := by rw [← hg4, Heap.size_push, sz3]
  have k4 : ∀ b o, b ≠ e → b ≠ it → hp.get? b = some o → g4.get? b = some o := fun b o h1 h2 hb => by
    rw [← hg4]; exact Heap.get?_push_of_some _ (e3.extBut b o h1 (e2.extBut b o h1 (e1.extBut b o h2 hb)))
  have p4 : ItAt k g4 it a (i + 1) := by
    rw [← hg4]; exact p1.go fun o q => Heap.get?_push_of_some _ (e3.extBut it o hne.symm (e2.extBut it o hne.symm q))
  show wpAny _ _ (Builtin.SmallTypes.ownedTupleIsFree (.ref e) >>= _) _ _ ⟨g4, gg, d, tk + 1, os⟩
  rw [sz3]
  clear hg4 he3 e3 he2 e2 he1 e1 p1 sz3 g3 g2 g1
  refine wpAny_bind ?_; unfold Builtin.SmallTypes.ownedTupleIsFree
  refine wpAny_bind (wpAny_field he4 rfl (x := .none) rfl (wpAny_pure ?_)); simp only [if_true]
  refine wpAny_bind (wpAny_rule (wpAny_bind (wpAny_field he4 rfl (x := old) rfl (wpAny_bind (wpAny_setField_rec he4 (by simp) fun g5 he5 e5 => ?_)))))
  replace e5 : Heap.SameBut e g4 g5 := e5
  replace he5 : IsEnum g5 e it ((i : Int) + 1) x := he5
  show wpAny _ _ (Builtin.SmallTypes.ownedTupleHandOut (.ref e) (.ref hp.objs.size) >>= _) _ _ ⟨g5, gg, d, tk + 1, os⟩; refine wpAny_bind ?_; unfold Builtin.SmallTypes.ownedTupleHandOut
  refine wpAny_bind (wpAny_setField_rec he5 (by simp) fun g6 he6 e6 => ?_)
  replace e6 : Heap.SameBut e g5 g6 := e6
  replace he6 : IsEnumOut g6 e it ((i : Int) + 1) x hp.objs.size := he6
  refine wpAny_setField_rec he6 (by simp) fun g7 he7 e7 => ?_
  replace e7 : Heap.SameBut e g6 g7 := e7
  replace he7 : IsEnumOut g7 e it ((i : Int) + 1) x hp.objs.size := he7
  have up : ∀ b o, b ≠ e → g4.get? b = some o → g7.get? b = some o := fun b o h1 q => e7.extBut b o h1 (e6.extBut b o h1 (e5.extBut b o h1 q))
  exact wpAny_bind (wpAny_letGo (wpAny_pure ⟨_, rfl, hQ g7 he7 (p4.go fun o q => up it o hne.symm q) (up _ _ (Nat.ne_of_gt el) t4) (by rw [e7.1, e6.1, e5.1, z4]) fun b o h1 h2 hb => up b o h1 (k4 b o h1 h2 hb)⟩))
theorem pyNext_enum {k : Sk} {e it a : Addr} {i : Nat} {xs : Array Value} {x old : Value} {Q : Option Value → Shared → Prop} (he : IsEnum s.heap e it i old) (p : ItAt k s.heap it a i) (q : SqAt k s.heap a xs) (hx : xs[i]? = some x) (hne : e ≠ it)
    (hQ : ∀ g, IsEnumOut g e it ((i : Int) + 1) x s.heap.objs.size → ItAt k g it a (i + 1) → g.get? s.heap.objs.size = some { cls := .type "tuple", data := .seq #[.int i s.toks, x] } → g.objs.size = s.heap.objs.size + 1 →
      (∀ b o, b ≠ e → b ≠ it → s.heap.get? b = some o → g.get? b = some o) → Q (some (.ref s.heap.objs.size)) { s with heap := g, toks := s.toks + 1 }) : wpAny (model prog w) A (pyNext (.ref e)) Q E s := by
  have hT : s.TypeIs (.ref e) "enumerate" := ⟨_, he, rfl⟩
  unfold pyNext
  exact wpAny_bind (wpAny_attempt (wpAny_callSpecial?_slot (name := Str.ofString "__next__") hT F.slot_enumerate_next (wpAny_call_entry F.slot_enumerate_next hT F.entry_enumerate_next
    (enum_next he p q hx hne fun g a1 a2 a3 a4 a5 => wpAny_pure (hQ g a1 a2 a3 a4 a5)) (F.args_enumerate_next_1 _))))
theorem pyNext_enumStop {k : Sk} {e it a : Addr} {i : Nat} {xs : Array Value} {old : Value} {Q : Option Value → Shared → Prop} (hh : A.handled = none) (he : IsEnum s.heap e it i old) (p : ItAt k s.heap it a i) (q : SqAt k s.heap a xs) (hx : xs[i]? = none)
    (hQ : ∀ g, Heap.ExtBut it s.heap g → Q none { s with heap := g }) : wpAny (model prog w) A (pyNext (.ref e)) Q E s := by
  have hT : s.TypeIs (.ref e) "enumerate" := ⟨_, he, rfl⟩
  unfold pyNext
  refine wpAny_bind (wpAny_attempt (wpAny_callSpecial?_slot (name := Str.ofString "__next__") hT F.slot_enumerate_next (wpAny_call_entry F.slot_enumerate_next hT F.entry_enumerate_next ?_ (F.args_enumerate_next_1 _))))
  show wpAny _ _ (field (.ref e) 2 >>= _) _ _ _; refine wpAny_bind (wpAny_field he rfl (x := .ref it) rfl ?_)
  refine wpAny_bind (nxt_end hh p q hx fun g x hk hs => ?_)
  obtain ⟨o, h1, h2⟩ := hs
  exact wpAny_bind (wpAny_isInstance (T := "StopIteration") (b := true) ⟨o, h1, h2⟩ isSubtype_stop (wpAny_pure (hQ _ hk)))
end
theorem new_enumT (a : Addr) (xs : Array Value) (n : Nat) (dct : Option Addr) (sl : Array (Option Value)) :
    Meets (Builtin.«enumerate.__new__» ⟨[.type "enumerate", .ref a], []⟩) (fun _ R s => s.heap.get? a = some { cls := .type "tuple", dict := dct, data := .seq xs n, slots := sl } ∧
      R (.ok (.ret (.ref (s.heap.push (itObj .t a)).objs.size))) { s with heap := (s.heap.push (itObj .t a)).push { cls := .type "enumerate", data := .fields #[.none, .bool false, .ref s.heap.objs.size, rawInt 0, .none, .none] } }) :=
  .of_wp fun prog w A R s h => by
    obtain ⟨hp, g, d, tk, os⟩ := s; obtain ⟨hl, h⟩ := h
    have hsub := sub_enumerate
    have hL : Heap.IsTuple (Shared.heap ⟨hp, g, d, tk, os⟩) a xs := ⟨_, hl, rfl, n, rfl⟩
    wp_walk using wpAny_loadPart' hl
    refine wpAny_stack_any fun st => wpAny_pure ?_
    split
    · rename_i c _ _ _ _ _
      cases (c == Value.type "enumerate")
      · wp_walk using wpAny_loadPart' hl, wpAny_pyIter_tuple hL
        exact ⟨_, rfl, h⟩
      · wp_walk using wpAny_loadPart' hl, wpAny_pyIter_tuple hL
        exact ⟨_, rfl, h⟩
    · wp_walk using wpAny_loadPart' hl, wpAny_pyIter_tuple hL
      exact ⟨_, rfl, h⟩
section
variable {prog : Program} {w : World} {A : Around} {E : Value → Shared → Prop} {s : Shared}
theorem call_enumU {k : Sk} {a : Addr} {xs : Array Value} {Q : Value → Shared → Prop} (q : SqAt k s.heap a xs)
    (h : ∀ g, IsEnum g (s.heap.objs.size + 1) s.heap.objs.size 0 .none → ItAt k g s.heap.objs.size a 0 → (∀ b o, s.heap.get? b = some o → g.get? b = some o) → Q (.ref (s.heap.objs.size + 1)) { s with heap := g }) :
    wpAny (model prog w) A (call (.type "enumerate") [.ref a]) Q E s := by
  cases k
  · exact call_enumerate_list q fun g h1 h2 _ h3 => h g h1 h2 h3
  · obtain ⟨⟨c, dct, dt, sl⟩, hl, hc, n, hd⟩ := q
    replace hc : c = .type "tuple" := hc
    replace hd : dt = .seq xs n := hd
    subst hc hd
    refine callType_new F.called_enumerate (by decide) (F.typeCall_enumerate_1 _) (F.newCall_enumerate_1 _) (fun obj => F.args_object_init_2 obj _) F.entry_enumerate_new (new_enumT a xs n dct sl) ⟨hl, ?_⟩
    have hz : (s.heap.push (itObj .t a)).objs.size = s.heap.objs.size + 1 := Heap.size_push ..
    show _ ∧ _
    rw [hz]
    have he : IsEnum ((s.heap.push (itObj .t a)).push { cls := .type "enumerate", data := .fields #[.none, .bool false, .ref s.heap.objs.size, rawInt 0, .none, .none] }) (s.heap.objs.size + 1) s.heap.objs.size 0 .none := by
      have q := Heap.get?_push_size (s.heap.push (itObj .t a)) (o := { cls := .type "enumerate", data := .fields #[.none, .bool false, .ref s.heap.objs.size, rawInt 0, .none, .none] }) rfl
      rw [hz] at q; exact q
    exact ⟨⟨_, he, rfl⟩, h _ he (.of (Heap.get?_push_of_some _ (Heap.get?_push_size _ rfl)) rfl rfl) fun b o x => Heap.get?_push_of_some _ (Heap.get?_push_of_some _ x)⟩
  · exact call_enumerate_list q fun g h1 h2 _ h3 => h g h1 h2 h3
end
def IteU (K : Frag) (k : Sk) (a : Addr) : It :=
  ⟨fun i H => ∃ (xs : List V) (x : V), SqK k K H a xs ∧ xs[i]? = some x, fun i H v H' => ∃ T x, v = .ref T ∧ H T = none ∧ H' = upd H T (.tup [.int (i : Nat), x]) ∧ ∀ xs, SqK k K H a xs → xs[i]? = some x, fun i H => ∃ xs : List V, SqK k K H a xs ∧ xs.length ≤ i⟩
theorem turn_enumU {P : Program} {w : World} {K : Frag} {elts : List Expr} {kk : Nat} {tpos : Pos} {k : Sk} (a e it : Addr) :
    Turn P w K (.Tuple elts kk tpos) (IteU K k a) [e, it] e (fun i h => (∃ old, IsEnum h e it ((i : Nat) : Int) old) ∧ ItAt k h it a i ∧ e ≠ it) where
  mem := by simp
  obj := fun i h ⟨⟨old, he⟩, p, _⟩ b hb => by
    obtain ⟨o, e1, _, d1⟩ := p.ob
    have e' : b = e ∨ b = it := by simpa using hb
    rcases e' with q | q <;> subst q
    · exact ⟨_, he, fun v q => nomatch q⟩
    · exact ⟨o, e1, fun v q => by rw [d1] at q; cases q⟩
  keep := fun i h h' ⟨⟨old, he⟩, p, ne⟩ q => ⟨⟨old, q e (by simp) _ he⟩, p.go fun o z => q it (by simp) o z, ne⟩
  item := by
    intro X hP hw hK hc i pins s σ H E I hf st hg
    subst hP hw hK
    obtain ⟨⟨old, he⟩, p, ne⟩ := st
    obtain ⟨xs, x, hq, hx⟩ := hg
    obtain ⟨its, rv, q1⟩ := hq.at I
    obtain ⟨u, hu, ru⟩ := rv.get hx
    have el : e < s.heap.objs.size := Heap.lt_size he
    obtain ⟨o1, e1, _⟩ := p.ob
    refine pyNext_enum he p q1 (x := u) (by simpa using hu) ne fun g ho p' hT hs rk => ?_
    refine ⟨_, rfl, wpAny_letOwnedTupleGo_enum (s := { s with heap := g, toks := s.toks + 1 }) ho fun g2 he' sb => ?_⟩
    have t2 : g2.get? s.heap.objs.size = some { cls := .type "tuple", data := .seq #[.int i s.toks, u] } := (sb.2 _ (Nat.ne_of_gt el)).trans hT
    have new : ObjOk X.prog X.w (upd H s.heap.objs.size (.tup [.int (i : Nat), x])) g2 s.heap.objs.size (.tup [.int (i : Nat), x]) := ⟨(by decide : 2 ≤ sizeLine), [.int i s.toks, u], .cons ⟨_, rfl⟩ (.cons ru .nil), ⟨_, t2, rfl, _, rfl⟩⟩
    have I1 : Inv X pins σ (upd H s.heap.objs.size (.tup [.int (i : Nat), x])) { s with heap := g2, toks := s.toks + 1 } := I.turnedNew (ch := [e, it])
      (fun b ob hb q => (sb.2 b (fun z => hb (by simp [z]))).trans (rk b ob (fun z => hb (by simp [z])) (fun z => hb (by simp [z])) q)) hf (Nat.le_refl _) new
    refine ⟨.ref s.heap.objs.size, _, I1, rfl, ⟨_, x, rfl, I.hok.fresh (Nat.le_refl _), rfl, fun ys hy => by rw [hy.inj I hq]; exact hx⟩, ⟨⟨u, ?_⟩, p'.go fun o q => (sb.2 it ne.symm).trans q, ne⟩, fun b hb => ?_⟩
    · have e1 : ((i + 1 : Nat) : Int) = (i : Int) + 1 := by omega
      rw [e1]; exact he'
    · have lt : b < s.heap.objs.size := by
        have e' : b = e ∨ b = it := by simpa using hb
        rcases e' with q | q <;> subst q
        · exact el
        · exact Heap.lt_size e1
      rw [upd_ne (Nat.ne_of_lt lt)]
      exact (hf b hb).1
  done := by
    intro X hP hw hK hc i pins s σ H E I hf st hg
    subst hP hw hK
    obtain ⟨⟨old, he⟩, p, ne⟩ := st
    obtain ⟨xs, hq, hx⟩ := hg
    obtain ⟨its, rv, q1⟩ := hq.at I
    obtain ⟨f0, f1, f2, f3, f4, f5⟩ := hf it (by simp)
    have l1 := rv.length
    exact pyNext_enumStop (I.ok.hd hc) he p q1 (by simp; omega) fun g rk => ⟨rfl, I.turned (t' := s.toks) (fun b o hb q => rk b o hb q) f0 f1 f3 f4 f5⟩
  self := fun A i s Q E st h => let ⟨⟨_, he⟩, _⟩ := st; wpAny_pyIter_enum he h
def iEnumU (K : Frag) (ta : TA) : TI := fun σ H R => ta σ H fun vs H1 => ∃ a xs k, vs = [.ref a] ∧ SqK k K H1 a xs ∧ R (IteU K k a) H1
theorem pi_enumU {X : Cx} {e : Expr} {ta : TA} {p pos tpos : Pos} {elts : List Expr} {kk : Nat} (hg : Gl X "enumerate") (hm : X.mg "enumerate" = none) (ha : PA X [e] ta) (hs : starEach [e] X.env = [(false, eval e X.env)] := by rfl) :
    PI X (.Tuple elts kk tpos) (.Call (.Name "enumerate" p) [e] [] pos) (iEnumU X.K ta) := by
  refine ⟨fun pins s σ H R I h => ?_⟩
  refine Call_ (ld_blt I hg hm boot_enumerate (PyProof.Rows.callWith_type1 (thn (ha.run pos pins s σ H _ I h) fun us s1 ⟨vs, H1, I1, r1, q1⟩ => ?_) hs rfl))
  obtain ⟨a, xs, k, ex, hq, q⟩ := q1
  subst ex
  cases r1 with
  | cons r rr =>
    cases rr
    cases r
    obtain ⟨its, rv, q1⟩ := hq.at I1
    refine call_enumU q1 fun g he p rk => wpAny_pyIter_enum he ?_
    have I2 : Inv X pins σ H1 { s1 with heap := g } := I1.kept (t' := s1.toks) rk
    refine ⟨s1.heap.objs.size + 1, [s1.heap.objs.size + 1, s1.heap.objs.size], _, _, H1, rfl, I2, turn_enumU a (s1.heap.objs.size + 1) s1.heap.objs.size, ⟨⟨.none, he⟩, p, Nat.succ_ne_self _⟩, fun b hb => ?_, q⟩
    have hle : s1.heap.objs.size ≤ b := by
      have e' : b = s1.heap.objs.size + 1 ∨ b = s1.heap.objs.size := by simpa using hb
      rcases e' with z | z <;> rw [z] <;> simp
    exact I1.fpOk hle (I1.hok.fresh hle)
end TZ
namespace TL
open PySem L2
open PySem.W (Frag)
section
variable {K : Frag} {w : Wd} {n : Option Nat} {Γ : Env} {α β : Type} {t : Ty α} {u : Ty β} {ta tb : TE}
/-- a list, or one that is locked: read alone -/
def tR (t : Ty α) : Ty (List α) := ⟨fun B v xs => ∃ a vs, v = .ref a ∧ Rd B a (.lst vs) ∧ Paired (t.rep B) vs xs,
  fun e ⟨a, vs, h, s, p⟩ => ⟨a, vs, h, e.rd s, pw_mono (fun _ _ => t.mono e) p⟩⟩
/-- a sequence of the kind k -/
def tQ (k : TZ.Sk) (t : Ty α) : Ty (List α) := match k with
  | .l => tL t
  | .t => tU t
  | .s => tR t
theorem tQ_at {k : TZ.Sk} {B H : Hp} {v : V} {xs : List α} (h : (tQ k t).rep B v xs) (e : Ex B H) : ∃ a vs, v = .ref a ∧ TZ.SqK k K H a vs ∧ Paired (t.rep B) vs xs := by
  cases k
  · obtain ⟨a, vs, h1, h2, h3⟩ := h; exact ⟨a, vs, h1, SqL.of (e _ _ h2), h3⟩
  · obtain ⟨a, vs, h1, h2, h3⟩ := h; exact ⟨a, vs, h1, SqT.of (e _ _ h2), h3⟩
  · obtain ⟨a, vs, h1, h2, h3⟩ := h; exact ⟨a, vs, h1, .inl (e.rd h2), h3⟩
theorem SqKmono {k : TZ.Sk} {B H : Hp} {a : Addr} {vs : List V} (e : Ex B H) (h : TZ.SqK k K B a vs) : TZ.SqK k K H a vs := by
  cases k
  · exact e.l h
  · exact e.t h
  · exact e.l h
theorem iter_zip {k k' : TZ.Sk} {B : Hp} {a b : Addr} {vs us : List V} {xs : List α} {ys : List β} (h1 : TZ.SqK k K B a vs) (h2 : TZ.SqK k' K B b us) (p : Paired (t.rep B) vs xs) (q : Paired (u.rep B) us ys) : Iter (tP t u) (xs.zip ys) (TZ.ItzU K k k' a b) B := by
  have l1 := pw_len p
  have l2 := pw_len q
  refine ⟨fun H1 e => ⟨vs, us, SqKmono e h1, SqKmono e h2, ?_⟩, fun i H1 e hi => ?_, fun i x H1 B1 v H' hx e1 e2 hy => ?_⟩
  · rw [List.length_zip]; omega
  · rw [List.length_zip] at hi
    exact ⟨vs, us, vs[i]'(by omega), us[i]'(by omega), SqKmono e h1, SqKmono e h2, by simp, by simp⟩
  · obtain ⟨T, x1, y1, rfl, hT, rfl, r1, r2⟩ := hy
    have g1 := r1 vs (SqKmono (e1.trans e2) h1)
    have g2 := r2 us (SqKmono (e1.trans e2) h2)
    have hx' : xs[i]? = some x.1 ∧ ys[i]? = some x.2 := by
      rw [List.getElem?_zip_eq_some] at hx; exact hx
    obtain ⟨v1, k1, f1⟩ := pw_getR p hx'.1
    obtain ⟨v2, k2, f2⟩ := pw_getR q hx'.2
    rw [g1] at k1; cases k1
    rw [g2] at k2; cases k2
    have gr := Grow.new (o := .tup [x1, y1]) e2 hT
    exact ⟨_, gr, T, x1, y1, rfl, upd_same, t.mono (e1.trans gr.b) f1, u.mono (e1.trans gr.b) f2⟩
theorem wi_zip {k k' : TZ.Sk} {kk : List (α × β) → NK} (h : WpE K w n Γ ta (tQ k t) (fun xs n Γ => WpE K w n Γ tb (tQ k' u) (fun ys n Γ => kk (xs.zip ys) n Γ))) : WpI K w n Γ (TZ.iZipU K (tCons ta (tCons tb tNil))) (tP t u) kk := fun σ B H ok R c =>
  h σ B H ok _ fun xs v n1 Γ1 B1 H1 q1 e1 o1 r1 => q1 σ B1 H1 o1 _ fun ys v2 n2 Γ2 B2 H2 q e2 o2 r2 => by
    obtain ⟨a, vs, rfl, s1, p⟩ := tQ_at (K := K) ((tQ k t).mono e2 r1) (Ex.refl B2)
    obtain ⟨b, us, rfl, s2, p'⟩ := tQ_at (K := K) r2 (Ex.refl B2)
    exact ⟨a, b, vs, us, k, k', rfl, SqKmono o2.ex s1, SqKmono o2.ex s2, c _ _ n2 Γ2 B2 H2 q (e1.trans e2) o2 (iter_zip s1 s2 p p')⟩
def enumL (xs : List α) : List (Int × α) := (List.range xs.length).map (fun (i : Nat) => (i : Int)) |>.zip xs
theorem enumL_get {xs : List α} {i : Nat} {x : Int × α} (h : (enumL xs)[i]? = some x) : x.1 = i ∧ xs[i]? = some x.2 := by
  unfold enumL at h
  rw [List.getElem?_zip_eq_some] at h
  obtain ⟨h1, h2⟩ := h
  rw [List.getElem?_map] at h1
  cases z : (List.range xs.length)[i]? with
  | none => rw [z] at h1; cases h1
  | some c =>
    rw [z] at h1
    obtain ⟨q1, q2⟩ := List.getElem?_eq_some_iff.mp z
    have hc : c = i := by rw [← q2]; simp
    have e := Option.some.inj h1
    exact ⟨by rw [← e, hc], h2⟩
theorem enumL_length {xs : List α} : (enumL xs).length = xs.length := by unfold enumL; simp
theorem iter_enum {k : TZ.Sk} {B : Hp} {a : Addr} {vs : List V} {xs : List α} (h1 : TZ.SqK k K B a vs) (p : Paired (t.rep B) vs xs) : Iter (tP tI t) (enumL xs) (TZ.IteU K k a) B := by
  have l1 := pw_len p
  refine ⟨fun H1 e => ⟨vs, SqKmono e h1, by rw [enumL_length]; omega⟩, fun i H1 e hi => ?_, fun i x H1 B1 v H' hx e1 e2 hy => ?_⟩
  · rw [enumL_length] at hi
    exact ⟨vs, vs[i]'(by omega), SqKmono e h1, by simp⟩
  · obtain ⟨T, x1, rfl, hT, rfl, r1⟩ := hy
    have g1 := r1 vs (SqKmono (e1.trans e2) h1)
    obtain ⟨hi, hx'⟩ := enumL_get hx
    obtain ⟨v1, k1, f1⟩ := pw_getR p hx'
    rw [g1] at k1; cases k1
    have gr := Grow.new (o := .tup [.int (i : Nat), x1]) e2 hT
    exact ⟨_, gr, T, .int (i : Nat), x1, rfl, upd_same, by show V.int _ = V.int _; rw [hi], t.mono (e1.trans gr.b) f1⟩
theorem wi_enum {k : TZ.Sk} {kk : List (Int × α) → NK} (h : WpE K w n Γ ta (tQ k t) (fun xs n Γ => kk (enumL xs) n Γ)) : WpI K w n Γ (TZ.iEnumU K (tCons ta tNil)) (tP tI t) kk := fun σ B H ok R c =>
  h σ B H ok _ fun xs v n1 Γ1 B1 H1 q e o r => by
    obtain ⟨a, vs, rfl, s1, p⟩ := tQ_at (K := K) r (Ex.refl B1)
    exact ⟨a, vs, k, rfl, SqKmono o.ex s1, c _ _ n1 Γ1 B1 H1 q e o (iter_enum s1 p)⟩
/-! sequences whose kind is open -/
theorem we_ixVQ {q : TZ.Sk} {i : Nat} {xs : List α} {k : α → NK} (h : Γ[i]? = some (.im (tQ q t) xs)) (z : WpE K w n Γ tb tI (fun j n Γ => ∃ x, atI xs j = some x ∧ k x n Γ)) : WpE K w n Γ (tOp (rIx K) (tVar i) tb) t k :=
  we_ixS (s := tQ q t) (fun {B v xs} r => by
    obtain ⟨a, vs, h1, h2, h3⟩ := tQ_at (K := K) r (Ex.refl B)
    refine ⟨a, vs, h1, ?_, h3⟩
    cases q
    · exact .inl h2
    · exact .inr h2
    · exact .inl h2) (we_var h z)
theorem we_lenVQ {q : TZ.Sk} {i : Nat} {xs : List α} {k : Int → NK} (h : Γ[i]? = some (.im (tQ q t) xs)) (z : k (xs.length : Int) n Γ) : WpE K w n Γ (tCB (rLenU K) (tCons (tVar i) tNil)) tI k :=
  we_len (s := tQ q t) (fun {B v x H} r e => by
    obtain ⟨a, vs, rfl, h2, h3⟩ := tQ_at (K := K) r e
    cases q
    · exact .inl ⟨vs, h2, (pw_len h3).symm⟩
    · exact .inr ⟨vs, h2, (pw_len h3).symm⟩
    · exact .inl ⟨vs, h2, (pw_len h3).symm⟩) (we_var h z)
theorem wi_seqQ {q : TZ.Sk} {k : List α → NK} (h : WpE K w n Γ ta (tQ q t) k) : WpI K w n Γ (iSeq K ta) t k := by
  cases q
  · exact wi_list h
  · exact wi_tup h
  · exact fun σ B H ok R c => .inl (h σ B H ok _ fun xs v n1 Γ1 B1 H1 q e o ⟨a, vs, hv, hs, p⟩ => ⟨a, hv, ⟨vs, .inl (o.ex.rd hs)⟩, c xs _ n1 Γ1 B1 H1 q e o (iter_list (K := K) (.inl hs) p)⟩)
theorem wm_listQ {q : TZ.Sk} {k : Rs → NK} (h : WpE K w n Γ ta (tQ q t) (fun xs n Γ => k (rL t xs) n Γ)) : WpM K w n Γ (tCB (rListU K) (tCons ta tNil)) k := by
  cases q
  · exact wm_listL h
  · exact wm_listU h
  · exact wm_list (t := t) (s := tR t) (fun ⟨a, vs, h, s, p⟩ => ⟨a, vs, h, .inl (.inl s), p⟩) h
/-! ghosts: what the caller knows and the callee may lean on -/
def aGh {A γ : Type} (T : TyA A) : TyA (A × γ) := ⟨fun d B vs a => T.rep d B vs a.1, fun e h => T.mono e h⟩
instance {A γ : Type} {T : TyA A} [E : Ents T] : Ents (aGh (γ := γ) T) := ⟨E.len, fun a => E.ents a.1, fun h => E.ok h⟩
theorem wa_gh {A γ : Type} {T : TyA A} {ta : TA} {k : A × γ → NK} (g : γ) (h : WpA K w n Γ ta T (fun a n Γ => k (a, g) n Γ)) : WpA K w n Γ ta (aGh T) k := fun σ B H ok Q c => h σ B H ok Q fun a vs n' Γ' B' H' q => c (a, g) vs n' Γ' B' H' q
/-- one of several promises -/
def SpEx {ι : Type} (f : ι → Sp) : Sp := fun vs H Q E => ∃ i, f i vs H Q E
theorem fn_ex {ι : Type} {f : ι → Sp} {P : Program} {ww : World} {mg : Str → Option Value} {base : Heap} {CX : CXT} {kk : Nat} {a : Addr} {fd : FuncData} {ps : List Str} (h : ∀ i, FnOk P ww K mg base CX kk a fd ps (f i)) : FnOk P ww K mg base CX kk a fd ps (SpEx f) :=
  ⟨fun vs H Q E ⟨i, q⟩ => (h i).len vs H Q E q, fun A outer s H args us vs Q E hr he hb hv ⟨i, q⟩ => (h i).run A outer s H args us vs Q E hr he hb hv q⟩
theorem we_callX {ι : Type} {S : ι → FS K} (i : ι) {E : XK} {ta : TA} {t : Ty (S i).ρ} {k : (S i).ρ → NK} (hres : (S i).res = fun x => .im t x) (hc : (S i).cost = 0) (h : WpA K w n Γ ta (S i).args (fun a n Γ => (S i).pre a ∧ ∀ x, (S i).post a x → k x n Γ)) :
    WpE K w n Γ (tCall (SpEx fun i => (S i).sp) [] E ta) t k := fun σ B H ok Q c =>
  h σ B H ok _ fun a vs n1 Γ1 B1 H1 ⟨hp, q⟩ e o r => by
    rw [List.append_nil]
    refine ⟨i, w.d, w.ca, w.cs, n1, B1, a, o.entry, r, hp, .inl hc, fun x v n' B' H' hx hcc e' o' s => ?_⟩
    rw [hres] at s
    obtain ⟨v', h1, h2⟩ := s
    cases h1
    rcases hcc with ⟨_, rfl⟩ | ⟨m, rfl, rfl⟩
    · exact c x v _ Γ1 B' H' (q x hx) (e.trans e') (o.back o') h2
    · rw [hc] at o'; exact c x v _ Γ1 B' H' (q x hx) (e.trans e') (o.back o') h2
theorem wm_callX {ι : Type} {S : ι → FS K} (i : ι) {E : XK} {ta : TA} {rs : (S i).ρ → Rs} {k : Rs → NK} (hres : (S i).res = fun x => .mu (rs x)) (hc : (S i).cost = 0) (h : WpA K w n Γ ta (S i).args (fun a n Γ => (S i).pre a ∧ ∀ x, (S i).post a x → k (rs x) n Γ)) :
    WpM K w n Γ (tCall (SpEx fun i => (S i).sp) [] E ta) k := fun σ B H ok Q c =>
  h σ B H ok _ fun a vs n1 Γ1 B1 H1 ⟨hp, q⟩ e o r => by
    rw [List.append_nil]
    refine ⟨i, w.d, w.ca, w.cs, n1, B1, a, o.entry, r, hp, .inl hc, fun x v n' B' H' hx hcc e' o' s => ?_⟩
    rw [hres] at s
    obtain ⟨l, ob, h1, h2, h3, h4, h5⟩ := s
    cases h1
    have ow : Own w Γ1 σ B' H' (rs x) l := by
      refine ⟨⟨ob, h2, h5⟩, h3, ?_, fun i e' hi z => ?_⟩
      · cases q : w.H0 l with
        | none => rfl
        | some u =>
          have h4' : H1 l = none := h4
          have ne : l ≠ w.d := fun z => noS h4' (z ▸ o.hh)
          rw [o.kp l u q ne] at h4'; cases h4'
      · obtain ⟨o', k2, _⟩ := (o.sl i _ hi).owned z
        have h4' : H1 l = none := h4
        rw [h4'] at k2; cases k2
    rcases hcc with ⟨_, rfl⟩ | ⟨m, rfl, rfl⟩
    · exact c (rs x) l _ Γ1 B' H' (q x hx) (e.trans e') (o.back o') ow
    · rw [hc] at o'; exact c (rs x) l _ Γ1 B' H' (q x hx) (e.trans e') (o.back o') ow
end
end TL

/-! # TL: rules of derivations with the written part named (so that a comprehension's block reads as its def does) -/
namespace TL
open PySem L2
open PySem.W (Frag)
section
variable {X : Cx} (K : Frag) (hK : X.K = K)
include hK
theorem op_eqK (hu : X.A.units + 64 < cLine) : OpR X (compareOp .Eq) (rEqU K) := hK ▸ op_eqU hu
theorem op_neK (hu : X.A.units + 64 < cLine) : OpR X (compareOp .NotEq) (rNeU K) := hK ▸ op_neU hu
theorem ix_seqK : IxR X (rIx K) := hK ▸ ix_seq
theorem sl_listK : SlR X (rSlL K) := hK ▸ sl_list
theorem call_lenK : CallR X (.builtin "len") (rLenU K) := hK ▸ call_lenU
theorem call_listK : CallR X (.type "list") (rListU K) := hK ▸ call_listU
theorem call_tupleK : CallR X (.type "tuple") (rTupleU K) := hK ▸ call_tupleU
theorem call_isiK' : CallR X (.builtin "isinstance") (rIsi K) := hK ▸ call_isi
theorem cr_sumK (hc : X.calm = true) : CallR X (.builtin "sum") (rSum K) := hK ▸ cr_sum hc
/-- a value's truth -/
def tTru (K : Frag) (ta : TE) : TT := fun σ H Q => ta σ H fun x H' => ∃ k, TruV K x H' k ∧ Q k H'
theorem pt_truthK {a : Expr} {ta : TE} (ha : PE X a ta) (he : ∀ whole, isTrue a X.env whole = (do let v ← whole; standAt a.pos; holding [v] (truthy v))) : PT X a (tTru K ta) := by
  subst hK; exact pt_truth ha he
theorem pi_seqK {tg l : Expr} {tl : TE} (h : PE X l tl) : PI X tg l (iSeq K tl) := by
  subst hK; exact piOr (pi_list h) (pi_tup h)
theorem pi_zipK {e e2 : Expr} {ta : TA} {p pos tpos : Pos} {elts : List Expr} {kk : Nat} (hg : Gl X "zip") (hm : X.mg "zip" = none) (ha : PA X [e, e2] ta) (hs : starEach [e, e2] X.env = (false, eval e X.env) :: starEach [e2] X.env := by rfl)
    (hpl : (backTo pos (starEach [e2] X.env)).any (·.1) = false := by rfl) : PI X (.Tuple elts kk tpos) (.Call (.Name "zip" p) [e, e2] [] pos) (TZ.iZipU K ta) := by
  subst hK; exact TZ.pi_zipU hg hm ha hs hpl
theorem pi_enumK {e : Expr} {ta : TA} {p pos tpos : Pos} {elts : List Expr} {kk : Nat} (hg : Gl X "enumerate") (hm : X.mg "enumerate" = none) (ha : PA X [e] ta) (hs : starEach [e] X.env = [(false, eval e X.env)] := by rfl) :
    PI X (.Tuple elts kk tpos) (.Call (.Name "enumerate" p) [e] [] pos) (TZ.iEnumU K ta) := by
  subst hK; exact TZ.pi_enumU hg hm ha hs
theorem pg_tupK {es : List Expr} {k : Nat} {t : TGs} {n : Nat} {pos : Pos} (hc : X.calm = true) (h : PGs X es t) (hn : (assignEach es X.env).length = n := by rfl) (hst : (assignEach es X.env).findIdx? (·.1) = none := by rfl) : PG X (.Tuple es k pos) (gTup K n t) := by
  subst hK; exact pg_tup hc h hn hst
end
section
variable {K : Frag} {w : Wd} {n : Option Nat} {Γ : Env} {α : Type} {t : Ty α} {ta : TE} {kt kf : NK}
theorem wt_truB (h : WpE K w n Γ ta tBo (fun b n Γ => (b = true → kt n Γ) ∧ (b = false → kf n Γ))) : WpT K w n Γ (tTru K ta) kt kf := fun σ B H ok Q ct cf =>
  h σ B H ok _ fun b v n1 Γ1 B1 H1 ⟨h1, h2⟩ e o r => by
    cases r
    refine ⟨b, rfl, ?_⟩
    cases b with
    | true => exact ct n1 Γ1 B1 H1 (h1 rfl) e o
    | false => exact cf n1 Γ1 B1 H1 (h2 rfl) e o
theorem wt_truLs (h : WpE K w n Γ ta (tL t) (fun xs n Γ => (xs ≠ [] → kt n Γ) ∧ (xs = [] → kf n Γ))) : WpT K w n Γ (tTru K ta) kt kf := wt_truL (xs := []) (t := t) h
/-- isinstance, the kinds known -/
theorem we_isiI_int {k : Bool → NK} (h : WpE K w n Γ ta tI (fun _ n Γ => k true n Γ)) : WpE K w n Γ (tCB (rIsi K) (tCons ta (tCons (tC (.ty "int")) tNil))) tBo k := we_isi (t := tI) (tn := "int") tyI rfl h
theorem we_isiI_bool {k : Bool → NK} (h : WpE K w n Γ ta tI (fun _ n Γ => k false n Γ)) : WpE K w n Γ (tCB (rIsi K) (tCons ta (tCons (tC (.ty "bool")) tNil))) tBo k := we_isi (t := tI) (tn := "int") tyI rfl h
theorem we_isiL_list {k : Bool → NK} (h : WpE K w n Γ ta (tL t) (fun _ n Γ => k true n Γ)) : WpE K w n Γ (tCB (rIsi K) (tCons ta (tCons (tC (.ty "list")) tNil))) tBo k := we_isi (t := tL t) (tn := "list") tyL rfl h
theorem true2 {A B : Prop} (h : A) : (true = true → A) ∧ (true = false → B) := ⟨fun _ => h, (fun q => nomatch q)⟩
theorem false2 {A B : Prop} (h : B) : (false = true → A) ∧ (false = false → B) := ⟨(fun q => nomatch q), fun _ => h⟩
end
end TL

/-! # TL: own lists lent out; comprehensions in short -/
namespace TL
open PySem L2
open PySem.W (Frag)
section
variable {K : Frag} {w : Wd} {n : Option Nat} {Γ : Env} {α β γ δ ρ A : Type} {t : Ty α} {u : Ty β} {ta tb te : TE} {ts ts' : TS} {res : ρ → Ent} {nx bk ct : NK} {rt : ρ → Option Nat → Prop}
theorem Ok.lend {σ : L2.St} {B H : Hp} {i : Nat} {xs : List α} (ok : Ok K w n Γ σ B H) (h : Γ[i]? = some (.ml t xs)) : ∃ B1, Ex B B1 ∧ Ok K ⟨w.d, w.ca, w.cs, B1, H⟩ n (hideE (Γ.set i (.im (tL t) xs)) []) σ B1 H := by
  obtain ⟨B1, e1, o1⟩ := ok.freezeL h
  exact ⟨B1, e1, o1.inner []⟩
theorem Ok.unlend {σ : L2.St} {B H B1 B' H' : Hp} (ok : Ok K w n Γ σ B H) (e : Ex B B1) (c : Ok K ⟨w.d, w.ca, w.cs, B1, H⟩ n [] [] B' H') : Ok K w n Γ σ B H' := by
  have eb : Ex B B' := e.trans c.ex0
  refine ⟨eb.trans c.ex, ok.ex0, ok.nw, fun a o q ne => c.kp a o (ok.kp a o q ne) ne, ok.hd, c.hh, fun m q => ?_, ok.ln, fun i en q => ?_, ok.ds⟩
  · obtain ⟨fr, a, l, h1, h2, h3, h4, h5, h6⟩ := c.pn m q
    obtain ⟨fr', a', l', k1, k2, _⟩ := ok.pn m q
    exact ⟨fr', a, l, h1, k2, h3, h4, h5, h6⟩
  · have s := ok.sl i en q
    refine s.keep (Ex.refl _) rfl fun a ha => ?_
    obtain ⟨o, h2, h3, h4⟩ := s.owned ha
    have ne : a ≠ w.d := fun z => noS h4 (z ▸ ok.hd)
    exact ⟨by rw [h2]; exact c.kp a o h2 ne, h3, h4⟩
/-- a test that reads one's own list, which stays one's own -/
theorem wt_borrow {tt : TT} {kt kf : NK} (i : Nat) {xs : List α} (hi : Γ[i]? = some (.ml t xs))
    (h : ∀ w' : Wd, SetE (hideE (Γ.set i (.im (tL t) xs)) []) fun Γ' => WpT K w' n Γ' tt (fun n' _ => n' = n ∧ kt n Γ) (fun n' _ => n' = n ∧ kf n Γ)) : WpT K w n Γ tt kt kf := fun σ B H ok Q ct cf => by
  obtain ⟨B1, e1, o1⟩ := ok.lend hi
  exact h _ σ B1 H o1 Q (fun n' Γ' B' H' ⟨hn, q⟩ e o => by subst hn; exact ct _ Γ B H' q (Ex.refl _) (ok.unlend e1 o.nil)) (fun n' Γ' B' H' ⟨hn, q⟩ e o => by subst hn; exact cf _ Γ B H' q (Ex.refl _) (ok.unlend e1 o.nil))
/-- nothing of the store -/
def Flat (t : Ty α) : Prop := ∀ B B' v x, t.rep B v x → t.rep B' v x
theorem flatI : Flat tI := fun _ _ _ _ h => h
theorem flatB : Flat tBo := fun _ _ _ _ h => h
theorem flatS : Flat tS := fun _ _ _ _ h => h
theorem flatN : Flat tN := fun _ _ _ _ h => h
theorem we_borrow {k : β → NK} (i : Nat) (hf : Flat u) {xs : List α} (hi : Γ[i]? = some (.ml t xs)) (h : ∀ w' : Wd, SetE (hideE (Γ.set i (.im (tL t) xs)) []) fun Γ' => WpE K w' n Γ' te u (fun x n' _ => n' = n ∧ k x n Γ)) : WpE K w n Γ te u k := fun σ B H ok Q c => by
  obtain ⟨B1, e1, o1⟩ := ok.lend hi
  exact h _ σ B1 H o1 Q fun x v n' Γ' B' H' ⟨hn, q⟩ e o r => by subst hn; exact c x v _ Γ B H' q (Ex.refl _) (ok.unlend e1 o.nil) (hf _ _ _ _ r)

/-! ### comprehensions in short -/
structure Map3 (a b c : Prop) : Prop where
  h0 : a
  hs : b
  he : c
theorem wg_mono {g : TG} {x : α} {k k' : NK} (h : WpG K w n Γ g t x k) (m : ∀ n Γ, k n Γ → k' n Γ) : WpG K w n Γ g t x k' := fun σ B H ok v r Q c =>
  h σ B H ok v r Q fun n' Γ' σ' B' H' q => c n' Γ' σ' B' H' (m _ _ q)
theorem wi_mono {wi : TI} {k k' : List α → NK} (h : WpI K w n Γ wi t k) (m : ∀ xs n Γ, k xs n Γ → k' xs n Γ) : WpI K w n Γ wi t k' := fun σ B H ok R c =>
  h σ B H ok R fun xs J n' Γ' B' H' q => c xs J n' Γ' B' H' (m _ _ _ q)
theorem wm_mono {k k' : Rs → NK} (h : WpM K w n Γ te k) (m : ∀ r n Γ, k r n Γ → k' r n Γ) : WpM K w n Γ te k' := fun σ B H ok R c =>
  h σ B H ok R fun xs J n' Γ' B' H' q => c xs J n' Γ' B' H' (m _ _ _ q)
/-- each item's image -/
theorem wm_map {wi : TI} {g : TG} {vs : List Nat} {kk : Rs → NK} (u : Ty β) (f : α → β) (hg : GSl g vs)
    (h : WpI K w n Γ wi t (fun xs n1 Γ => n1 = n ∧ Map3 (xs.length ≤ 100000) (∀ (w' : Wd) (i : Nat) x, xs[i]? = some x → SetE (hideE Γ vs) fun Γh => WpG K w' n Γh g t x (fun n1 Γ => WpE K w' n1 Γ te u (fun y n2 _ => y = f x ∧ n2 = n))) (kk (rL u (xs.map f)) n Γ))) :
    WpM K w n Γ (tLc wi g tYes te vs) kk := by
  refine wm_lc u (fun xs i ys n' => ys = (xs.take i).map f ∧ n' = n) hg (wi_mono h ?_)
  rintro xs n1 Γ1 ⟨rfl, hl, hs, he⟩
  refine ⟨⟨by simp, rfl⟩, ?_, ?_⟩
  · rintro w' i x ys n2 _ _ _ hx ⟨rfl, rfl⟩
    refine wg_mono (hs w' i x hx) fun n3 Γ3 q => wt_yes (we_mono q ?_)
    rintro y n4 Γ4 ⟨rfl, rfl⟩
    have hi := get_lt hx
    refine ⟨by simp; omega, ?_, rfl⟩
    rw [List.take_add_one, hx]; simp
  · rintro ys n2 ⟨rfl, rfl⟩
    rw [List.take_length]; exact he
theorem pw_unmap {F : α → β → Prop} : ∀ {xs : List α} {ys : List β}, Paired F xs ys → ∀ (i : Nat) x y, xs[i]? = some x → ys[i]? = some y → F x y := fun p i x y hx hy => by
  obtain ⟨b, h1, h2⟩ := pw_getL p hx
  rw [hy] at h1; cases h1; exact h2
/-- each item's image is drawn: c draws each -/
theorem wm_mapN {wi : TI} {g : TG} {vs : List Nat} {kk : Rs → NK} (u : Ty β) (P : α → β → Prop) (c m : Nat) (hn : n = some m) (hg : GSl g vs)
    (h : WpI K w n Γ wi t (fun xs n1 Γ => n1 = n ∧ Map3 (xs.length ≤ 100000) (∀ (w' : Wd) (i : Nat) x, xs[i]? = some x → SetE (hideE Γ vs) fun Γh => WpG K w' (some (m + c * i)) Γh g t x (fun n1 Γ => WpE K w' n1 Γ te u (fun y n2 _ => P x y ∧ n2 = some (m + c * i + c))))
      (∀ ys, Paired P xs ys → kk (rL u ys) (some (m + c * xs.length)) Γ))) :
    WpM K w n Γ (tLc wi g tYes te vs) kk := by
  subst hn
  refine wm_lc u (fun xs i ys n' => Paired P (xs.take i) ys ∧ n' = some (m + c * i)) hg (wi_mono h ?_)
  rintro xs n1 Γ1 ⟨rfl, hl, hs, he⟩
  refine ⟨⟨by simp; exact .nil, rfl⟩, ?_, ?_⟩
  · rintro w' i x ys n2 _ _ _ hx ⟨hp, rfl⟩
    refine wg_mono (hs w' i x hx) fun n3 Γ3 q => wt_yes (we_mono q ?_)
    rintro y n4 Γ4 ⟨hy, rfl⟩
    have hi := get_lt hx
    have hlen := pw_len hp
    rw [List.length_take] at hlen
    refine ⟨by omega, ?_, by rw [Nat.mul_succ, Nat.add_assoc]⟩
    rw [List.take_add_one, hx]; exact pw_snoc hp hy
  · rintro ys n2 ⟨hp, rfl⟩
    rw [List.take_length] at hp; exact he ys hp
end
end TL

/-! # TL: more rules -/
namespace TL
open PySem L2
open PySem.W (Frag)
section
variable {K : Frag} {w : Wd} {n : Option Nat} {Γ : Env} {α β γ δ ρ A : Type} {t : Ty α} {u : Ty β} {ta tb te : TE} {ts ts' : TS} {res : ρ → Ent} {nx bk ct : NK} {rt : ρ → Option Nat → Prop}
/-- a, b = x, y -/
theorem ws_par2 {i j : Nat} (h : WpE K w n Γ ta t (fun x n Γ => WpE K w n Γ tb u (fun y n Γ => SetE ((Γ.set i (.im t x)).set j (.im u y)) (nx n)))) : WpS K w n Γ (tPar i j (tCons ta (tCons tb tNil))) res nx bk ct rt := fun σ B H ok D a b c d =>
  h σ B H ok _ fun x v n1 Γ1 B1 H1 q1 e1 o1 r1 => q1 σ B1 H1 o1 _ fun y v2 n2 Γ2 B2 H2 q e2 o2 r2 => ⟨v, v2, rfl, a n2 _ _ B2 H2 q (e1.trans e2) ((o2.setIm (t.mono e2 r1)).setIm r2)⟩
theorem ws_par3 {s : Ty γ} {tc : TE} {i j l : Nat} (h : WpE K w n Γ ta t (fun x n Γ => WpE K w n Γ tb u (fun y n Γ => WpE K w n Γ tc s (fun z n Γ => SetE (((Γ.set i (.im t x)).set j (.im u y)).set l (.im s z)) (nx n))))) : WpS K w n Γ (tPar3 i j l (tCons ta (tCons tb (tCons tc tNil)))) res nx bk ct rt := fun σ B H ok D a b c d =>
  h σ B H ok _ fun x v n1 Γ1 B1 H1 q1 e1 o1 r1 => q1 σ B1 H1 o1 _ fun y v2 n2 Γ2 B2 H2 q2 e2 o2 r2 => q2 σ B2 H2 o2 _ fun z v3 n3 Γ3 B3 H3 q e3 o3 r3 =>
    ⟨v, v2, v3, rfl, a n3 _ _ B3 H3 q ((e1.trans e2).trans e3) (((o3.setIm (t.mono (e2.trans e3) r1)).setIm (u.mono e3 r2)).setIm r3)⟩
theorem we_neLI {k : Bool → NK} (h : WpE K w n Γ ta (tL tI) (fun a n Γ => WpE K w n Γ tb (tL tI) (fun b n Γ => k (!decide (a = b)) n Γ))) : WpE K w n Γ (tOp (rNeU K) ta tb) tBo k :=
  we_neD (iL iI) (Nat.le_of_ble_eq_true rfl) (we_mono h fun x _ _ q => we_mono q fun y _ _ z => ⟨⟨layLI x, layLI y⟩, z⟩)
theorem we_neLLI {k : Bool → NK} (h : WpE K w n Γ ta (tL (tL tI)) (fun a n Γ => WpE K w n Γ tb (tL (tL tI)) (fun b n Γ => k (!decide (a = b)) n Γ))) : WpE K w n Γ (tOp (rNeU K) ta tb) tBo k :=
  we_neD (iL (iL iI)) (Nat.le_of_ble_eq_true rfl) (we_mono h fun x _ _ q => we_mono q fun y _ _ z => ⟨⟨layLLI x, layLLI y⟩, z⟩)
theorem we_eqLI {k : Bool → NK} (h : WpE K w n Γ ta (tL tI) (fun a n Γ => WpE K w n Γ tb (tL tI) (fun b n Γ => k (decide (a = b)) n Γ))) : WpE K w n Γ (tOp (rEqU K) ta tb) tBo k :=
  we_eqD (iL iI) (Nat.le_of_ble_eq_true rfl) (we_mono h fun x _ _ q => we_mono q fun y _ _ z => ⟨⟨layLI x, layLI y⟩, z⟩)
theorem we_eqLLI {k : Bool → NK} (h : WpE K w n Γ ta (tL (tL tI)) (fun a n Γ => WpE K w n Γ tb (tL (tL tI)) (fun b n Γ => k (decide (a = b)) n Γ))) : WpE K w n Γ (tOp (rEqU K) ta tb) tBo k :=
  we_eqD (iL (iL iI)) (Nat.le_of_ble_eq_true rfl) (we_mono h fun x _ _ q => we_mono q fun y _ _ z => ⟨⟨layLLI x, layLLI y⟩, z⟩)
def dropE (l : List Nat) (Γ : Env) : Env := l.foldl (fun Γ i => Γ.set i .no) Γ
theorem Up.drops {I : NK} : ∀ (l : List Nat) {Γ : Env}, I n (dropE l Γ) → Up K w I n Γ
  | [], Γ, h => Up.of h
  | i :: l, Γ, h => by
    obtain ⟨n0, Γ0, v, q⟩ := Up.drops l (Γ := Γ.set i .no) h
    exact ⟨n0, Γ0, (View.drop i).trans v, q⟩
/-- a new thing, used as a datum -/
theorem we_ofM' {k : List α → NK} (h : WpM K w n Γ te (fun r n Γ => ∃ ys, r = rL t ys ∧ k ys n Γ)) : WpE K w n Γ te (tL t) k := we_ofM (xs := fun _ => True) h
/-- [e] * j -/
theorem we_repI {k : List Int → NK} {c : Int} (h : WpE K w n Γ tb tI (fun j n Γ => (-(2 ^ 63) ≤ j ∧ j ≤ 100000) ∧ k (List.replicate j.toNat c) n Γ)) : WpE K w n Γ (tOp rMulU (tLst (tCons (tC (.int c)) tNil)) tb) (tL tI) k :=
  we_ofM' (wm_rep (t := tI) (we_lst (wal_cons (we_int (wal_nil ⟨by simp, we_mono h fun j _ _ ⟨q1, q2⟩ => ⟨⟨by omega, by omega, by simp; omega⟩, _, rfl, by rw [flat_one]; exact q2⟩⟩)))))
end
end TL

/-! # TL: texts -/
namespace TL
open PySem L2
open C8 (cutS_slice rSlX sl_txt)
open PySem.W (Frag)
section
variable {X : Cx}
def rInStr : R2 := fun x y H Q => ∃ i j, x = .str i ∧ y = .str j ∧ Q (.bl (!(Builtin.Str.occurrences j i 0 j.length 1).isEmpty)) H
theorem op_inStr : OpR X (compareOp .In) rInStr := op_in_str
def rNotInStr : R2 := fun x y H Q => ∃ i j, x = .str i ∧ y = .str j ∧ Q (.bl (!(!(Builtin.Str.occurrences j i 0 j.length 1).isEmpty))) H
theorem op_notInStr : OpR X (compareOp .NotIn) rNotInStr := op_notin_str
theorem op_inSeqK (K : Frag) (hK : X.K = K) : OpR X (compareOp .In) (rIn K false) := hK ▸ op_in_seq
theorem op_notInSeqK (K : Frag) (hK : X.K = K) : OpR X (compareOp .NotIn) (rIn K true) := hK ▸ op_notIn_seq
def rMulS : R2 := fun x y H Q => ∃ z i, x = .str z ∧ y = .int i ∧ z.length ≤ 16 ∧ -(2 ^ 63) ≤ i ∧ i ≤ 1048576 ∧ Q (.str (Txt.mul z i)) H
theorem op_mulS : OpR X (binaryOp .Mult) rMulS := by
  intro pins s σ H x y u v Q I rx ry h
  obtain ⟨z, i, rfl, rfl, h1, h2, h3, q⟩ := h
  obtain ⟨t, rfl⟩ := rx
  obtain ⟨t', rfl⟩ := ry
  exact PySem.W.KXi.mul rfl h1 h2 h3 fun t2 k _ _ => ⟨.str _, H, I.tok k, ⟨t2, rfl⟩, q⟩
def rJoinS (K : Frag) : V → List V → Hp → VK → Prop := fun x xs H Q => ∃ a p, ∃ ys : List Str, x = .str a ∧ xs = [.ref p] ∧ (SqL K H p (ys.map V.str) ∨ SqT K H p (ys.map V.str)) ∧ (ys.map (·.length)).sum + ys.length * a.length ≤ 16777216 ∧ Q (.str (Txt.join a ys)) H
theorem mt_joinK (K : Frag) (hK : X.K = K) : MtR X "str.join" (rJoinS K) := hK ▸ mt_join
def rSplitS : V → List V → Hp → VK → Prop := fun x xs H Q => ∃ a b, x = .str a ∧ xs = [.str b] ∧ (b.length == 0) = false ∧ a.length + 2 ≤ sizeLine ∧ rNewStrs (Txt.split a b) H Q
theorem mt_splitS : MtR X "str.split" rSplitS := mt_split
end
/-- a text, by its signs -/
def tX : Ty (List Nat) := ⟨fun _ v x => v = .str (SX.S x), fun _ h => h⟩
theorem flatX : Flat tX := fun _ _ _ _ h => h
def iX {K : Frag} : IsD K tX := ⟨fun x => .str (SX.S x), fun h => by cases h; exact .str _, 0, fun x => Nat.le_refl _, fun x y => by
  show (SX.S x == SX.S y) = true ↔ _
  rw [SX.S_beq_eq]; simp⟩
section
variable {K : Frag} {w : Wd} {n : Option Nat} {Γ : Env} {α β γ δ ρ A : Type} {t : Ty α} {u : Ty β} {r : Ty γ} {ta tb te : TE} {ts ts' : TS} {res : ρ → Ent} {nx bk ct : NK} {rt : ρ → Option Nat → Prop}
theorem we_X {s : Str} {k : List Nat → NK} (q : k s.cps.toList n Γ) : WpE K w n Γ (tC (.str s)) tX k := fun σ B H ok Q c => c _ _ n Γ B H q (Ex.refl _) ok (by show V.str s = V.str (SX.S _); rw [SX.S_tl])
theorem we_addX {k : List Nat → NK} (h : WpE K w n Γ ta tX (fun a n Γ => WpE K w n Γ tb tX (fun b n Γ => a.length + b.length ≤ 100000 ∧ k (a ++ b) n Γ))) : WpE K w n Γ (tOp rAddU ta tb) tX k :=
  we_op2 (s := tX) (fun a b => a ++ b) (fun a b => a.length + b.length ≤ 100000) (fun B x y a b H Q h1 h2 e hc q => .inr (.inl ⟨_, _, h1, h2, by rw [SX.S_len, SX.S_len]; exact sz hc, by rw [SX.S_cat]; exact q _ rfl⟩)) h
theorem we_lenX {k : Int → NK} (h : WpE K w n Γ ta tX (fun a n Γ => a.length ≤ 100000 ∧ k (a.length : Int) n Γ)) : WpE K w n Γ (tCB (rLenU K) (tCons ta tNil)) tI k := fun σ B H ok Q c =>
  h σ B H ok _ fun a v n1 Γ1 B1 H1 ⟨hz, q⟩ e o r => ⟨v, a.length, rfl, by cases r; show _ ∧ _; rw [SX.S_len]; exact ⟨sz hz, rfl⟩, c _ _ n1 Γ1 B1 H1 q e o rfl⟩
theorem we_ixX {k : List Nat → NK} (h : WpE K w n Γ ta tX (fun a n Γ => WpE K w n Γ tb tI (fun i n Γ => a.length ≤ 100000 ∧ ∃ c, atI a i = some c ∧ k [c] n Γ))) : WpE K w n Γ (tOp (rIx K) ta tb) tX k := fun σ B H ok Q c =>
  h σ B H ok _ fun a v n1 Γ1 B1 H1 q1 e1 o1 r1 => q1 σ B1 H1 o1 _ fun i v2 n2 Γ2 B2 H2 ⟨hz, x, hx, q⟩ e2 o2 r2 => .inr (.inr ⟨_, i, x, r1, r2, by rw [SX.S_len]; exact sz hz, by simpa using hx, c [x] _ n2 Γ2 B2 H2 q (e1.trans e2) o2 rfl⟩)
def cutX (a : List Nat) (lo hi : Option Int) : List Nat := (Txt.slice (SX.S a) lo hi).cps.toList
theorem we_slX {tl th : TO} {k : List Nat → NK} (h : WpE K w n Γ te tX (fun a n Γ => a.length ≤ 100000 ∧ WpO K w n Γ tl (fun lo n Γ => WpO K w n Γ th (fun hi n Γ => k (cutX a lo hi) n Γ)))) : WpE K w n Γ (tSl rSlX te tl th) tX k := fun σ B H ok Q c =>
  h σ B H ok _ fun a v n1 Γ1 B1 H1 ⟨hz, q1⟩ e1 o1 r => q1 σ B1 H1 o1 _ fun lo n2 Γ2 B2 H2 q2 e2 o2 => q2 σ B2 H2 o2 _ fun hi n3 Γ3 B3 H3 q e3 o3 =>
    ⟨_, r, by rw [SX.S_len]; exact sz hz, c _ _ n3 Γ3 B3 H3 q ((e1.trans e2).trans e3) o3 (by show V.str _ = V.str (SX.S _); unfold cutX; rw [SX.S_tl])⟩
theorem cutX_from {a : List Nat} {i : Int} (h : 0 ≤ i) : cutX a (some i) none = a.drop i.toNat := by unfold cutX; rw [SX.slice_from h]
theorem cutX_to {a : List Nat} {i : Int} (h : 0 ≤ i) : cutX a none (some i) = a.take i.toNat := by unfold cutX; rw [SX.slice_to h]
theorem cutX_mid {a : List Nat} {i j : Nat} (h1 : i ≤ j) (h2 : j ≤ a.length) : cutX a (some (i : Int)) (some (j : Int)) = (a.drop i).take (j - i) := by
  unfold cutX
  rw [← cutS_slice]
  unfold cutS
  have e1 : HT.sIx a.length 0 (some (i : Int)) = i := by rw [HT.sIx_nat]; omega
  have e2 : HT.sIx a.length a.length (some (j : Int)) = j := by rw [HT.sIx_nat]; omega
  simp only [SX.S_len, e1, e2]
  try simp
theorem we_inX {k : Bool → NK} (h : WpE K w n Γ ta tX (fun a n Γ => WpE K w n Γ tb tX (fun b n Γ => ∃ c, a = [c] ∧ k (decide (c ∈ b)) n Γ))) : WpE K w n Γ (tOp rInStr ta tb) tBo k := fun σ B H ok Q c =>
  h σ B H ok _ fun a v n1 Γ1 B1 H1 q1 e1 o1 r1 => q1 σ B1 H1 o1 _ fun b v2 n2 Γ2 B2 H2 ⟨x, hx, q⟩ e2 o2 r2 => by
    subst hx
    exact ⟨_, _, r1, r2, by rw [SX.in_one]; exact c _ _ n2 Γ2 B2 H2 q (e1.trans e2) o2 rfl⟩
/-- a text among texts -/
theorem inV_X : ∀ {vs : List V} {xs : List (List Nat)} {B : Hp} {a : List Nat}, Paired (tX.rep B) vs xs → vs.all flatV = true ∧ inV (.str (SX.S a)) vs = decide (a ∈ xs)
  | _, _, B, a, .nil => ⟨rfl, by unfold inV; simp⟩
  | _, _, B, a, .cons (b := x) h r => by
    obtain ⟨q1, q2⟩ := inV_X (a := a) r
    cases h
    refine ⟨by rw [List.all_cons, q1]; rfl, ?_⟩
    unfold inV at q2 ⊢
    rw [List.any_cons, q2]
    show ((SX.S x == SX.S a) || _) = _
    rw [SX.S_beq_eq]
    by_cases c : a = x
    · subst c; simp
    · have c' : ¬ x = a := fun z => c z.symm
      simp [c, c']
theorem we_inLX {k : Bool → NK} (h : WpE K w n Γ ta tX (fun a n Γ => WpE K w n Γ tb (tL tX) (fun b n Γ => k (decide (a ∈ b)) n Γ))) : WpE K w n Γ (tOp (rIn K false) ta tb) tBo k := fun σ B H ok Q c =>
  h σ B H ok _ fun a v n1 Γ1 B1 H1 q1 e1 o1 r1 => q1 σ B1 H1 o1 _ fun b v2 n2 Γ2 B2 H2 q e2 o2 ⟨l, vs, hv, hs, p⟩ => by
    obtain ⟨p1, p2⟩ := inV_X (a := a) p
    cases r1
    exact ⟨l, vs, hv, .inl (SqL.of (o2.ex _ _ hs)), rfl, p1, by rw [p2]; exact c _ _ n2 Γ2 B2 H2 q (e1.trans e2) o2 rfl⟩
theorem we_eqX {k : Bool → NK} (h : WpE K w n Γ ta tX (fun a n Γ => WpE K w n Γ tb tX (fun b n Γ => k (decide (a = b)) n Γ))) : WpE K w n Γ (tOp (rEqU K) ta tb) tBo k :=
  we_op2 (s := tBo) (fun a b => decide (a = b)) (fun _ _ => True) (fun B x y a b H Q h1 h2 e _ q => by
    cases h1; cases h2
    refine .inl ⟨rfl, ?_⟩
    have e : decide (V.str (SX.S a) = V.str (SX.S b)) = decide (a = b) := by
      by_cases c : a = b
      · subst c; simp
      · rw [decide_eq_false c, decide_eq_false (fun z => c (SX.S_inj (V.str.inj z)))]
    rw [e]; exact q _ rfl) (we_mono h fun x _ _ q => we_mono q fun y _ _ z => ⟨trivial, z⟩)
theorem we_neX {k : Bool → NK} (h : WpE K w n Γ ta tX (fun a n Γ => WpE K w n Γ tb tX (fun b n Γ => k (!decide (a = b)) n Γ))) : WpE K w n Γ (tOp (rNeU K) ta tb) tBo k :=
  we_op2 (s := tBo) (fun a b => !decide (a = b)) (fun _ _ => True) (fun B x y a b H Q h1 h2 e _ q => by
    cases h1; cases h2
    refine .inl ⟨rfl, ?_⟩
    have e : decide (V.str (SX.S a) = V.str (SX.S b)) = decide (a = b) := by
      by_cases c : a = b
      · subst c; simp
      · rw [decide_eq_false c, decide_eq_false (fun z => c (SX.S_inj (V.str.inj z)))]
    rw [e]; exact q _ rfl) (we_mono h fun x _ _ q => we_mono q fun y _ _ z => ⟨trivial, z⟩)
theorem mul_one {c : Nat} {i : Int} : Txt.mul (SX.S [c]) i = SX.S (List.replicate i.toNat c) := by
  unfold Txt.mul
  by_cases h : i < 1
  · rw [if_pos h, show i.toNat = 0 by omega]; rfl
  · rw [if_neg h]
    by_cases h1 : (i == 1 || (SX.S [c]).length == 0) = true
    · rw [if_pos h1]
      have : i = 1 := by
        have z : ((SX.S [c]).length == 0) = false := by rw [SX.S_len]; rfl
        rw [z, Bool.or_false] at h1
        exact eq_of_beq h1
      subst this; rfl
    · rw [if_neg h1]
      have gen : ∀ (m : Nat) (acc : Array Nat), (List.replicate m (#[c] : Array Nat)).foldl (· ++ ·) acc = acc ++ (List.replicate m c).toArray := fun m => by
        induction m with
        | zero => intro acc; simp
        | succ m ih =>
          intro acc
          rw [List.replicate_succ, List.foldl_cons, ih, List.replicate_succ]
          apply Array.toList_inj.mp
          simp
      show (⟨(List.replicate i.toNat (#[c] : Array Nat)).foldl (· ++ ·) #[]⟩ : Str) = _
      rw [gen]
      simp
theorem we_mulX {s : Str} {c : Nat} (hs : s = SX.S [c]) {k : List Nat → NK} (h : WpE K w n Γ tb tI (fun i n Γ => (-(2 ^ 63) ≤ i ∧ i ≤ 100000) ∧ k (List.replicate i.toNat c) n Γ)) : WpE K w n Γ (tOp rMulS (tC (.str s)) tb) tX k := fun σ B H ok Q cc =>
  h σ B H ok _ fun i v n1 Γ1 B1 H1 ⟨hz, q⟩ e1 o1 r1 => ⟨s, i, rfl, r1, by rw [hs, SX.S_len]; exact (Nat.le_of_ble_eq_true rfl : 1 ≤ 16), hz.1, by omega, by rw [hs, mul_one]; exact cc _ _ n1 Γ1 B1 H1 q e1 o1 rfl⟩
theorem joinL_nil : ∀ ys : List (List Nat), joinL [] ys = ys.flatten
  | [] => rfl
  | [p] => by simp [joinL]
  | p :: q :: r => by
    show p ++ ([] ++ joinL [] (q :: r)) = _
    rw [joinL_nil (q :: r)]; simp
theorem pw_strs : ∀ {vs : List V} {xs : List (List Nat)} {B : Hp}, Paired (tX.rep B) vs xs → vs = (xs.map SX.S).map V.str
  | _, _, _, .nil => rfl
  | _, _, _, .cons h r => by rw [List.map_cons, List.map_cons, ← pw_strs r, h]
/-- ''.join(texts) -/
theorem we_joinX {s : Str} (hs : s = SX.S []) {k : List Nat → NK} (h : WpE K w n Γ te (tL tX) (fun ys n Γ => (ys.map List.length).sum ≤ 100000 ∧ k ys.flatten n Γ)) : WpE K w n Γ (tM1 (rJoinS K) (tC (.str s)) te) tX k := fun σ B H ok Q c =>
  ⟨⟨s, rfl⟩, h σ B H ok _ fun ys v n1 Γ1 B1 H1 ⟨hz, q⟩ e o ⟨a, vs, hv, hl, p⟩ => by
    refine ⟨s, a, ys.map SX.S, rfl, by rw [hv], .inl (by rw [← pw_strs p]; exact SqL.of (o.ex _ _ hl)), ?_, ?_⟩
    · have e1 : ((ys.map SX.S).map (·.length)).sum = (ys.map List.length).sum := congrArg List.sum (SX.lens ys)
      rw [e1, hs, SX.S_len, List.length_nil, Nat.mul_zero]; omega
    · rw [hs, SX.join_S, joinL_nil]
      exact c _ _ n1 Γ1 B1 H1 q e o rfl⟩
theorem pw_newX {B : Hp} : ∀ xs : List (List Nat), Paired (tX.rep B) ((xs.map SX.S).map V.str) xs
  | [] => .nil
  | x :: r => .cons rfl (pw_newX r)
/-- a.split(b), b of small signs -/
theorem wm_splitX {s : Str} {b : List Nat} (hs : s = SX.S b) (hb : b ≠ []) (hk : b.all (· < 256) = true) {k : Rs → NK} (h : WpE K w n Γ ta tX (fun a n Γ => a.length ≤ 100000 ∧ k (rL tX (spl b 0 [] a)) n Γ)) : WpM K w n Γ (tM1 rSplitS ta (tC (.str s))) k := fun σ B H ok Q c =>
  h σ B H ok _ fun a v n1 Γ1 B1 H1 ⟨hz, q⟩ e o r => by
    refine ⟨⟨_, r⟩, SX.S a, s, r, rfl, ?_, ?_, ?_⟩
    · rw [hs, SX.S_len]
      cases b with
      | nil => exact absurd rfl hb
      | cons x y => rfl
    · rw [SX.S_len]; have : (100002 : Nat) ≤ sizeLine := by decide
      omega
    · intro p hp
      rw [hs, SX.split_S hb hk]
      have g := Grow.open (o := .lst (((spl b 0 [] a).map SX.S).map V.str)) o.ex hp
      exact c _ p n1 Γ1 B1 _ q e (o.grow g) (Own.new o hp ⟨_, rfl, pw_newX _⟩)
/-! tests as values, chains -/
theorem we_andV {k : Bool → NK} (h : WpE K w n Γ ta tBo (fun b n Γ => (b = true → WpE K w n Γ tb tBo k) ∧ (b = false → k false n Γ))) : WpE K w n Γ (tAndV ta tb) tBo k := fun σ B H ok Q c =>
  h σ B H ok _ fun b v n1 Γ1 B1 H1 ⟨h1, h2⟩ e o r => ⟨b, r, by
    cases b with
    | true => exact h1 rfl σ B1 H1 o Q fun x v n2 Γ2 B2 H2 q e2 => c x v n2 Γ2 B2 H2 q (e.trans e2)
    | false => exact c false _ n1 Γ1 B1 H1 (h2 rfl) e o rfl⟩
theorem we_orV {k : Bool → NK} (h : WpE K w n Γ ta tBo (fun b n Γ => (b = true → k true n Γ) ∧ (b = false → WpE K w n Γ tb tBo k))) : WpE K w n Γ (tOrV ta tb) tBo k := fun σ B H ok Q c =>
  h σ B H ok _ fun b v n1 Γ1 B1 H1 ⟨h1, h2⟩ e o r => ⟨b, r, by
    cases b with
    | false => exact h2 rfl σ B1 H1 o Q fun x v n2 Γ2 B2 H2 q e2 => c x v n2 Γ2 B2 H2 q (e.trans e2)
    | true => exact c true _ n1 Γ1 B1 H1 (h1 rfl) e o rfl⟩
theorem we_notV {k : Bool → NK} (h : WpE K w n Γ ta tBo (fun b n Γ => k (!b) n Γ)) : WpE K w n Γ (tNotV ta) tBo k := fun σ B H ok Q c =>
  h σ B H ok _ fun b v n1 Γ1 B1 H1 q e o r => ⟨b, r, c _ _ n1 Γ1 B1 H1 q e o rfl⟩
/-- a ≤ b < c -/
theorem we_chainLeLt {tc : TE} {k : Bool → NK} (h : WpE K w n Γ ta tI (fun a n Γ => WpE K w n Γ tb tI (fun b n Γ => (a ≤ b → WpE K w n Γ tc tI (fun c n Γ => k (decide (b < c)) n Γ)) ∧ (¬ a ≤ b → k false n Γ)))) : WpE K w n Γ (tChain rLeI rLtI ta tb tc) tBo k := fun σ B H ok Q c =>
  h σ B H ok _ fun a v n1 Γ1 B1 H1 q1 e1 o1 r1 => q1 σ B1 H1 o1 _ fun b v2 n2 Γ2 B2 H2 ⟨h1, h2⟩ e2 o2 r2 => by
    refine ⟨a, b, r1, r2, decide (a ≤ b), rfl, ?_⟩
    by_cases z : a ≤ b
    · rw [if_pos (decide_eq_true z)]
      exact h1 z σ B2 H2 o2 _ fun x v3 n3 Γ3 B3 H3 q e3 o3 r3 => ⟨b, x, r2, r3, c _ _ n3 Γ3 B3 H3 q ((e1.trans e2).trans e3) o3 rfl⟩
    · rw [if_neg (by rw [decide_eq_false z]; exact Bool.false_ne_true)]
      exact c false _ n2 Γ2 B2 H2 (h2 z) (e1.trans e2) o2 rfl
/-- name += e -/
theorem ws_augI {i : Nat} {f : Int → Int → Int} {x : Int} (hi : Γ[i]? = some (.im tI x)) (h : WpE K w n Γ te tI (fun y n Γ => SetE (Γ.set i (.im tI (f x y))) (nx n))) : WpS K w n Γ (tAug i te (ipI f)) res nx bk ct rt := fun σ B H ok D a b c d => by
  obtain ⟨v, h1, h2⟩ := ok.sl i _ hi
  cases h2
  exact ⟨_, h1, h σ B H ok _ fun y v n' Γ' B' H' q e o r => ⟨x, y, rfl, r, a n' _ _ B' H' q e (o.setIm rfl)⟩⟩
/-! items of tuples of several kinds -/
theorem we_ixT {s : Ty δ} {j : Int} {f : α → δ} {k : δ → NK} (hr : ∀ {B v x}, t.rep B v x → ∃ a vs y, v = .ref a ∧ B a = some (.tup vs) ∧ atI vs j = some y ∧ s.rep B y (f x)) (h : WpE K w n Γ ta t (fun x n Γ => k (f x) n Γ)) : WpE K w n Γ (tOp (rIx K) ta (tC (.int j))) s k := fun σ B H ok Q c =>
  h σ B H ok _ fun x v n1 Γ1 B1 H1 q e o r => by
    obtain ⟨a, vs, y, h1, h2, h3, h4⟩ := hr r
    exact .inr (.inl ⟨a, vs, j, y, h1, rfl, SqT.of (o.ex _ _ h2), h3, c _ _ n1 Γ1 B1 H1 q e o h4⟩)
theorem we_ix20 {k : α → NK} (h : WpE K w n Γ ta (tP t u) (fun x n Γ => k x.1 n Γ)) : WpE K w n Γ (tOp (rIx K) ta (tC (.int 0))) t k := we_ixT (t := tP t u) (f := fun (x : α × β) => x.1) (fun {B v x} ⟨a, p, q, h1, h2, h3, h4⟩ => ⟨a, _, p, h1, h2, rfl, h3⟩) h
theorem we_ix21 {k : β → NK} (h : WpE K w n Γ ta (tP t u) (fun x n Γ => k x.2 n Γ)) : WpE K w n Γ (tOp (rIx K) ta (tC (.int 1))) u k := we_ixT (t := tP t u) (f := fun (x : α × β) => x.2) (fun {B v x} ⟨a, p, q, h1, h2, h3, h4⟩ => ⟨a, _, q, h1, h2, rfl, h4⟩) h
theorem we_ix30 {k : α → NK} (h : WpE K w n Γ ta (tP3 t u r) (fun x n Γ => k x.1 n Γ)) : WpE K w n Γ (tOp (rIx K) ta (tC (.int 0))) t k := we_ixT (t := tP3 t u r) (f := fun (x : α × β × γ) => x.1) (fun {B v x} ⟨a, p, q, z, h1, h2, h3, h4, h5⟩ => ⟨a, _, p, h1, h2, rfl, h3⟩) h
theorem we_ix31 {k : β → NK} (h : WpE K w n Γ ta (tP3 t u r) (fun x n Γ => k x.2.1 n Γ)) : WpE K w n Γ (tOp (rIx K) ta (tC (.int 1))) u k := we_ixT (t := tP3 t u r) (f := fun (x : α × β × γ) => x.2.1) (fun {B v x} ⟨a, p, q, z, h1, h2, h3, h4, h5⟩ => ⟨a, _, q, h1, h2, rfl, h4⟩) h
theorem we_ix32 {k : γ → NK} (h : WpE K w n Γ ta (tP3 t u r) (fun x n Γ => k x.2.2 n Γ)) : WpE K w n Γ (tOp (rIx K) ta (tC (.int 2))) r k := we_ixT (t := tP3 t u r) (f := fun (x : α × β × γ) => x.2.2) (fun {B v x} ⟨a, p, q, z, h1, h2, h3, h4, h5⟩ => ⟨a, _, z, h1, h2, rfl, h5⟩) h
theorem tyP3 {B : Hp} {v : V} {x : α × β × γ} {H : Hp} (h : (tP3 t u r).rep B v x) (e : Ex B H) : TyX K H v (.type "tuple") := by obtain ⟨a, p, q, z, rfl, s, _⟩ := h; exact .base (.tup (e _ _ s))
def iP3 (D : IsD K t) (E : IsD K u) (F : IsD K r) : IsD K (tP3 t u r) := ⟨fun x => .tuple [D.enc x.1, E.enc x.2.1, F.enc x.2.2], fun ⟨a, p, q, z, h, s, h1, h2, h3⟩ => by subst h; exact .tup (SqT.of s) (.cons (D.dp h1) (.cons (E.dp h2) (.cons (F.dp h3) .nil))), max D.dep (max E.dep F.dep) + 1,
  fun x => by
    have h1 := D.dp_le x.1
    have h2 := E.dp_le x.2.1
    have h3 := F.dp_le x.2.2
    simp only [PyData.depth, PyData.depthAll]; omega, fun x y => by
    simp only [PyData.eqv, PyData.eqvAll, Bool.and_eq_true, D.inj, E.inj, F.inj, and_true]
    exact ⟨fun ⟨a, b, c⟩ => Prod.ext a (Prod.ext b c), fun h => by subst h; exact ⟨rfl, rfl, rfl⟩⟩⟩
/-- None or a datum: is it None? -/
theorem we_isNone {k : Bool → NK} (hn : ∀ {B v x}, t.rep B v x → ¬ v = .non) (h : WpE K w n Γ ta (tO t) (fun x n Γ => k x.isNone n Γ)) : WpE K w n Γ (tOp (fun x y H Q => y = .non ∧ Q (.bl (decide (x = .non))) H) ta (tC .non)) tBo k := fun σ B H ok Q c =>
  h σ B H ok _ fun x v n1 Γ1 B1 H1 q e o r => ⟨rfl, by
    cases x with
    | none =>
      have r' : v = .non := r
      exact c _ _ n1 Γ1 B1 H1 q e o (by show V.bl _ = V.bl _; rw [r']; rfl)
    | some y => exact c _ _ n1 Γ1 B1 H1 q e o (by show V.bl _ = V.bl _; rw [decide_eq_false (hn r)]; rfl)⟩
theorem View.some {i : Nat} {x : α} (h : Γ[i]? = Option.some (.im (tO t) (Option.some x))) : View K w n Γ n (Γ.set i (.im t x)) := fun σ B H ok => by
  obtain ⟨v, h1, h2⟩ := ok.sl i _ h
  have o2 := ok.setIm (i := i) (t := t) (x := x) (v := v) h2
  rw [slot_same h1] at o2
  exact ⟨B, Ex.refl _, o2⟩
theorem we_lenVX {i : Nat} {xs : List Nat} {k : Int → NK} (h : Γ[i]? = some (.im tX xs)) (hz : xs.length ≤ 100000) (q : k (xs.length : Int) n Γ) : WpE K w n Γ (tCB (rLenU K) (tCons (tVar i) tNil)) tI k := we_lenX (we_var h ⟨hz, q⟩)
/-- each item's image is drawn, c draws each; the iterable may draw, too -/
theorem wm_mapM {wi : TI} {g : TG} {vs : List Nat} {kk : Rs → NK} (u : Ty β) (P : α → β → Prop) (c m : Nat) (hg : GSl g vs)
    (h : WpI K w n Γ wi t (fun xs n1 Γ => n1 = some m ∧ Map3 (xs.length ≤ 100000) (∀ (w' : Wd) (i : Nat) x, xs[i]? = some x → SetE (hideE Γ vs) fun Γh => WpG K w' (some (m + c * i)) Γh g t x (fun n1 Γ => WpE K w' n1 Γ te u (fun y n2 _ => P x y ∧ n2 = some (m + c * i + c))))
      (∀ ys, Paired P xs ys → kk (rL u ys) (some (m + c * xs.length)) Γ))) :
    WpM K w n Γ (tLc wi g tYes te vs) kk := by
  refine wm_lc u (fun xs i ys n' => Paired P (xs.take i) ys ∧ n' = some (m + c * i)) hg (wi_mono h ?_)
  rintro xs n1 Γ1 ⟨rfl, hl, hs, he⟩
  refine ⟨⟨by simp; exact .nil, rfl⟩, ?_, ?_⟩
  · rintro w' i x ys n2 _ _ _ hx ⟨hp, rfl⟩
    refine wg_mono (hs w' i x hx) fun n3 Γ3 q => wt_yes (we_mono q ?_)
    rintro y n4 Γ4 ⟨hy, rfl⟩
    have hi := get_lt hx
    have hlen := pw_len hp
    rw [List.length_take] at hlen
    refine ⟨by omega, ?_, by rw [Nat.mul_succ, Nat.add_assoc]⟩
    rw [List.take_add_one, hx]; exact pw_snoc hp hy
  · rintro ys n2 ⟨hp, rfl⟩
    rw [List.take_length] at hp; exact he ys hp
/-- a, b = x, (a new thing of one's own) -/
theorem ws_par2M {i j : Nat} (h : WpE K w n Γ ta t (fun x n Γ => WpM K w n Γ tb (fun r n Γ => SetE ((Γ.set i (.im t x)).set j (.mu r)) (nx n)))) : WpS K w n Γ (tPar i j (tCons ta (tCons tb tNil))) res nx bk ct rt := fun σ B H ok D a b c d =>
  h σ B H ok _ fun x v n1 Γ1 B1 H1 q1 e1 o1 r1 => q1 σ B1 H1 o1 _ fun r l n2 Γ2 B2 H2 q e2 o2 ow => by
    refine ⟨v, .ref l, rfl, a n2 _ _ B2 H2 q (e1.trans e2) ((o2.setIm (t.mono e2 r1)).setMu ⟨ow.ob, ow.b, ow.h0, fun i' e' hi z => ?_⟩)⟩
    rw [List.getElem?_set] at hi z
    by_cases c : i = i'
    · subst c
      rw [if_pos rfl] at hi
      split at hi
      · cases hi; exact z
      · cases hi
    · rw [if_neg c] at hi z
      exact ow.df i' e' hi z
/-- a call of one of several promises, c draws -/
theorem we_callXN {ι : Type} {S : ι → FS K} (i : ι) {E : XK} {ta : TA} {t : Ty (S i).ρ} {k : (S i).ρ → NK} {c : Nat} (hres : (S i).res = fun x => .im t x) (hc : (S i).cost = c) (h : WpA K w n Γ ta (S i).args (fun a n Γ => (S i).pre a ∧ ∃ m, n = some m ∧ m + c ≤ 2 ^ 60 ∧ ∀ x, (S i).post a x → k x (some (m + c)) Γ)) :
    WpE K w n Γ (tCall (SpEx fun i => (S i).sp) [] E ta) t k := fun σ B H ok Q cc =>
  h σ B H ok _ fun a vs n1 Γ1 B1 H1 ⟨hp, m, hn, hm, q⟩ e o r => by
    rw [List.append_nil]
    subst hn
    refine ⟨i, w.d, w.ca, w.cs, some m, B1, a, o.entry, r, hp, .inr ⟨m, rfl, by rw [hc]; exact hm⟩, fun x v n' B' H' hx hcc e' o' s => ?_⟩
    rw [hres] at s
    obtain ⟨v', h1, h2⟩ := s
    cases h1
    rcases hcc with ⟨z, rfl⟩ | ⟨m', e2, rfl⟩
    · rw [hc] at z; subst z; exact cc x v _ Γ1 B' H' (q x hx) (e.trans e') (o.back o') h2
    · cases e2
      rw [hc] at o'; exact cc x v _ Γ1 B' H' (q x hx) (e.trans e') (o.back o') h2
end
section
variable {X : Cx} {k : Nat} {x : Str} {ps : List Str} {sp : Sp} {p pos : Pos}
theorem pe_callC0 (c : Callee X.prog X.w X.K X.mg X.base CX0 k x ps sp) (hr : Room k X.A) (hg : Gl X x) (hdb : (x == ("__debug__" : Str)) = false := by decide) :
    PE X (.Call (.Name x p) [] [] pos) (tCall sp [] E0 tNil) := by
  obtain ⟨f, fd, h1, h2, h3, h4⟩ := c.ex
  exact pe_call0 h3 hr hg h1 h2 h4 .nil pass0 hdb
end
end TL

/-! # TL: lists of own lists, and other names for them -/
namespace TL
open PySem L2
open PySem.W (Frag)
section
variable {K : Frag} {w : Wd} {n : Option Nat} {Γ Γ' : Env} {α β γ δ ρ A : Type} {t : Ty α} {u : Ty β} {ta tb te : TE} {ts ts' : TS} {res : ρ → Ent} {nx bk ct : NK} {rt : ρ → Option Nat → Prop}
/-- lists of one's own within a list of one's own, new -/
structure OwnF (w : Wd) (Γ : Env) (σ : L2.St) (B H : Hp) (t : Ty α) (l : Addr) (as : List Addr) (xss : List (List α)) : Prop where
  ob : H l = some (.lst (as.map V.ref))
  b : B l = none
  h0 : w.H0 l = none
  nd : (l :: as).Nodup
  kids : Paired (Kid w B H t) as xss
  df : ∀ a ∈ l :: as, ∀ (i : Nat) e, Γ[i]? = some e → ¬ e.owns σ[i]? a
def WpMM (K : Frag) (w : Wd) (n : Option Nat) (Γ : Env) (te : TE) (t : Ty α) (k : List (List α) → NK) : Prop := ∀ σ B H, Ok K w n Γ σ B H → ∀ Q : VK,
  (∀ xss l as n' Γ' B' H', k xss n' Γ' → Ex B B' → Ok K w n' Γ' σ B' H' → OwnF w Γ' σ B' H' t l as xss → Q (.ref l) H') → te σ H Q
theorem ws_setMM {i : Nat} (h : WpMM K w n Γ te t (fun xss n Γ => ∀ as, as.length = xss.length → SetE (Γ.set i (.mm t as xss)) (nx n))) : WpS K w n Γ (tAsg te (gName i)) res nx bk ct rt := fun σ B H ok D a b c d =>
  h σ B H ok _ fun xss l as n' Γ' B' H' q e o ow => by
    refine a n' _ _ B' H' (q as (pw_len ow.kids)) e (o.setO (e0 := .mm t as xss) ⟨l, rfl, ow.ob, ow.b, ow.h0, ow.nd, ow.kids⟩ fun x hx => ?_)
    rcases hx with hx | hx
    · have : some (some (V.ref l)) = some (some (V.ref x)) := hx
      cases this
      exact ow.df l List.mem_cons_self
    · exact ow.df x (List.mem_cons_of_mem _ hx)
/-- the family is frozen -/
theorem Ok.frzM {σ : L2.St} {B H : Hp} {i : Nat} {as : List Addr} {xss : List (List α)} (k : Ok K w n Γ σ B H) (hi : Γ[i]? = some (.mm t as xss)) :
    ∃ B' l, Ex B B' ∧ σ[i]? = some (some (.ref l)) ∧ (tL (tL t)).rep B' (.ref l) xss ∧ Paired (fun a xs => (tL t).rep B' (.ref a) xs) as xss ∧ Ok K w n (Γ.set i .no) σ B' H := by
  obtain ⟨l, h1, h2, h3, h4, h5, p⟩ := k.sl i _ hi
  have kid := pw_kid p
  have own : ∀ a ∈ l :: as, B a = none ∧ w.H0 a = none ∧ ∃ o, H a = some o := fun a ha => by
    rcases List.mem_cons.mp ha with rfl | ha
    · exact ⟨h3, h4, _, h2⟩
    · obtain ⟨vs, q1, q2, q3⟩ := kid a ha
      exact ⟨q2, q3, _, q1⟩
  let B' : Hp := fun a => if a ∈ l :: as then H a else B a
  have bin : ∀ a ∈ l :: as, B' a = H a := fun a ha => if_pos ha
  have bout : ∀ a, a ∉ l :: as → B' a = B a := fun a ha => if_neg ha
  have eb : Ex B B' := fun a o q => by
    by_cases z : a ∈ l :: as
    · have := (own a z).1; rw [q] at this; cases this
    · rw [bout a z]; exact q
  have kids : Paired (fun a xs => (tL t).rep B' (.ref a) xs) as xss := by
    have gen : ∀ {as' : List Addr} {xss' : List (List α)}, (∀ a ∈ as', a ∈ l :: as) → Paired (Kid w B H t) as' xss' → Paired (fun a xs => (tL t).rep B' (.ref a) xs) as' xss' := fun {as' xss'} hm pp => by
      induction pp with
      | nil => exact .nil
      | cons k r ih =>
        obtain ⟨vs, q1, q2, _⟩ := k
        exact .cons ⟨_, vs, rfl, by rw [bin _ (hm _ List.mem_cons_self)]; exact q1, pw_mono (fun _ _ => t.mono eb) q2⟩ (ih fun a ha => hm a (List.mem_cons_of_mem _ ha))
    exact gen (fun a ha => List.mem_cons_of_mem _ ha) p
  have reps : Paired ((tL t).rep B') (as.map V.ref) xss := by
    have gen : ∀ {as' : List Addr} {xss' : List (List α)}, Paired (fun a xs => (tL t).rep B' (.ref a) xs) as' xss' → Paired ((tL t).rep B') (as'.map V.ref) xss' := fun {as' xss'} pp => by
      induction pp with
      | nil => exact .nil
      | cons k r ih => exact .cons k ih
    exact gen kids
  refine ⟨B', l, eb, h1, ⟨l, _, rfl, by rw [bin l List.mem_cons_self]; exact h2, reps⟩, kids, k.frz eb (fun a o q => ?_) (by rw [List.length_set]) fun j e he => ?_⟩
  · by_cases z : a ∈ l :: as
    · rw [bin a z] at q; exact .inr ⟨q, (own a z).2.1⟩
    · rw [bout a z] at q; exact .inl q
  · rw [List.getElem?_set] at he
    by_cases z : i = j
    · subst z
      rw [if_pos rfl] at he
      split at he
      · cases he; exact .inl rfl
      · cases he
    · rw [if_neg z] at he
      refine .inr ⟨he, fun a ha => ?_⟩
      have nin : a ∉ l :: as := fun q => by
        refine k.ds i j _ _ a z hi he ?_ ha
        rcases List.mem_cons.mp q with rfl | q
        · exact .inl h1
        · exact .inr q
      rw [bout a nin]
      obtain ⟨_, _, hb, _⟩ := (k.sl j e he).owned ha
      exact hb
theorem Ok.imSlot {σ : L2.St} {B H : Hp} {i : Nat} {v : V} {x : α} (k : Ok K w n Γ σ B H) (hs : σ[i]? = some (some v)) (h : t.rep B v x) : Ok K w n (Γ.set i (.im t x)) σ B H := by
  have o2 := k.setIm (i := i) h
  rw [slot_same hs] at o2
  exact o2
/-- a family, and another name for one of it, seen as data -/
theorem view_mm {i : Nat} {as : List Addr} {xss : List (List α)} (hi : Γ[i]? = some (.mm t as xss)) : View K w n Γ n (Γ.set i (.im (tL (tL t)) xss)) := fun σ B H ok => by
  obtain ⟨B', l, eb, hs, rp, _, o⟩ := ok.frzM hi
  have o2 := o.imSlot (i := i) hs rp
  rw [List.set_set] at o2
  exact ⟨B', eb, o2⟩
theorem view_mmAl {i j p : Nat} {a : Addr} {as : List Addr} {xss : List (List α)} {xs : List α} (hi : Γ[i]? = some (.mm t as xss)) (hj : Γ[j]? = some (.al a)) (ha : as[p]? = some a) (hx : xss[p]? = some xs) : View K w n Γ n ((Γ.set i (.im (tL (tL t)) xss)).set j (.im (tL t) xs)) := fun σ B H ok => by
  have hsj : σ[j]? = some (some (.ref a)) := ok.sl j _ hj
  obtain ⟨B', l, eb, hs, rp, kids, o⟩ := ok.frzM hi
  obtain ⟨a', h1, h2⟩ := pw_getR kids hx
  rw [ha] at h1; cases h1
  have o2 := o.imSlot (i := i) hs rp
  rw [List.set_set] at o2
  exact ⟨B', eb, o2.imSlot (i := j) hsj h2⟩
/-- what is read while things of one's own are lent -/
theorem Ok.lendV {σ : L2.St} {B H : Hp} (v : View K w n Γ n Γ') (ok : Ok K w n Γ σ B H) : ∃ B1, Ex B B1 ∧ Ok K ⟨w.d, w.ca, w.cs, B1, H⟩ n (hideE Γ' []) σ B1 H := by
  obtain ⟨B1, e1, o1⟩ := v σ B H ok
  exact ⟨B1, e1, o1.inner []⟩
theorem we_lendV {k : β → NK} (v : View K w n Γ n Γ') (hf : Flat u) (h : ∀ w' : Wd, SetE (hideE Γ' []) fun Γ2 => WpE K w' n Γ2 te u (fun x n' _ => n' = n ∧ k x n Γ)) : WpE K w n Γ te u k := fun σ B H ok Q c => by
  obtain ⟨B1, e1, o1⟩ := Ok.lendV v ok
  exact h _ σ B1 H o1 Q fun x vv n' Γ2 B' H' ⟨hn, q⟩ e o r => by subst hn; exact c x vv _ Γ B H' q (Ex.refl _) (ok.unlend e1 o.nil) (hf _ _ _ _ r)
theorem wt_lendV {tt : TT} {kt kf : NK} (v : View K w n Γ n Γ') (h : ∀ w' : Wd, SetE (hideE Γ' []) fun Γ2 => WpT K w' n Γ2 tt (fun n' _ => n' = n ∧ kt n Γ) (fun n' _ => n' = n ∧ kf n Γ)) : WpT K w n Γ tt kt kf := fun σ B H ok Q ct cf => by
  obtain ⟨B1, e1, o1⟩ := Ok.lendV v ok
  exact h _ σ B1 H o1 Q (fun n' Γ' B' H' ⟨hn, q⟩ e o => by subst hn; exact ct _ Γ B H' q (Ex.refl _) (ok.unlend e1 o.nil)) (fun n' Γ' B' H' ⟨hn, q⟩ e o => by subst hn; exact cf _ Γ B H' q (Ex.refl _) (ok.unlend e1 o.nil))
/-! ### another name for one of the family -/
/-- row = rows[p] -/
theorem ws_alias {i j : Nat} {as : List Addr} {xss : List (List α)} (hi : Γ[i]? = some (.mm t as xss)) (h : WpE K w n Γ tb tI (fun p n Γ' => Γ'[i]? = some (.mm t as xss) ∧ (0 ≤ p ∧ p < xss.length) ∧ ∀ a, as[p.toNat]? = some a → SetE (Γ'.set j (.al a)) (nx n))) :
    WpS K w n Γ (tAsg (tOp (rIx K) (tVar i) tb) (gName j)) res nx bk ct rt := fun σ B H ok D a b c d => by
  obtain ⟨l, h1, _⟩ := ok.sl i _ hi
  refine ⟨_, h1, h σ B H ok _ fun p v n' Γ' B' H' ⟨g, hp, q⟩ e o r => ?_⟩
  obtain ⟨l', k1, k2, k3, k4, k5, kp⟩ := o.sl i _ g
  rw [h1] at k1; cases k1
  have hl : as.length = xss.length := pw_len kp
  have hlt : p.toNat < as.length := by omega
  have ha : as[p.toNat]? = some as[p.toNat] := List.getElem?_eq_getElem hlt
  refine .inl ⟨l, as.map V.ref, p, .ref as[p.toNat], rfl, r, SqL.of k2, ?_, a n' _ _ B' H' (q _ ha) e o.setAl⟩
  rw [atI_int hp.1 (by simpa using hlt)]
  simp
/-- what is one of the family changes -/
theorem Ok.kid {σ : L2.St} {B H : Hp} {i p : Nat} {a : Addr} {as : List Addr} {xss : List (List α)} {vs : List V} {ys : List α} (k : Ok K w n Γ σ B H) (hi : Γ[i]? = some (.mm t as xss)) (ha : as[p]? = some a) (hr : Paired (t.rep B) vs ys) :
    Ok K w n (Γ.set i (.mm t as (xss.set p ys))) σ B (upd H a (.lst vs)) := by
  obtain ⟨l, h1, h2, h3, h4, h5, kp⟩ := k.sl i _ hi
  have il : i < Γ.length := (List.getElem?_eq_some_iff.mp hi).1
  have ham : a ∈ as := List.mem_of_getElem? ha
  obtain ⟨vs0, q1, q2, q3⟩ := pw_kid kp a ham
  have nd := List.nodup_cons.mp h5
  refine k.chg q2 q3 (by rw [List.length_set]) (fun j e he => ?_) (fun x e hx => ?_)
  · rw [List.getElem?_set] at he
    by_cases z : i = j
    · subst z
      rw [if_pos rfl, if_pos il] at he
      cases he
      have la : l ≠ a := fun q => nd.1 (q ▸ ham)
      refine .inl ⟨l, h1, by rw [upd_ne la]; exact h2, h3, h4, h5, ?_⟩
      -- each kid
      have gen : ∀ {as' : List Addr} {xss' : List (List α)} (p' : Nat), as'.Nodup → as'[p']? = some a → Paired (Kid w B H t) as' xss' → Paired (Kid w B (upd H a (.lst vs)) t) as' (xss'.set p' ys) := fun {as' xss'} p' nd' ha' pp => by
        induction pp generalizing p' with
        | nil => simp at ha'
        | @cons b xs as2 xss2 kd r ih =>
          have nd2 := List.nodup_cons.mp nd'
          cases p' with
          | zero =>
            simp at ha'; subst ha'
            refine .cons ⟨vs, upd_same, hr, q2, q3⟩ (pw_kids r (Ex.refl _) fun c hc => ?_)
            obtain ⟨_, _, g2, g3⟩ := pw_kid r c hc
            have cb : c ≠ b := fun q => nd2.1 (by rw [← q]; exact hc)
            exact ⟨by rw [upd_ne cb], g2, g3⟩
          | succ p' =>
            obtain ⟨us, g1, g2, g3, g4⟩ := kd
            have hb : b ≠ a := fun q => nd2.1 (q ▸ List.mem_of_getElem? (by simpa using ha'))
            exact .cons ⟨us, by rw [upd_ne hb]; exact g1, g2, g3, g4⟩ (ih p' nd2.2 (by simpa using ha'))
      exact gen p nd.2 ha kp
    · rw [if_neg z] at he
      exact .inr ⟨he, k.ds i j _ _ a z hi he (.inr ham)⟩
  · rw [List.getElem?_set] at hx
    by_cases z : i = x
    · subst z
      rw [if_pos rfl, if_pos il] at hx
      cases hx
      exact .inr ⟨_, hi, fun a ha => ha⟩
    · rw [if_neg z] at hx
      exact .inr ⟨e, hx, fun a ha => ha⟩
/-- row[k] = e, row another name for the p-th of the family -/
theorem ws_setIxA {i j p : Nat} {a : Addr} {as : List Addr} {xss : List (List α)} {xs : List α} {ti : TE} (hj : Γ[j]? = some (.al a)) (ha : as[p]? = some a) (hx : xss[p]? = some xs)
    (h : WpE K w n Γ te t (fun x n Γ => WpE K w n Γ ti tI (fun k n Γ => Γ[i]? = some (.mm t as xss) ∧ (0 ≤ k ∧ k < xs.length) ∧ SetE (Γ.set i (.mm t as (xss.set p (xs.set k.toNat x)))) (nx n)))) :
    WpS K w n Γ (tAsg te (gSub (tVar j) ti rSetL)) res nx bk ct rt := fun σ B H ok D a' b c d => by
  have hs : σ[j]? = some (some (.ref a)) := ok.sl j _ hj
  refine h σ B H ok _ fun x v n1 Γ1 B1 H1 q1 e1 o1 r1 => ⟨.ref a, hs, ?_⟩
  refine q1 σ B1 H1 o1 _ fun k kv n2 Γ2 B2 H2 ⟨g, hk, q⟩ e2 o2 r2 => ?_
  obtain ⟨l, k1, k2, k3, k4, k5, kp⟩ := o2.sl i _ g
  obtain ⟨a2, g1, vs, g2, g3, _⟩ := pw_getR kp hx
  rw [ha] at g1; cases g1
  refine ⟨a, vs, k, k.toNat, rfl, r2, g2, ?_, a' n2 _ _ B2 _ q (e1.trans e2) (o2.kid g ha (pw_set (t.mono e2 r1) _ g3))⟩
  rw [pw_len g3]
  exact ixN_int hk.1 hk.2
/-- row.append(e) -/
theorem ws_appendA {i j p : Nat} {a : Addr} {as : List Addr} {xss : List (List α)} {xs : List α} (hj : Γ[j]? = some (.al a)) (hi0 : Γ[i]? = some (.mm t as xss)) (ha : as[p]? = some a) (hx : xss[p]? = some xs)
    (h : WpE K w n Γ te t (fun x n' Γ' => Γ'[i]? = some (.mm t as xss) ∧ xs.length < 100000 ∧ SetE (Γ'.set i (.mm t as (xss.set p (xs ++ [x])))) (nx n'))) :
    WpS K w n Γ (tDrop (tBM K "list" rAppend (tVar j) (tCons te tNil))) res nx bk ct rt := fun σ B H ok D a' b c d => by
  have hs : σ[j]? = some (some (.ref a)) := ok.sl j _ hj
  obtain ⟨l0, _, _, _, _, _, kp0⟩ := ok.sl i _ hi0
  obtain ⟨a0, g10, vs0, g20, _⟩ := pw_getR kp0 hx
  rw [ha] at g10; cases g10
  refine ⟨.ref a, hs, .inl ⟨rfl, vs0, .inl (.inl g20)⟩, h σ B H ok _ fun x v n' Γ' B' H' ⟨g, hz, q⟩ e o r => ?_⟩
  obtain ⟨l, k1, k2, k3, k4, k5, kp⟩ := o.sl i _ g
  obtain ⟨a2, g1, vs, g2, g3, _⟩ := pw_getR kp hx
  rw [ha] at g1; cases g1
  exact ⟨a, vs, v, rfl, rfl, g2, by rw [pw_len g3]; exact szl hz, a' n' _ _ B' _ q e (o.kid g ha (pw_snoc g3 r))⟩
/-- an assignment of one of two -/
theorem ws_asgIf {tt : TT} {g : TG} (h : WpT K w n Γ tt (fun n Γ => WpS K w n Γ (tAsg ta g) res nx bk ct rt) (fun n Γ => WpS K w n Γ (tAsg tb g) res nx bk ct rt)) : WpS K w n Γ (tAsg (tIf tt ta tb) g) res nx bk ct rt := fun σ B H ok D a b c d =>
  h σ B H ok _ (fun n1 Γ1 B1 H1 q e o => by
    show ta σ H1 _
    exact q σ B1 H1 o D (fun n' Γ' σ' B' H' q e' => a n' Γ' σ' B' H' q (e.trans e')) (fun n' Γ' σ' B' H' q e' => b n' Γ' σ' B' H' q (e.trans e'))
      (fun n' Γ' σ' B' H' q e' => c n' Γ' σ' B' H' q (e.trans e')) (fun x v n' B' H' q e' => d x v n' B' H' q (e.trans e'))) fun n1 Γ1 B1 H1 q e o => by
    show tb σ H1 _
    exact q σ B1 H1 o D (fun n' Γ' σ' B' H' q e' => a n' Γ' σ' B' H' q (e.trans e')) (fun n' Γ' σ' B' H' q e' => b n' Γ' σ' B' H' q (e.trans e'))
      (fun n' Γ' σ' B' H' q e' => c n' Γ' σ' B' H' q (e.trans e')) (fun x v n' B' H' q e' => d x v n' B' H' q (e.trans e'))
/-- [own lists for ..]: a family of one's own -/
theorem wm_lcM {wi : TI} {g : TG} {vs : List Nat} {kk : List (List β) → NK} (u : Ty β) (I : List α → Nat → List (List β) → Option Nat → Prop) (hg : GSl g vs)
    (h : WpI K w n Γ wi t (fun xs n Γ => For3 (I xs 0 [] n) (∀ (w' : Wd) (i : Nat) x yss n, w'.d = w.d → w'.ca = w.ca → w'.cs = w.cs → xs[i]? = some x → I xs i yss n →
      SetE (hideE Γ vs) fun Γh => WpG K w' n Γh g t x (fun n Γ => WpM K w' n Γ te (fun r n _ => ∃ ys, r = rL u ys ∧ yss.length < 100000 ∧ I xs (i + 1) (yss ++ [ys]) n)))
      (∀ yss n, I xs xs.length yss n → kk yss n Γ))) : WpMM K w n Γ (tLc wi g tYes te vs) u kk := fun σ B H ok Q c =>
  h σ B H ok _ fun xs J n0 Γ0 B0 H0 ⟨hu, hs, he⟩ e0 o0 it => by
    intro D hD
    have ownD := Own.new (r := rL u []) (o := .lst []) o0 hD ⟨[], rfl, .nil⟩
    refine ⟨fun i m H => m + i = xs.length ∧ ∃ yss n B1 as, I xs i yss n ∧ Ex B0 B1 ∧ Ok K w n Γ0 σ B1 H ∧ OwnF w Γ0 σ B1 H u D as yss, ?_, ?_⟩
    · refine ⟨xs.length, rfl, [], n0, B0, [], hu, Ex.refl _, o0.grow (Grow.open o0.ex hD), ⟨upd_same, ownD.b, ownD.h0, by simp, .nil, fun a ha i e hi z => ?_⟩⟩
      rw [List.mem_singleton.mp ha] at z
      exact ownD.df i e hi z
    · rintro i m H1 ⟨hm, yss, n1, B1, as, hI, e1, o1, ow⟩
      by_cases hi : i < xs.length
      · refine .inr ⟨it.go i H1 (e1.trans o1.ex) hi, fun H' => ∃ yss n B1 as, I xs (i + 1) yss n ∧ Ex B0 B1 ∧ Ok K w n Γ0 σ B1 H' ∧ OwnF w Γ0 σ B1 H' u D as yss, ?_, ?_⟩
        · rintro H' hN
          exact ⟨m - 1, by omega, by omega, hN⟩
        · intro v H' hy
          obtain ⟨B2, gr, rp⟩ := it.yld i _ H1 B1 v H' (List.getElem?_eq_getElem hi) e1 o1.ex hy
          have o2 := o1.grow gr
          have kid1 := pw_kid ow.kids
          have all1 : ∀ a ∈ D :: as, ∃ o, H1 a = some o ∧ B1 a = none ∧ w.H0 a = none := fun a ha => by
            rcases List.mem_cons.mp ha with rfl | ha
            · exact ⟨_, ow.ob, ow.b, ow.h0⟩
            · obtain ⟨us, q1, q2, q3⟩ := kid1 a ha
              exact ⟨_, q1, q2, q3⟩
          have all2 : ∀ a ∈ D :: as, ∃ o, H' a = some o ∧ B2 a = none ∧ w.H0 a = none ∧ H1 a = some o := fun a ha => by
            obtain ⟨o, q1, q2, q3⟩ := all1 a ha
            exact ⟨o, gr.h _ _ q1, gr.none q2 q1, q3, q1⟩
          have ned : ∀ a ∈ D :: as, a ≠ w.d := fun a ha z => by
            obtain ⟨_, _, _, q3, _⟩ := all2 a ha
            exact noS q3 (z ▸ o1.hd)
          have key := hs ⟨w.d, w.ca, w.cs, B2, H'⟩ i _ yss n1 rfl rfl rfl (List.getElem?_eq_getElem hi) hI (wipe σ vs) B2 H' (o2.inner vs) v rp _ fun n3 Γ3 σ3 B3 H3 q3 e3 o3 => (by
            show (fun (b : Bool) H3 => if b = true then te σ3 H3 (fun y H4 => ∃ acc, H4 D = some (.lst acc) ∧ acc.length < sizeLine ∧ ∃ yss n B1 as, I xs (i + 1) yss n ∧ Ex B0 B1 ∧ Ok K w n Γ0 σ B1 (upd H4 D (.lst (acc ++ [y]))) ∧ OwnF w Γ0 σ B1 (upd H4 D (.lst (acc ++ [y]))) u D as yss) else ∃ yss n B1 as, I xs (i + 1) yss n ∧ Ex B0 B1 ∧ Ok K w n Γ0 σ B1 H3 ∧ OwnF w Γ0 σ B1 H3 u D as yss) true H3
            show if true = true then _ else _
            rw [if_pos rfl]
            refine q3 σ3 B3 H3 o3 _ fun r l n5 Γ5 B5 H5 ⟨ys, hr, hz, hI5⟩ e5 o5 own5 => ?_
            subst hr
            have c5 := o5.nil
            have ok5 : Ok K w n5 Γ0 σ B5 H5 := o2.back c5
            have ex25 : Ex B2 B5 := e3.trans e5
            have all5 : ∀ a ∈ D :: as, H5 a = H1 a ∧ B5 a = none ∧ w.H0 a = none := fun a ha => by
              obtain ⟨o, q1, q2, q3, q4⟩ := all2 a ha
              refine ⟨by rw [q4]; exact c5.kp a o q1 (ned a ha), ?_, q3⟩
              cases q : B5 a with
              | none => rfl
              | some z =>
                rcases c5.nw a z q with r | r
                · have r' : B2 a = some z := r
                  rw [q2] at r'; cases r'
                · have r' : H' a = none := r
                  rw [q1] at r'; cases r'
            obtain ⟨⟨ob, p1, us, rfl, pu⟩, p2, p3, p4⟩ := own5
            have p3' : H' l = none := p3
            have nl : l ∉ D :: as := fun q => by
              obtain ⟨_, q1, _⟩ := all2 l q
              rw [p3'] at q1; cases q1
            have l0 : w.H0 l = none := by
              cases q : w.H0 l with
              | none => rfl
              | some z =>
                have ne : l ≠ w.d := fun zz => noS p3' (zz ▸ o2.hh)
                rw [o2.kp l z q ne] at p3'; cases p3'
            have hD5 := all5 D List.mem_cons_self
            have lD : l ≠ D := fun q => nl (q ▸ List.mem_cons_self)
            refine ⟨as.map V.ref, by rw [hD5.1]; exact ow.ob, by rw [List.length_map, pw_len ow.kids]; exact szl hz, yss ++ [ys], n5, B5, as ++ [l], hI5, (e1.trans gr.b).trans ex25, ?_, ?_⟩
            · exact ok5.chg hD5.2.1 hD5.2.2 rfl (fun j e q => .inr ⟨q, ow.df D List.mem_cons_self j e q⟩) (fun x e q => .inr ⟨e, q, fun a ha => ha⟩)
            · refine ⟨by rw [upd_same, List.map_append]; rfl, hD5.2.1, hD5.2.2, ?_, ?_, ?_⟩
              · have nd := ow.nd
                rw [← List.cons_append, List.nodup_append]
                exact ⟨nd, by simp, fun a ha b hb z => nl (by rw [List.mem_singleton.mp hb] at z; rw [← z]; exact ha)⟩
              · refine pw_snoc (pw_kids ow.kids ((gr.b).trans ex25) fun a ha => ?_) ⟨us, by rw [upd_ne lD]; exact p1, pu, p2, l0⟩
                obtain ⟨q1, q2, q3⟩ := all5 a (List.mem_cons_of_mem _ ha)
                have aD : a ≠ D := fun q => (List.nodup_cons.mp ow.nd).1 (by rw [← q]; exact ha)
                exact ⟨by rw [upd_ne aD]; exact q1, q2, q3⟩
              · intro a ha j e hj z
                rw [← List.cons_append] at ha
                rcases List.mem_append.mp ha with q | q
                · exact ow.df a q j e hj z
                · rw [List.mem_singleton.mp q] at z
                  obtain ⟨o', q1, _⟩ := (o2.sl j e hj).owned z
                  rw [p3'] at q1; cases q1)
          have key2 := hg v (wipe σ vs) H' _ key
          have ww : wipe (wipe σ vs) vs = wipe σ vs := by
            have gen : ∀ (us : List Nat) (τ : L2.St), (∀ i ∈ us, ∀ x, τ[i]? = some x → x = none) → wipe τ us = τ := fun us => by
              induction us with
              | nil => intro τ _; rfl
              | cons a us ih =>
                intro τ hτ
                unfold wipe
                rw [ih τ fun i hi => hτ i (by simp [hi])]
                apply List.ext_getElem?
                intro j
                rw [List.getElem?_set]
                split
                · rename_i z; subst z
                  split
                  · rename_i z
                    have := hτ a (by simp) τ[a] (List.getElem?_eq_getElem z)
                    rw [List.getElem?_eq_getElem z, this]
                  · rename_i z; exact (List.getElem?_eq_none_iff.mpr (by omega)).symm
                · rfl
            refine gen vs _ fun i hi x hx => ?_
            cases x with
            | none => rfl
            | some y => exact absurd hi (wipe_some hx).2
          rw [ww] at key2
          exact key2
      · have hi2 : i = xs.length := by omega
        subst hi2
        exact .inl ⟨it.stop H1 (e1.trans o1.ex), c _ D as n1 Γ0 B1 H1 (he yss n1 hI) (e0.trans e1) o1 ow⟩
end
end TL

/-! # TL: pops; instances that stay as they are made -/
namespace TL
open PySem L2
open PySem.W (Frag)
section
variable {K : Frag} {w : Wd} {n : Option Nat} {Γ Γ' : Env} {α β γ δ ρ A : Type} {t : Ty α} {u : Ty β} {ta tb te : TE} {ts ts' : TS} {res : ρ → Ent} {nx bk ct : NK} {rt : ρ → Option Nat → Prop}
theorem last_get {vs : List α} (h : vs ≠ []) : ∃ y, vs[vs.length - 1]? = some y := by
  have := List.length_pos_iff.mpr h
  exact ⟨_, List.getElem?_eq_getElem (by omega)⟩
/-- xs.pop() -/
theorem ws_pop {i : Nat} {xs : List α} (hi : Γ[i]? = some (.ml t xs)) (hne : xs ≠ []) (h : SetE (Γ.set i (.ml t xs.dropLast)) (nx n)) : WpS K w n Γ (tDrop (tBM0 K "list" rPop (tVar i))) res nx bk ct rt := fun σ B H ok D a b c d => by
  obtain ⟨l, o, h1, h2, h3, h4, vs, rfl, p⟩ := ok.sl i _ hi
  have hv : vs ≠ [] := fun z => by
    have := pw_len p
    rw [z] at this
    exact hne (List.length_eq_zero_iff.mp this.symm)
  obtain ⟨y, hy⟩ := last_get hv
  exact ⟨.ref l, h1, .inl ⟨rfl, vs, .inl (.inl h2)⟩, l, vs, y, rfl, rfl, h2, hy, a n _ _ B _ h (Ex.refl _) (ok.put (r' := rL t xs.dropLast) hi h1 ⟨vs.dropLast, rfl, pw_dropLast p⟩)⟩
/-- row.pop(), row another name -/
theorem ws_popA {i j p : Nat} {a : Addr} {as : List Addr} {xss : List (List α)} {xs : List α} (hj : Γ[j]? = some (.al a)) (hi : Γ[i]? = some (.mm t as xss)) (ha : as[p]? = some a) (hx : xss[p]? = some xs) (hne : xs ≠ [])
    (h : SetE (Γ.set i (.mm t as (xss.set p xs.dropLast))) (nx n)) : WpS K w n Γ (tDrop (tBM0 K "list" rPop (tVar j))) res nx bk ct rt := fun σ B H ok D a' b c d => by
  have hs : σ[j]? = some (some (.ref a)) := ok.sl j _ hj
  obtain ⟨l, k1, k2, k3, k4, k5, kp⟩ := ok.sl i _ hi
  obtain ⟨a2, g1, vs, g2, g3, _⟩ := pw_getR kp hx
  rw [ha] at g1; cases g1
  have hv : vs ≠ [] := fun z => by
    have := pw_len g3
    rw [z] at this
    exact hne (List.length_eq_zero_iff.mp this.symm)
  obtain ⟨y, hy⟩ := last_get hv
  exact ⟨.ref a, hs, .inl ⟨rfl, vs, .inl (.inl g2)⟩, a, vs, y, rfl, rfl, g2, hy, a' n _ _ B _ h (Ex.refl _) (ok.kid hi ha (pw_dropLast g3))⟩
/-- rows.pop() -/
theorem ws_popM {i : Nat} {as : List Addr} {xss : List (List α)} (hi : Γ[i]? = some (.mm t as xss)) (hne : xss ≠ []) (h : SetE (Γ.set i (.mm t as.dropLast xss.dropLast)) (nx n)) : WpS K w n Γ (tDrop (tBM0 K "list" rPop (tVar i))) res nx bk ct rt := fun σ B H ok D a b c d => by
  obtain ⟨l, h1, h2, h3, h4, h5, kp⟩ := ok.sl i _ hi
  have il : i < Γ.length := (List.getElem?_eq_some_iff.mp hi).1
  have hv : as.map V.ref ≠ [] := fun z => by
    have := pw_len kp
    rw [List.map_eq_nil_iff.mp z] at this
    exact hne (List.length_eq_zero_iff.mp this.symm)
  obtain ⟨y, hy⟩ := last_get hv
  have sub : ∀ x ∈ as.dropLast, x ∈ as := fun x hx => List.dropLast_subset as hx
  have nd := List.nodup_cons.mp h5
  have nd2 : (l :: as.dropLast).Nodup := List.nodup_cons.mpr ⟨fun q => nd.1 (sub _ q), nd.2.sublist (List.dropLast_sublist as)⟩
  refine ⟨.ref l, h1, .inl ⟨rfl, _, .inl (.inl h2)⟩, l, _, y, rfl, rfl, h2, hy, a n _ _ B _ h (Ex.refl _) (ok.chg h3 h4 (by rw [List.length_set]) (fun j e he => ?_) (fun x e hx => ?_))⟩
  · rw [List.getElem?_set] at he
    by_cases z : i = j
    · subst z
      rw [if_pos rfl, if_pos il] at he
      cases he
      refine .inl ⟨l, h1, by rw [upd_same, List.map_dropLast], h3, h4, nd2, pw_kids (pw_dropLast kp) (Ex.refl _) fun x hx => ?_⟩
      obtain ⟨_, _, g2, g3⟩ := pw_kid kp x (sub x hx)
      have xl : x ≠ l := fun q => nd.1 (by rw [← q]; exact sub x hx)
      exact ⟨by rw [upd_ne xl], g2, g3⟩
    · rw [if_neg z] at he
      exact .inr ⟨he, ok.ds i j _ _ l z hi he (.inl h1)⟩
  · rw [List.getElem?_set] at hx
    by_cases z : i = x
    · subst z
      rw [if_pos rfl, if_pos il] at hx
      cases hx
      refine .inr ⟨_, hi, fun a ha => ?_⟩
      rcases ha with ha | ha
      · exact .inl ha
      · exact .inr (sub a ha)
    · rw [if_neg z] at hx
      exact .inr ⟨e, hx, fun a ha => ha⟩
/-! ### instances -/
/-- an instance of C that nobody changes any more; F: its fields -/
def tIns (C : Addr) (F : Hp → List (Str × V) → α → Prop) (mono : ∀ {B B' : Hp} {fs : List (Str × V)} {x : α}, Ex B B' → F B fs x → F B' fs x) : Ty α := ⟨fun B v x => ∃ a dx fs, v = .ref a ∧ B a = some (.ins C dx fs) ∧ F B fs x,
  fun e ⟨a, dx, fs, h, s, f⟩ => ⟨a, dx, fs, h, e _ _ s, mono e f⟩⟩
/-- x.f -/
theorem we_fld {C : Addr} {F : Hp → List (Str × V) → α → Prop} {mono : ∀ {B B' : Hp} {fs : List (Str × V)} {x : α}, Ex B B' → F B fs x → F B' fs x} {f : Str} {g : α → β} {k : β → NK} (cl : Cls K C) (na : NoAttr K C f) (hf : ∀ B fs x, F B fs x → ∃ y, fs.lookup f = some y ∧ u.rep B y (g x))
    (h : WpE K w n Γ ta (tIns C F mono) (fun x n Γ => k (g x) n Γ)) : WpE K w n Γ (tFld K ta f) u k := fun σ B H ok Q c =>
  h σ B H ok _ fun x v n1 Γ1 B1 H1 q e o ⟨a, dx, fs, h1, h2, h3⟩ => by
    obtain ⟨y, h4, h5⟩ := hf _ _ _ h3
    exact ⟨a, C, dx, fs, y, h1, o.ex _ _ h2, cl, na, h4, c _ y n1 Γ1 B1 H1 q e o h5⟩
/-- x.m(..), a promise over the instance and the arguments; nothing is drawn -/
theorem we_meth {C : Addr} {F : Hp → List (Str × V) → α → Prop} {mono : ∀ {B B' : Hp} {fs : List (Str × V)} {x : α}, Ex B B' → F B fs x → F B' fs x} {m : Str} {S : FS K} {R : TyA A} {E : XK} {tr : TA} {s : Ty S.ρ} {k : S.ρ → NK}
    (hS : S.A = (α × A)) (hargs : HEq S.args (aCons (tIns C F mono) R)) (hres : S.res = fun x => .im s x) (hc : S.cost = 0) (hno : ∀ B fs x, F B fs x → fs.lookup m = none)
    (h : WpE K w n Γ ta (tIns C F mono) (fun x n Γ => WpA K w n Γ tr R (fun a n Γ => S.pre (cast hS.symm (x, a)) ∧ ∀ r, S.post (cast hS.symm (x, a)) r → k r n Γ))) : WpE K w n Γ (tMeth C m S.sp [] E ta tr) s k := by
  obtain ⟨SA, Sargs, Sρ, Sres, Scost, Spre, Spost⟩ := S
  dsimp only at hS hargs hres hc h s k
  subst hS
  cases hargs
  subst hres; subst hc
  exact fun σ B H ok Q c => h σ B H ok _ fun x v n1 Γ1 B1 H1 q1 e1 o1 r1 => by
    obtain ⟨a, dx, fs, h1, h2, h3⟩ := r1
    subst h1
    refine ⟨a, dx, fs, rfl, o1.ex _ _ h2, hno _ _ _ h3, q1 σ B1 H1 o1 _ fun y vs n2 Γ2 B2 H2 ⟨hp, q⟩ e2 o2 r2 => ?_⟩
    rw [List.append_nil]
    refine ⟨w.d, w.ca, w.cs, n2, B2, (x, y), o2.entry, ⟨.ref a, vs, rfl, ⟨a, dx, fs, rfl, e2 _ _ h2, mono e2 h3⟩, r2⟩, hp, .inl rfl, fun r v' n' B' H' hx hcc e' o' sl => ?_⟩
    obtain ⟨v2, g1, g2⟩ := sl
    cases g1
    rcases hcc with ⟨_, rfl⟩ | ⟨mm, rfl, rfl⟩
    · exact c r v' _ Γ2 B' H' (q r hx) ((e1.trans e2).trans e') (o2.back o') g2
    · exact c r v' _ Γ2 B' H' (q r hx) ((e1.trans e2).trans e') (o2.back o') g2
end
/-! ### classes of the text, by their promises -/
/-- C(..) -/
structure MadeBy (P : Program) (w : World) (K : Frag) (mg : Str → Option Value) (base : Heap) (CX : CXT) (k : Nat) (C : Addr) (x : Str) (ps : List Str) (sp : Sp) : Prop where
  ex : ∃ f fd, Mk K C f ∧ mg x = some (.ref C) ∧ FnOk P w K mg base CX k f fd ps sp ∧ Binds K fd ps []
/-- o.m(..) -/
structure MethBy (P : Program) (w : World) (K : Frag) (mg : Str → Option Value) (base : Heap) (CX : CXT) (k : Nat) (C : Addr) (m : Str) (ps : List Str) (sp : Sp) : Prop where
  cl : Cls K C
  ex : ∃ f fd, Meth K C m f ∧ FnOk P w K mg base CX k f fd ps sp ∧ Binds K fd ps []
section
variable {X : Cx} {k : Nat} {C : Addr} {x m : Str} {ps : List Str} {sp : Sp} {p pos apos : Pos} {o e : Expr} {es : List Expr} {t : TA} {ta : TE}
theorem pe_makeC (c : MadeBy X.prog X.w X.K X.mg X.base CX0 k C x ps sp) (hr : Room (k + 1) X.A) (hg : Gl X x) (ha : PA X (e :: es) t) (hdb : (x == ("__debug__" : Str)) = false := by decide) (he : starEach (e :: es) X.env = (false, eval e X.env) :: starEach es X.env := by rfl) (hpl : (backTo pos (starEach es X.env)).any (·.1) = false := by rfl) :
    PE X (.Call (.Name x p) (e :: es) [] pos) (tMake C sp [] E0 t) := by
  obtain ⟨f, fd, h1, h2, h3, h4⟩ := c.ex
  exact pe_make h1 h3 hr hg h2 h4 .nil pass0 ha hdb he hpl
theorem pe_methC {pl : Sem Bool} (he : PE X o ta) (c : MethBy X.prog X.w X.K X.mg X.base CX0 k C m ps sp) (hr : Room k X.A) (ha : PA X (e :: es) t)
    (hst : starEach (e :: es) X.env = (false, eval e X.env) :: starEach es X.env := by rfl) (hpl : (backTo pos (starEach es X.env)).any (·.1) = false := by rfl)
    (ht : eval (.Call (.Attribute o m apos) (e :: es) [] pos) X.env = (do
      let ov ← eval o X.env
      standAt apos.atName
      let (f, first) ← holding [ov] (getMethod ov m pl)
      callWith pos f first (backTo pos (starEach (e :: es) X.env)) (backToKw pos (keywordEach [] X.env))) := by rfl) :
    PE X (.Call (.Attribute o m apos) (e :: es) [] pos) (tMeth C m sp [] E0 ta t) := by
  obtain ⟨f, fd, h1, h2, h3⟩ := c.ex
  exact pe_meth (pl := pl) he c.cl h1 h2 hr h3 .nil pass0 ha hst hpl ht
end
end TL

/-! # TL: four at once -/
namespace TL
open PySem L2
open PySem.W (Frag)
section
variable {K : Frag} {w : Wd} {n : Option Nat} {Γ Γ' : Env} {α β γ δ ρ A : Type} {t : Ty α} {u : Ty β} {s : Ty γ} {r : Ty δ} {ta tb tc td te : TE} {ts ts' : TS} {res : ρ → Ent} {nx bk ct : NK} {rt : ρ → Option Nat → Prop}
theorem we_tup4 {k : α × β × γ × δ → NK} (h : WpE K w n Γ ta t (fun x n Γ => WpE K w n Γ tb u (fun y n Γ => WpE K w n Γ tc s (fun z n Γ => WpE K w n Γ td r (fun q n Γ => k (x, y, z, q) n Γ))))) : WpE K w n Γ (tTup (tCons ta (tCons tb (tCons tc (tCons td tNil))))) (tP4 t u s r) k :=
  we_tupN (A := α × β × γ × δ) (T := ⟨fun d B vs a => ∃ v v' v2 v3, vs = [v, v', v2, v3] ∧ t.rep B v a.1 ∧ u.rep B v' a.2.1 ∧ s.rep B v2 a.2.2.1 ∧ r.rep B v3 a.2.2.2, fun e ⟨v, v', v2, v3, h, h1, h2, h3, h4⟩ => ⟨v, v', v2, v3, h, t.mono e h1, u.mono e h2, s.mono e h3, r.mono e h4⟩⟩)
    (fun d B vs a p ⟨v, v', v2, v3, h, h1, h2, h3, h4⟩ hp => by subst h; exact ⟨p, v, v', v2, v3, rfl, upd_same, t.mono (Ex.new hp) h1, u.mono (Ex.new hp) h2, s.mono (Ex.new hp) h3, r.mono (Ex.new hp) h4⟩) (fun d B vs a ⟨v, v', v2, v3, h, _⟩ => by subst h; exact (by decide : 4 ≤ 100000))
    (fun σ B H ok Q c => h σ B H ok _ fun x v n1 Γ1 B1 H1 q1 e1 o1 r1 => q1 σ B1 H1 o1 _ fun y v' n2 Γ2 B2 H2 q2 e2 o2 r2 => q2 σ B2 H2 o2 _ fun z v2 n3 Γ3 B3 H3 q3 e3 o3 r3 => q3 σ B3 H3 o3 _ fun q v3 n4 Γ4 B4 H4 q4 e4 o4 r4 =>
      c (x, y, z, q) _ n4 Γ4 B4 H4 q4 (((e1.trans e2).trans e3).trans e4) o4 ⟨v, v', v2, v3, rfl, t.mono ((e2.trans e3).trans e4) r1, u.mono (e3.trans e4) r2, s.mono e4 r3, r4⟩)
/-- one's own family, used as a datum from here on -/
theorem we_varMM {i : Nat} {as : List Addr} {xss : List (List α)} {k : List (List α) → NK} (h : Γ[i]? = some (.mm t as xss)) (q : SetE (Γ.set i (.im (tL (tL t)) xss)) (k xss n)) : WpE K w n Γ (tVar i) (tL (tL t)) k := fun σ B H ok Q c => by
  obtain ⟨B', l, eb, hs, rp, _, o⟩ := ok.frzM h
  have o2 := o.imSlot (i := i) hs rp
  rw [List.set_set] at o2
  exact ⟨_, hs, c xss _ n _ _ H q eb o2 rp⟩
/-! ### what is made while something new stands nowhere yet: in a world of its own -/
theorem Own.back {σ : L2.St} {B H B' H' : Hp} {r : Rs} {l : Addr} {n' : Option Nat} (h : Own w Γ σ B H r l) (o : Ok K w n Γ σ B H) (c : Ok K ⟨w.d, w.ca, w.cs, B, H⟩ n' [] [] B' H') : Own w Γ σ B' H' r l := by
  have ned := h.ned o
  obtain ⟨⟨ob, h1, h2⟩, h3, h4, h5⟩ := h
  refine ⟨⟨ob, c.kp l ob h1 ned, r.mono c.ex0 h2⟩, ?_, h4, h5⟩
  cases q : B' l with
  | none => rfl
  | some u =>
    rcases c.nw l u q with z | z
    · have z' : B l = some u := z
      rw [h3] at z'; cases z'
    · have z' : H l = none := z
      rw [h1] at z'; cases z'
theorem new_h0 {σ : L2.St} {B H : Hp} {l : Addr} (o : Ok K w n Γ σ B H) (hl : H l = none) : w.H0 l = none := by
  cases q : w.H0 l with
  | none => rfl
  | some z =>
    have ne : l ≠ w.d := fun zz => noS hl (zz ▸ o.hh)
    rw [o.kp l z q ne] at hl; cases hl
theorem Own.out {Γi : Env} {σ σi : L2.St} {B H B' H' : Hp} {r : Rs} {l : Addr} (h : Own ⟨w.d, w.ca, w.cs, B, H⟩ Γi σi B' H' r l) (o : Ok K w n Γ σ B H) : Own w Γ σ B' H' r l := by
  obtain ⟨h1, h3, h4, _⟩ := h
  have h4' : H l = none := h4
  refine ⟨h1, h3, new_h0 o h4', fun i e he z => ?_⟩
  obtain ⟨o', q1, _⟩ := (o.sl i e he).owned z
  rw [h4'] at q1; cases q1
theorem OwnF.out {Γi : Env} {σ σi : L2.St} {B H B' H' : Hp} {l : Addr} {as : List Addr} {xss : List (List α)} (h : OwnF ⟨w.d, w.ca, w.cs, B, H⟩ Γi σi B' H' t l as xss) (o : Ok K w n Γ σ B H) : OwnF w Γ σ B' H' t l as xss ∧ ∀ a ∈ l :: as, H a = none := by
  have new : ∀ a ∈ l :: as, H a = none := fun a ha => by
    rcases List.mem_cons.mp ha with rfl | ha
    · exact h.h0
    · obtain ⟨_, _, _, q⟩ := pw_kid h.kids a ha
      exact q
  refine ⟨⟨h.ob, h.b, new_h0 o (new l List.mem_cons_self), h.nd, pw_kids h.kids (Ex.refl _) fun a ha => ?_, fun a ha i e he z => ?_⟩, new⟩
  · obtain ⟨_, _, q2, _⟩ := pw_kid h.kids a ha
    exact ⟨rfl, q2, new_h0 o (new a (List.mem_cons_of_mem _ ha))⟩
  · obtain ⟨o', q1, _⟩ := (o.sl i e he).owned z
    rw [new a ha] at q1; cases q1
theorem OwnF.back {σ : L2.St} {B H B' H' : Hp} {l : Addr} {as : List Addr} {xss : List (List α)} {n' : Option Nat} (h : OwnF w Γ σ B H t l as xss) (o : Ok K w n Γ σ B H) (c : Ok K ⟨w.d, w.ca, w.cs, B, H⟩ n' [] [] B' H') : OwnF w Γ σ B' H' t l as xss := by
  have all : ∀ a ∈ l :: as, ∃ ob, H a = some ob ∧ B a = none ∧ w.H0 a = none := fun a ha => by
    rcases List.mem_cons.mp ha with rfl | ha
    · exact ⟨_, h.ob, h.b, h.h0⟩
    · obtain ⟨_, q1, q2, q3⟩ := pw_kid h.kids a ha
      exact ⟨_, q1, q2, q3⟩
  have all2 : ∀ a ∈ l :: as, H' a = H a ∧ B' a = none ∧ w.H0 a = none := fun a ha => by
    obtain ⟨ob, q1, q2, q3⟩ := all a ha
    have ned : a ≠ w.d := fun z => noS q3 (z ▸ o.hd)
    refine ⟨by rw [q1]; exact c.kp a ob q1 ned, ?_, q3⟩
    cases q : B' a with
    | none => rfl
    | some u =>
      rcases c.nw a u q with z | z
      · have z' : B a = some u := z
        rw [q2] at z'; cases z'
      · have z' : H a = none := z
        rw [q1] at z'; cases z'
  have hl := all2 l List.mem_cons_self
  exact ⟨by rw [hl.1]; exact h.ob, hl.2.1, h.h0, h.nd, pw_kids h.kids c.ex0 fun a ha => all2 a (List.mem_cons_of_mem _ ha), h.df⟩
theorem get_set.{v} {β : Type v} {l : List β} {i j : Nat} {x y : β} (h : (l.set i x)[j]? = some y) : (i = j ∧ y = x ∧ i < l.length) ∨ (i ≠ j ∧ l[j]? = some y) := by
  rw [List.getElem?_set] at h
  by_cases z : i = j
  · subst z
    rw [if_pos rfl] at h
    split at h
    · rename_i il; cases h; exact .inl ⟨rfl, rfl, il⟩
    · cases h
  · rw [if_neg z] at h; exact .inr ⟨z, h⟩
/-- a, b, c = (own list), (own family), (own list); nothing is drawn, and what is one's own is not read -/
theorem ws_par3M {i j l : Nat} (h : WpM K w n Γ ta (fun r1 n1 Γ1 => n1 = n ∧ Γ1 = Γ ∧ ∀ w' : Wd, SetE (hideE Γ []) fun Γh => WpMM K w' n Γh tb u (fun xss n2 _ => n2 = n ∧ ∀ w2 : Wd, SetE (hideE Γ []) fun Γh => WpM K w2 n Γh tc (fun r2 n3 _ => n3 = n ∧ ∀ as, as.length = xss.length → SetE (((Γ.set i (.mu r1)).set j (.mm u as xss)).set l (.mu r2)) (nx n))))) :
    WpS K w n Γ (tPar3 i j l (tCons ta (tCons tb (tCons tc tNil)))) res nx bk ct rt := fun σ B H ok D a b c d =>
  h σ B H ok _ fun r1 l1 n1 Γ1 B1 H1 ⟨hn1, hg1, q1⟩ e1 o1 ow1 => by
    subst hn1; subst hg1
    refine q1 ⟨w.d, w.ca, w.cs, B1, H1⟩ σ B1 H1 (o1.inner []) _ fun xss l2 as n2 Γ2 B2 H2 ⟨hn2, q2⟩ e2 o2 ow2 => ?_
    subst hn2
    have ok2 := o1.back o2.nil
    have ow1b := ow1.back o1 o2.nil
    obtain ⟨ow2b, new2⟩ := ow2.out o1
    refine q2 ⟨w.d, w.ca, w.cs, B2, H2⟩ σ B2 H2 (ok2.inner []) _ fun r2 l3 n3 Γ3 B3 H3 ⟨hn3, q3⟩ e3 o3 ow3 => ?_
    subst hn3
    have ok3 := ok2.back o3.nil
    have ow1c := ow1b.back ok2 o3.nil
    have ow2c := ow2b.back ok2 o3.nil
    have ow3c := ow3.out ok2
    have h3n : H2 l3 = none := ow3.h0
    have i1 : ∃ ob, H1 l1 = some ob := ⟨_, ow1.ob.choose_spec.1⟩
    have i2 : ∃ ob, H2 l1 = some ob := ⟨_, ow1b.ob.choose_spec.1⟩
    have ne1 : ∀ x ∈ l2 :: as, x ≠ l1 := fun x hx z => by
      obtain ⟨ob, q⟩ := i1
      rw [← z, new2 x hx] at q; cases q
    have ne3 : l3 ≠ l1 := fun z => by
      obtain ⟨ob, q⟩ := i2
      rw [← z, h3n] at q; cases q
    have ne23 : ∀ x ∈ l2 :: as, x ≠ l3 := fun x hx z => by
      have : ∃ ob, H2 x = some ob := by
        rcases List.mem_cons.mp hx with rfl | hx
        · exact ⟨_, ow2b.ob⟩
        · obtain ⟨_, q, _⟩ := pw_kid ow2b.kids x hx
          exact ⟨_, q⟩
      obtain ⟨ob, q⟩ := this
      rw [z, h3n] at q; cases q
    refine ⟨.ref l1, .ref l2, .ref l3, rfl, a _ _ _ B3 H3 (q3 as (pw_len ow2.kids)) ((e1.trans e2).trans e3) ?_⟩
    have a1 := ok3.setMu (i := i) ow1c
    have a2 := a1.setO (i := j) (v := .ref l2) (e0 := .mm u as xss) ⟨l2, rfl, ow2c.ob, ow2c.b, ow2c.h0, ow2c.nd, ow2c.kids⟩ fun x hx m e hm z => by
      have hx' : x ∈ l2 :: as := by
        rcases hx with hx | hx
        · have : some (some (V.ref l2)) = some (some (V.ref x)) := hx
          cases this; exact List.mem_cons_self
        · exact List.mem_cons_of_mem _ hx
      rcases get_set hm with ⟨rfl, rfl, il⟩ | ⟨nm, hm⟩
      · have z' : (σ.set i (some (V.ref l1)))[i]? = some (some (V.ref x)) := z
        rw [List.getElem?_set, if_pos rfl, if_pos (by rw [← ok3.ln]; exact il)] at z'
        cases z'
        exact ne1 l1 hx' rfl
      · rw [List.getElem?_set, if_neg nm] at z
        exact ow2c.df x hx' m e hm z
    refine a2.setMu (i := l) ⟨ow3c.ob, ow3c.b, ow3c.h0, fun m e hm z => ?_⟩
    rcases get_set hm with ⟨rfl, rfl, il⟩ | ⟨nm, hm⟩
    · rcases z with z | z
      · rw [List.getElem?_set, if_pos rfl] at z
        split at z
        · cases z; exact ne23 l2 List.mem_cons_self rfl
        · cases z
      · exact ne23 l3 (List.mem_cons_of_mem _ z) rfl
    · rw [List.getElem?_set, if_neg nm] at z
      rcases get_set hm with ⟨rfl, rfl, il⟩ | ⟨nm2, hm⟩
      · have z' : (σ.set i (some (V.ref l1)))[i]? = some (some (V.ref l3)) := z
        rw [List.getElem?_set, if_pos rfl, if_pos (by rw [← ok3.ln]; exact il)] at z'
        cases z'
        exact ne3 rfl
      · rw [List.getElem?_set, if_neg nm2] at z
        exact ow3c.df m e hm z
end
end TL

/-! # TL: is of bools, methods by one of several promises, all that is new frozen -/
namespace TL
open PySem L2
open PySem.W (Frag)
section
variable {K : Frag} {w : Wd} {n : Option Nat} {Γ Γ' : Env} {α β γ δ ρ A : Type} {t : Ty α} {u : Ty β} {ta tb te : TE}
theorem we_isB {k : Bool → NK} (h : WpE K w n Γ ta tBo (fun a n Γ => WpE K w n Γ tb tBo (fun b n Γ => k (decide (a = b)) n Γ))) : WpE K w n Γ (tOp rIsB ta tb) tBo k :=
  we_op2 (s := tBo) (fun a b => decide (a = b)) (fun _ _ => True) (fun B x y a b H Q h1 h2 e _ q => ⟨a, b, h1, h2, q _ rfl⟩) (we_mono h fun x _ _ q => we_mono q fun y _ _ z => ⟨trivial, z⟩)
theorem we_notB {k : Bool → NK} (h : WpE K w n Γ ta tBo (fun a n Γ => WpE K w n Γ tb tBo (fun b n Γ => k (!decide (a = b)) n Γ))) : WpE K w n Γ (tOp rNotB ta tb) tBo k :=
  we_op2 (s := tBo) (fun a b => !decide (a = b)) (fun _ _ => True) (fun B x y a b H Q h1 h2 e _ q => ⟨a, b, h1, h2, q _ rfl⟩) (we_mono h fun x _ _ q => we_mono q fun y _ _ z => ⟨trivial, z⟩)
theorem layB (x : Bool) : ((iB (K := K)).enc x).canLay0 = true := by show PyData.canLay0 (.bool x) = true; simp [PyData.canLay0]
theorem we_eqB {k : Bool → NK} (h : WpE K w n Γ ta tBo (fun a n Γ => WpE K w n Γ tb tBo (fun b n Γ => k (decide (a = b)) n Γ))) : WpE K w n Γ (tOp (rEqU K) ta tb) tBo k :=
  we_eqD iB (Nat.zero_le _) (we_mono h fun x _ _ q => we_mono q fun y _ _ z => ⟨⟨layB x, layB y⟩, z⟩)
theorem we_neB {k : Bool → NK} (h : WpE K w n Γ ta tBo (fun a n Γ => WpE K w n Γ tb tBo (fun b n Γ => k (!decide (a = b)) n Γ))) : WpE K w n Γ (tOp (rNeU K) ta tb) tBo k :=
  we_neD iB (Nat.zero_le _) (we_mono h fun x _ _ q => we_mono q fun y _ _ z => ⟨⟨layB x, layB y⟩, z⟩)
theorem we_neUI {k : Bool → NK} (h : WpE K w n Γ ta (tU tI) (fun a n Γ => WpE K w n Γ tb (tU tI) (fun b n Γ => k (!decide (a = b)) n Γ))) : WpE K w n Γ (tOp (rNeU K) ta tb) tBo k :=
  we_neD (iU iI) (by show 1 ≤ 64; decide) (we_mono h fun x _ _ q => we_mono q fun y _ _ z => ⟨⟨layU fun x _ => layI x, layU fun x _ => layI x⟩, z⟩)
theorem we_eqUI {k : Bool → NK} (h : WpE K w n Γ ta (tU tI) (fun a n Γ => WpE K w n Γ tb (tU tI) (fun b n Γ => k (decide (a = b)) n Γ))) : WpE K w n Γ (tOp (rEqU K) ta tb) tBo k :=
  we_eqD (iU iI) (by show 1 ≤ 64; decide) (we_mono h fun x _ _ q => we_mono q fun y _ _ z => ⟨⟨layU fun x _ => layI x, layU fun x _ => layI x⟩, z⟩)
/-- all that is new is frozen -/
theorem Grow.all {B H H' : Hp} (e : Ex B H) (x : Ex H H') : ∃ B', Grow B H B' H' ∧ ∀ a o, H a = Option.none → H' a = some o → B' a = some o := by
  refine ⟨fun a => if H a = Option.none then H' a else B a, ⟨fun a o q => ?_, fun a o q => ?_, x, fun a o q => ?_⟩, fun a o q z => ?_⟩
  · split at q
    · exact q
    · exact x _ _ (e _ _ q)
  · show (if H a = Option.none then H' a else B a) = some o
    rw [if_neg (by rw [e _ _ q]; intro z; cases z)]; exact q
  · split at q
    · rename_i z; exact .inr z
    · exact .inl q
  · show (if H a = Option.none then H' a else B a) = some o
    rw [if_pos q]; exact z
/-- x.m(..), a promise that keeps what S says -/
theorem we_methS {C : Addr} {F : Hp → List (Str × V) → α → Prop} {mono : ∀ {B B' : Hp} {fs : List (Str × V)} {x : α}, Ex B B' → F B fs x → F B' fs x} {m : Str} {S : FS K} {sp : Sp} {R : TyA A} {E : XK} {tr : TA} {s : Ty S.ρ} {k : S.ρ → NK} (sub : ∀ vs H Q X, S.sp vs H Q X → sp vs H Q X)
    (hS : S.A = (α × A)) (hargs : HEq S.args (aCons (tIns C F mono) R)) (hres : S.res = fun x => .im s x) (hc : S.cost = 0) (hno : ∀ B fs x, F B fs x → fs.lookup m = none)
    (h : WpE K w n Γ ta (tIns C F mono) (fun x n Γ => WpA K w n Γ tr R (fun a n Γ => S.pre (cast hS.symm (x, a)) ∧ ∀ r, S.post (cast hS.symm (x, a)) r → k r n Γ))) : WpE K w n Γ (tMeth C m sp [] E ta tr) s k := by
  obtain ⟨SA, Sargs, Sρ, Sres, Scost, Spre, Spost⟩ := S
  dsimp only at hS hargs hres hc h k s
  subst hS
  cases hargs
  subst hres; subst hc
  exact fun σ B H ok Q c => h σ B H ok _ fun x v n1 Γ1 B1 H1 q1 e1 o1 r1 => by
    obtain ⟨a, dx, fs, h1, h2, h3⟩ := r1
    subst h1
    refine ⟨a, dx, fs, rfl, o1.ex _ _ h2, hno _ _ _ h3, q1 σ B1 H1 o1 _ fun y vs n2 Γ2 B2 H2 ⟨hp, q⟩ e2 o2 r2 => ?_⟩
    rw [List.append_nil]
    refine sub _ _ _ _ ⟨w.d, w.ca, w.cs, n2, B2, (x, y), o2.entry, ⟨.ref a, vs, rfl, ⟨a, dx, fs, rfl, e2 _ _ h2, mono e2 h3⟩, r2⟩, hp, .inl rfl, fun r v' n' B' H' hx hcc e' o' sl => ?_⟩
    obtain ⟨v2, g1, g2⟩ := sl
    cases g1
    rcases hcc with ⟨_, rfl⟩ | ⟨mm, rfl, rfl⟩
    · exact c r v' _ Γ2 B' H' (q r hx) ((e1.trans e2).trans e') (o2.back o') g2
    · exact c r v' _ Γ2 B' H' (q r hx) ((e1.trans e2).trans e') (o2.back o') g2
end
end TL

/-! # TL: families handed back, called for, walked, made longer -/
namespace TL
open PySem L2
open PySem.W (Frag)
section
variable {K : Frag} {w : Wd} {n : Option Nat} {Γ Γ' : Env} {α β γ δ ρ A : Type} {t : Ty α} {u : Ty β} {ta tb te : TE} {ts ts' : TS} {res : ρ → Ent} {nx bk ct : NK} {rt : ρ → Option Nat → Prop}
/-- one's own family is handed back -/
theorem ws_retMM {i : Nat} {as : List Addr} {xss : List (List α)} (x : ρ) (h : Γ[i]? = some (.mm t as xss)) (hx : res x = .mm t as xss) (q : rt x n) : WpS K w n Γ (tRet (tVar i)) res nx bk ct rt := fun σ B H ok D a b c d => by
  have s := ok.sl i _ h
  obtain ⟨l, h1, h2⟩ := s
  exact ⟨.ref l, h1, d x _ n B H q (Ex.refl _) ok.nil (by rw [hx]; exact ⟨l, rfl, h2⟩)⟩
/-- a call that gives a family of one's own -/
theorem wmm_callX {ι : Type} {S : ι → FS K} (i : ι) {E : XK} {ta : TA} {fa : (S i).ρ → List Addr} {fx : (S i).ρ → List (List α)} {k : List (List α) → NK} (hres : (S i).res = fun x => .mm t (fa x) (fx x)) (hc : (S i).cost = 0) (h : WpA K w n Γ ta (S i).args (fun a n Γ => (S i).pre a ∧ ∀ x, (S i).post a x → k (fx x) n Γ)) :
    WpMM K w n Γ (tCall (SpEx fun i => (S i).sp) [] E ta) t k := fun σ B H ok Q c =>
  h σ B H ok _ fun a vs n1 Γ1 B1 H1 ⟨hp, q⟩ e o r => by
    rw [List.append_nil]
    refine ⟨i, w.d, w.ca, w.cs, n1, B1, a, o.entry, r, hp, .inl hc, fun x v n' B' H' hx hcc e' o' s => ?_⟩
    rw [hres] at s
    obtain ⟨l, h1, h2, h3, h4, h5, kp⟩ := s
    cases h1
    have nw : ∀ a, H1 a = none → w.H0 a = none := fun a h4' => by
      cases q : w.H0 a with
      | none => rfl
      | some u =>
        have ne : a ≠ w.d := fun z => noS h4' (z ▸ o.hh)
        rw [o.kp a u q ne] at h4'; cases h4'
    have new : ∀ a ∈ l :: fa x, H1 a = none := fun a ha => by
      rcases List.mem_cons.mp ha with rfl | ha
      · exact h4
      · obtain ⟨_, _, _, z⟩ := pw_kid kp a ha
        exact z
    have en : n' = n1 := by
      rcases hcc with ⟨_, z⟩ | ⟨m, z1, z2⟩
      · exact z
      · rw [z2, z1, hc]; rfl
    subst en
    refine c (fx x) l (fa x) _ Γ1 B' H' (q x hx) (e.trans e') (o.back o') ⟨h2, h3, nw l h4, h5, pw_kids kp (Ex.refl _) fun a ha => ?_, fun a ha j e' he z => ?_⟩
    · obtain ⟨_, _, z1, z2⟩ := pw_kid kp a ha
      exact ⟨rfl, z1, nw a z2⟩
    · obtain ⟨ob, z1, _⟩ := (o.sl j _ he).owned z
      rw [new a ha] at z1; cases z1
/-- a new family, used as a datum -/
theorem we_ofMM {k : List (List α) → NK} (h : WpMM K w n Γ te t k) : WpE K w n Γ te (tL (tL t)) k := fun σ B H ok Q c =>
  h σ B H ok Q fun xss l as n1 Γ1 B1 H1 q e o ow => by
    let B2 : Hp := fun a => if a ∈ l :: as then H1 a else B1 a
    have nb : ∀ a ∈ l :: as, B1 a = none := fun a ha => by
      rcases List.mem_cons.mp ha with rfl | ha
      · exact ow.b
      · obtain ⟨_, _, z, _⟩ := pw_kid ow.kids a ha
        exact z
    have n0 : ∀ a ∈ l :: as, w.H0 a = none := fun a ha => by
      rcases List.mem_cons.mp ha with rfl | ha
      · exact ow.h0
      · obtain ⟨_, _, _, z⟩ := pw_kid ow.kids a ha
        exact z
    have at2 : ∀ a ∈ l :: as, B2 a = H1 a := fun a ha => if_pos ha
    have eb : Ex B1 B2 := fun a o q => by
      show (if a ∈ l :: as then H1 a else B1 a) = some o
      split
      · rename_i z
        rw [nb a z] at q; cases q
      · exact q
    have ok2 := o.frz (Γ' := Γ1) eb (fun a ob q => by
      have q : (if a ∈ l :: as then H1 a else B1 a) = some ob := q
      split at q
      · rename_i z
        exact .inr ⟨q, n0 a z⟩
      · exact .inl q) rfl fun j e' he => .inr ⟨he, fun a ha => by
        obtain ⟨_, _, z, _⟩ := (o.sl j e' he).owned ha
        show (if a ∈ l :: as then H1 a else B1 a) = none
        rw [if_neg fun m => ow.df a m j e' he ha]; exact z⟩
    refine c xss _ n1 Γ1 B2 H1 q (e.trans eb) ok2 ⟨l, as.map V.ref, rfl, by rw [at2 l List.mem_cons_self]; exact ow.ob, ?_⟩
    have gen : ∀ {as' : List Addr} {xss' : List (List α)}, (∀ a ∈ as', a ∈ l :: as) → Paired (Kid w B1 H1 t) as' xss' → Paired ((tL t).rep B2) (as'.map V.ref) xss' := fun {as' xss'} hm p => by
      induction p with
      | nil => exact .nil
      | @cons a xs as2 xss2 kd r ih =>
        obtain ⟨vs, g1, g2, _⟩ := kd
        exact .cons ⟨a, vs, rfl, by rw [at2 a (hm a (by simp))]; exact g1, pw_mono (fun _ _ => t.mono eb) g2⟩ (ih fun x hx => hm x (by simp [hx]))
    exact gen (fun a ha => List.mem_cons_of_mem _ ha) ow.kids
/-- out.append(low), both one's own: low becomes one of the family -/
theorem ws_appendM {i j : Nat} {as : List Addr} {xss : List (List α)} {ys : List α} (hi : Γ[i]? = some (.mm t as xss)) (hj : Γ[j]? = some (.ml t ys)) (hne : i ≠ j) (hl : xss.length < 100000)
    (h : ∀ a, SetE ((Γ.set j .no).set i (.mm t (as ++ [a]) (xss ++ [ys]))) (nx n)) : WpS K w n Γ (tDrop (tBM K "list" rAppend (tVar i) (tCons (tVar j) tNil))) res nx bk ct rt := fun σ B H ok D a' b c d => by
  obtain ⟨l, h1, h2, h3, h4, h5, kp⟩ := ok.sl i _ hi
  obtain ⟨a, o, g1, g2, g3, g4, vs, rfl, p⟩ := ok.sl j _ hj
  have il : i < Γ.length := (List.getElem?_eq_some_iff.mp hi).1
  have jl : j < Γ.length := (List.getElem?_eq_some_iff.mp hj).1
  have oi : ∀ x, x ∈ l :: as → (Ent.mm t as xss).owns σ[i]? x := fun x hx => by
    rcases List.mem_cons.mp hx with rfl | hx
    · exact .inl h1
    · exact .inr hx
  have oj : (Ent.ml t ys).owns σ[j]? a := g1
  have fresh : a ∉ l :: as := fun z => ok.ds i j _ _ a hne hi hj (oi a z) oj
  have nd : (l :: (as ++ [a])).Nodup := by
    have n1 := List.nodup_cons.mp h5
    refine List.nodup_cons.mpr ⟨fun z => ?_, List.nodup_append.mpr ⟨n1.2, by simp, fun x hx y hy => ?_⟩⟩
    · rcases List.mem_append.mp z with z | z
      · exact n1.1 z
      · exact fresh (by rw [List.mem_singleton.mp z]; simp)
    · rw [List.mem_singleton.mp hy]
      exact fun e => fresh (by rw [← e]; simp [hx])
  have got : ∀ (x : Nat) e, ((Γ.set j .no).set i .no)[x]? = some e → e = .no ∨ (x ≠ i ∧ x ≠ j ∧ Γ[x]? = some e) := fun x e hx => by
    rw [List.getElem?_set] at hx
    by_cases z : i = x
    · rw [if_pos z] at hx
      split at hx
      · cases hx; exact .inl rfl
      · cases hx
    · rw [if_neg z, List.getElem?_set] at hx
      by_cases y : j = x
      · rw [if_pos y, if_pos jl] at hx
        cases hx; exact .inl rfl
      · rw [if_neg y] at hx
        exact .inr ⟨fun q => z q.symm, fun q => y q.symm, hx⟩
  have k1 : Ok K w n ((Γ.set j .no).set i .no) σ B (upd H l (.lst ((as ++ [a]).map V.ref))) := by
    refine ok.chg h3 h4 (by simp) (fun x e he => ?_) (fun x e hx => ?_)
    · rcases got x e he with rfl | ⟨xi, xj, hg⟩
      · exact .inl trivial
      · exact .inr ⟨hg, ok.ds i x _ _ l (fun q => xi q.symm) hi hg (oi l (by simp))⟩
    · rcases got x e hx with rfl | ⟨xi, xj, hg⟩
      · exact .inl fun _ z => z
      · exact .inr ⟨e, hg, fun _ z => z⟩
  have la : l ≠ a := fun q => fresh (by rw [← q]; simp)
  have kids : Paired (Kid w B (upd H l (.lst ((as ++ [a]).map V.ref))) t) (as ++ [a]) (xss ++ [ys]) := by
    refine pw_snoc (pw_kids kp (Ex.refl _) fun x hx => ?_) ⟨vs, by rw [upd_ne (Ne.symm la)]; exact g2, p, g3, g4⟩
    obtain ⟨_, _, z1, z2⟩ := pw_kid kp x hx
    have xl : x ≠ l := fun q => (List.nodup_cons.mp h5).1 (q ▸ hx)
    exact ⟨by rw [upd_ne xl], z1, z2⟩
  have k2 := k1.setO (i := i) (e0 := .mm t (as ++ [a]) (xss ++ [ys])) (v := .ref l) ⟨l, rfl, upd_same, h3, h4, nd, kids⟩ fun x hx y e he z => by
    rcases got y e he with rfl | ⟨yi, yj, hg⟩
    · exact z
    · have : x = l ∨ x ∈ as ∨ x = a := by
        rcases hx with hx | hx
        · have : some (some (V.ref l)) = some (some (V.ref x)) := hx
          cases this; exact .inl rfl
        · rcases List.mem_append.mp hx with q | q
          · exact .inr (.inl q)
          · exact .inr (.inr (List.mem_singleton.mp q))
      rcases this with rfl | q | rfl
      · exact ok.ds i y _ _ x (fun q => yi q.symm) hi hg (oi x (by simp)) z
      · exact ok.ds i y _ _ x (fun q => yi q.symm) hi hg (oi x (by simp [q])) z
      · exact ok.ds j y _ _ x (fun q => yj q.symm) hj hg oj z
  rw [List.set_set, slot_same h1] at k2
  refine ⟨.ref l, h1, .inl ⟨rfl, _, .inl (.inl h2)⟩, .ref a, g1, l, _, .ref a, rfl, rfl, h2, by rw [List.length_map, pw_len kp]; exact szl hl, a' n _ _ B _ (h a) (Ex.refl _) ?_⟩
  rw [List.map_append] at k2
  exact k2
/-- for row in fam: row.append(c) -/
theorem ws_forApp {i j : Nat} {as : List Addr} {xss : List (List Int)} {c : Int} (hi : Γ[i]? = some (.mm tI as xss)) (hne : i ≠ j) (hj : j < Γ.length) (hl : ∀ xs ∈ xss, xs.length < 100000)
    (h : nx n ((Γ.set i (.mm tI as (xss.map fun xs => xs ++ [c]))).set j .no)) : WpS K w n Γ (tFor (iSeq K (tVar i)) (gName j) (tDrop (tBM K "list" rAppend (tVar j) (tCons (tC (.int c)) tNil)))) res nx bk ct rt := fun σ B H ok D a b c' d => by
  obtain ⟨l, h1, h2, _, _, _, kp0⟩ := ok.sl i _ hi
  have il : i < Γ.length := (List.getElem?_eq_some_iff.mp hi).1
  have hlen := pw_len kp0
  refine .inl ⟨.ref l, h1, l, rfl, ⟨_, .inl (.inl h2)⟩, ?_⟩
  refine ⟨fun m mm σ' H' => mm + m = as.length ∧ Ok K w n ((Γ.set i (.mm tI as ((xss.take m).map (fun xs => xs ++ [c]) ++ xss.drop m))).set j .no) σ' B H' ∧ σ'[i]? = some (some (.ref l)), ⟨as.length, rfl, ?_, h1⟩, ?_⟩
  · rw [List.take_zero, List.drop_zero, List.map_nil, List.nil_append]
    have e : Γ.set i (.mm tI as xss) = Γ := by
      apply List.ext_getElem?
      intro x
      rw [List.getElem?_set]
      split
      · rename_i z; subst z
        exact hi.symm
      · rfl
    rw [e]; exact ok.drop
  rintro m mm σ1 H1 ⟨hm, o1, hl1⟩
  have gi : ((Γ.set i (.mm tI as ((xss.take m).map (fun xs => xs ++ [c]) ++ xss.drop m))).set j .no)[i]? = some (.mm tI as ((xss.take m).map (fun xs => xs ++ [c]) ++ xss.drop m)) := by
    rw [List.getElem?_set, if_neg (Ne.symm hne), List.getElem?_set, if_pos rfl, if_pos il]
  obtain ⟨l', k1, k2, _, _, _, kp⟩ := o1.sl i _ gi
  rw [hl1] at k1; cases k1
  by_cases z : m < as.length
  · have ha : as[m]? = some as[m] := List.getElem?_eq_getElem z
    have hv : (as.map V.ref)[m]? = some (.ref as[m]) := by rw [List.getElem?_map, ha]; rfl
    have hxm : m < xss.length := by omega
    obtain ⟨xs, hx⟩ : ∃ xs, xss[m]? = some xs := ⟨_, List.getElem?_eq_getElem hxm⟩
    have hxm2 : ((xss.take m).map (fun xs => xs ++ [c]) ++ xss.drop m)[m]? = some xs := by
      rw [List.getElem?_append_right (by simp; omega)]
      simp only [List.length_map, List.length_take, List.getElem?_drop]
      rw [show m + (m - min m xss.length) = m by omega]; exact hx
    refine .inr ⟨⟨_, _, .inl (.inl k2), hv⟩, fun σ' H' => Ok K w n ((Γ.set i (.mm tI as ((xss.take (m + 1)).map (fun xs => xs ++ [c]) ++ xss.drop (m + 1)))).set j .no) σ' B H' ∧ σ'[i]? = some (some (.ref l)), ?_, ?_⟩
    · rintro σ' H' ⟨q1, q2⟩
      exact ⟨mm - 1, by omega, by omega, q1, q2⟩
    · rintro v H' ⟨rfl, hy⟩
      have := hy _ (.inl (.inl k2))
      rw [hv] at this; cases this
      have jl1 : j < σ1.length := by rw [← o1.ln]; simpa using hj
      have oa := o1.setAl (i := j) (a := as[m])
      obtain ⟨a2, g1, vs, g2, g3, _⟩ := pw_getR kp hxm2
      rw [ha] at g1; cases g1
      have ga : (((Γ.set i (.mm tI as ((xss.take m).map (fun xs => xs ++ [c]) ++ xss.drop m))).set j .no).set j (.al as[m]))[i]? = some (.mm tI as ((xss.take m).map (fun xs => xs ++ [c]) ++ xss.drop m)) := by
        rw [List.getElem?_set, if_neg (Ne.symm hne)]; exact gi
      have hs : (σ1.set j (some (.ref as[m])))[j]? = some (some (.ref as[m])) := by rw [List.getElem?_set, if_pos rfl, if_pos jl1]
      refine ⟨.ref as[m], hs, .inl ⟨rfl, vs, .inl (.inl g2)⟩, as[m], vs, .int c, rfl, rfl, g2, by rw [pw_len g3]; exact szl (hl xs (List.mem_of_getElem? hx)), ?_⟩
      have ok2 := oa.kid ga ha (pw_snoc g3 (show tI.rep B (.int c) c from rfl))
      refine ⟨?_, by rw [List.getElem?_set, if_neg (Ne.symm hne)]; exact hl1⟩
      have ok3 := ok2.drop (i := j)
      have e1 : ((((Γ.set i (.mm tI as ((xss.take m).map (fun xs => xs ++ [c]) ++ xss.drop m))).set j .no).set j (.al as[m])).set i (.mm tI as (((xss.take m).map (fun xs => xs ++ [c]) ++ xss.drop m).set m (xs ++ [c])))).set j .no = (Γ.set i (.mm tI as ((xss.take (m + 1)).map (fun xs => xs ++ [c]) ++ xss.drop (m + 1)))).set j .no := by
        rw [List.set_set, List.set_comm _ _ (Ne.symm hne), List.set_set, List.set_set]
        congr 3
        rw [List.set_append_right _ _ (by simp; omega), List.take_add_one, hx]
        have e2 : m - ((xss.take m).map fun xs => xs ++ [c]).length = 0 := by simp; omega
        rw [e2, List.drop_eq_getElem_cons hxm, List.set_cons_zero]
        simp
      rw [e1] at ok3
      exact ok3
  · have e : m = as.length := by omega
    subst e
    refine .inl ⟨⟨_, .inl (.inl k2), by simp⟩, a n _ σ1 B _ h (Ex.refl _) ?_⟩
    rw [hlen, List.take_length, List.drop_length, List.append_nil] at o1
    exact o1
/-- // by any divisor below 2 ^ 9000 -/
def CDivF (_ j : Int) : Prop := j ≠ 0 ∧ j.natAbs.log2 < 9000
open PySem.Spec PyProof.Rows in
theorem op_divF {X : Cx} : OpR X (binaryOp .FloorDiv) (rI CDivF fun i j => .int (i.fdiv j)) := opI fun i j _ _ _ _ _ hc q => floordiv_int hc.1 q (.inl (PyProof.noPylong_of_log2 hc.2))
theorem we_divF {k : Int → NK} (h : WpE K w n Γ ta tI (fun a n Γ => WpE K w n Γ tb tI (fun b n Γ => CDivF a b ∧ k (a.fdiv b) n Γ))) : WpE K w n Γ (tOp (rI CDivF fun i j => .int (i.fdiv j)) ta tb) tI k :=
  we_op2 (s := tI) (fun (a b : Int) => a.fdiv b) CDivF (fun B x y a b H Q h1 h2 e hc q => ⟨a, b, h1, h2, hc, q (.int (a.fdiv b)) rfl⟩) h
theorem divF {a b : Int} (h : b ≠ 0) (h2 : b.natAbs ≤ 2 ^ 8999) : CDivF a b := ⟨h, PySem.Flt.log2_lt_of (by decide) (Nat.lt_of_le_of_lt h2 (Nat.pow_lt_pow_right (by decide) (by decide)))⟩
/-- [] as a family of one's own -/
theorem wmm_nil {k : List (List α) → NK} (h : k [] n Γ) : WpMM K w n Γ (tLst tNil) t k := fun σ B H ok Q c => by
  refine ⟨Nat.zero_le _, fun l hl => ?_⟩
  have g : Grow B H B (upd H l (.lst [])) := Grow.open ok.ex hl
  refine c [] l [] n Γ B _ h (Ex.refl _) (ok.grow g) ⟨upd_same, ok.ex.none hl, ?_, by simp, .nil, fun a ha i e he z => ?_⟩
  · cases q : w.H0 l with
    | none => rfl
    | some u =>
      have ne : l ≠ w.d := fun z => noS hl (z ▸ ok.hh)
      rw [ok.kp l u q ne] at hl; cases hl
  · rw [List.mem_singleton.mp ha] at z
    obtain ⟨ob, h1, _⟩ := (ok.sl i _ he).owned z
    rw [hl] at h1; cases h1
/-- a family is made while things of one's own are lent -/
theorem wmm_lendV {k : List (List α) → NK} (v : View K w n Γ n Γ') (hf : Flat t) (h : ∀ w' : Wd, SetE (hideE Γ' []) fun Γ2 => WpMM K w' n Γ2 te t (fun xss n' _ => n' = n ∧ k xss n Γ)) : WpMM K w n Γ te t k := fun σ B H ok Q c => by
  obtain ⟨B1, e1, o1⟩ := Ok.lendV v ok
  refine h _ σ B1 H o1 Q fun xss l as n' Γ2 B2 H2 ⟨hn, q⟩ e2 o2 ow => ?_
  subst hn
  have o3 := ok.unlend e1 o2.nil
  have hN : ∀ a ∈ l :: as, H a = none := fun a ha => by
    rcases List.mem_cons.mp ha with rfl | ha
    · exact ow.h0
    · obtain ⟨_, _, _, z⟩ := pw_kid ow.kids a ha
      exact z
  have kids : Paired (Kid w B H2 t) as xss := by
    have gen : ∀ {as' : List Addr} {xss' : List (List α)}, (∀ a ∈ as', a ∈ l :: as) → Paired (Kid ⟨w.d, w.ca, w.cs, B1, H⟩ B2 H2 t) as' xss' → Paired (Kid w B H2 t) as' xss' := fun {as' xss'} hm p => by
      induction p with
      | nil => exact .nil
      | @cons a xs as2 xss2 kd r ih =>
        obtain ⟨vs, g1, g2, g3, g4⟩ := kd
        exact .cons ⟨vs, g1, pw_mono (fun _ _ => hf _ _ _ _) g2, ok.ex.none (hN a (hm a (by simp))), new_h0 ok (hN a (hm a (by simp)))⟩ (ih fun x hx => hm x (by simp [hx]))
    exact gen (fun a ha => List.mem_cons_of_mem _ ha) ow.kids
  refine c xss l as _ Γ B H2 q (Ex.refl _) o3 ⟨ow.ob, ok.ex.none (hN l (by simp)), new_h0 ok (hN l (by simp)), ow.nd, kids, fun a ha i e he z => ?_⟩
  obtain ⟨ob, h1, _⟩ := (ok.sl i _ he).owned z
  rw [hN a ha] at h1; cases h1
/-- [own lists for .. if ..]: a family of one's own -/
theorem wm_lcMF {wi : TI} {g : TG} {tt : TT} {vs : List Nat} {kk : List (List β) → NK} (u : Ty β) (I : List α → Nat → List (List β) → Option Nat → Prop) (hg : GSl g vs)
    (h : WpI K w n Γ wi t (fun xs n Γ => For3 (I xs 0 [] n) (∀ (w' : Wd) (i : Nat) x yss n, w'.d = w.d → w'.ca = w.ca → w'.cs = w.cs → xs[i]? = some x → I xs i yss n →
      SetE (hideE Γ vs) fun Γh => WpG K w' n Γh g t x (fun n Γ => WpT K w' n Γ tt (fun n Γ => WpM K w' n Γ te (fun r n _ => ∃ ys, r = rL u ys ∧ yss.length < 100000 ∧ I xs (i + 1) (yss ++ [ys]) n)) (fun n _ => I xs (i + 1) yss n)))
      (∀ yss n, I xs xs.length yss n → kk yss n Γ))) : WpMM K w n Γ (tLc wi g tt te vs) u kk := fun σ B H ok Q c =>
  h σ B H ok _ fun xs J n0 Γ0 B0 H0 ⟨hu, hs, he⟩ e0 o0 it => by
    intro D hD
    have ownD := Own.new (r := rL u []) (o := .lst []) o0 hD ⟨[], rfl, .nil⟩
    refine ⟨fun i m H => m + i = xs.length ∧ ∃ yss n B1 as, I xs i yss n ∧ Ex B0 B1 ∧ Ok K w n Γ0 σ B1 H ∧ OwnF w Γ0 σ B1 H u D as yss, ?_, ?_⟩
    · refine ⟨xs.length, rfl, [], n0, B0, [], hu, Ex.refl _, o0.grow (Grow.open o0.ex hD), ⟨upd_same, ownD.b, ownD.h0, by simp, .nil, fun a ha i e hi z => ?_⟩⟩
      rw [List.mem_singleton.mp ha] at z
      exact ownD.df i e hi z
    · rintro i m H1 ⟨hm, yss, n1, B1, as, hI, e1, o1, ow⟩
      by_cases hi : i < xs.length
      · refine .inr ⟨it.go i H1 (e1.trans o1.ex) hi, fun H' => ∃ yss n B1 as, I xs (i + 1) yss n ∧ Ex B0 B1 ∧ Ok K w n Γ0 σ B1 H' ∧ OwnF w Γ0 σ B1 H' u D as yss, ?_, ?_⟩
        · rintro H' hN
          exact ⟨m - 1, by omega, by omega, hN⟩
        · intro v H' hy
          obtain ⟨B2, gr, rp⟩ := it.yld i _ H1 B1 v H' (List.getElem?_eq_getElem hi) e1 o1.ex hy
          have o2 := o1.grow gr
          have kid1 := pw_kid ow.kids
          have all1 : ∀ a ∈ D :: as, ∃ o, H1 a = some o ∧ B1 a = none ∧ w.H0 a = none := fun a ha => by
            rcases List.mem_cons.mp ha with rfl | ha
            · exact ⟨_, ow.ob, ow.b, ow.h0⟩
            · obtain ⟨us, q1, q2, q3⟩ := kid1 a ha
              exact ⟨_, q1, q2, q3⟩
          have all2 : ∀ a ∈ D :: as, ∃ o, H' a = some o ∧ B2 a = none ∧ w.H0 a = none ∧ H1 a = some o := fun a ha => by
            obtain ⟨o, q1, q2, q3⟩ := all1 a ha
            exact ⟨o, gr.h _ _ q1, gr.none q2 q1, q3, q1⟩
          have ned : ∀ a ∈ D :: as, a ≠ w.d := fun a ha z => by
            obtain ⟨_, _, _, q3, _⟩ := all2 a ha
            exact noS q3 (z ▸ o1.hd)
          have key := hs ⟨w.d, w.ca, w.cs, B2, H'⟩ i _ yss n1 rfl rfl rfl (List.getElem?_eq_getElem hi) hI (wipe σ vs) B2 H' (o2.inner vs) v rp _ fun n3 Γ3 σ3 B3 H3 q3 e3 o3 => q3 σ3 B3 H3 o3 (fun (b : Bool) H3 => if b = true then te σ3 H3 (fun y H4 => ∃ acc, H4 D = some (.lst acc) ∧ acc.length < sizeLine ∧ ∃ yss n B1 as, I xs (i + 1) yss n ∧ Ex B0 B1 ∧ Ok K w n Γ0 σ B1 (upd H4 D (.lst (acc ++ [y]))) ∧ OwnF w Γ0 σ B1 (upd H4 D (.lst (acc ++ [y]))) u D as yss) else ∃ yss n B1 as, I xs (i + 1) yss n ∧ Ex B0 B1 ∧ Ok K w n Γ0 σ B1 H3 ∧ OwnF w Γ0 σ B1 H3 u D as yss)
            (fun n4 Γ4 B4 H4 q4 e4 o4 => by
            show if true = true then _ else _
            rw [if_pos rfl]
            refine q4 σ3 B4 H4 o4 _ fun r l n5 Γ5 B5 H5 ⟨ys, hr, hz, hI5⟩ e5 o5 own5 => ?_
            subst hr
            have c5 := o5.nil
            have ok5 : Ok K w n5 Γ0 σ B5 H5 := o2.back c5
            have ex25 : Ex B2 B5 := (e3.trans e4).trans e5
            have all5 : ∀ a ∈ D :: as, H5 a = H1 a ∧ B5 a = none ∧ w.H0 a = none := fun a ha => by
              obtain ⟨o, q1, q2, q3, q4⟩ := all2 a ha
              refine ⟨by rw [q4]; exact c5.kp a o q1 (ned a ha), ?_, q3⟩
              cases q : B5 a with
              | none => rfl
              | some z =>
                rcases c5.nw a z q with r | r
                · have r' : B2 a = some z := r
                  rw [q2] at r'; cases r'
                · have r' : H' a = none := r
                  rw [q1] at r'; cases r'
            obtain ⟨⟨ob, p1, us, rfl, pu⟩, p2, p3, p4⟩ := own5
            have p3' : H' l = none := p3
            have nl : l ∉ D :: as := fun q => by
              obtain ⟨_, q1, _⟩ := all2 l q
              rw [p3'] at q1; cases q1
            have l0 : w.H0 l = none := by
              cases q : w.H0 l with
              | none => rfl
              | some z =>
                have ne : l ≠ w.d := fun zz => noS p3' (zz ▸ o2.hh)
                rw [o2.kp l z q ne] at p3'; cases p3'
            have hD5 := all5 D List.mem_cons_self
            have lD : l ≠ D := fun q => nl (q ▸ List.mem_cons_self)
            refine ⟨as.map V.ref, by rw [hD5.1]; exact ow.ob, by rw [List.length_map, pw_len ow.kids]; exact szl hz, yss ++ [ys], n5, B5, as ++ [l], hI5, (e1.trans gr.b).trans ex25, ?_, ?_⟩
            · exact ok5.chg hD5.2.1 hD5.2.2 rfl (fun j e q => .inr ⟨q, ow.df D List.mem_cons_self j e q⟩) (fun x e q => .inr ⟨e, q, fun a ha => ha⟩)
            · refine ⟨by rw [upd_same, List.map_append]; rfl, hD5.2.1, hD5.2.2, ?_, ?_, ?_⟩
              · have nd := ow.nd
                rw [← List.cons_append, List.nodup_append]
                exact ⟨nd, by simp, fun a ha b hb z => nl (by rw [List.mem_singleton.mp hb] at z; rw [← z]; exact ha)⟩
              · refine pw_snoc (pw_kids ow.kids ((gr.b).trans ex25) fun a ha => ?_) ⟨us, by rw [upd_ne lD]; exact p1, pu, p2, l0⟩
                obtain ⟨q1, q2, q3⟩ := all5 a (List.mem_cons_of_mem _ ha)
                have aD : a ≠ D := fun q => (List.nodup_cons.mp ow.nd).1 (by rw [← q]; exact ha)
                exact ⟨by rw [upd_ne aD]; exact q1, q2, q3⟩
              · intro a ha j e hj z
                rw [← List.cons_append] at ha
                rcases List.mem_append.mp ha with q | q
                · exact ow.df a q j e hj z
                · rw [List.mem_singleton.mp q] at z
                  obtain ⟨o', q1, _⟩ := (o2.sl j e hj).owned z
                  rw [p3'] at q1; cases q1)
            fun n4 Γ4 B4 H4 q4 e4 o4 => by
            show if false = true then _ else _
            rw [if_neg Bool.false_ne_true]
            have c4 := o4.nil
            have ex24 : Ex B2 B4 := e3.trans e4
            have all4 : ∀ a ∈ D :: as, H4 a = H1 a ∧ B4 a = none ∧ w.H0 a = none := fun a ha => by
              obtain ⟨o, q1, q2, q3, q4⟩ := all2 a ha
              refine ⟨by rw [q4]; exact c4.kp a o q1 (ned a ha), ?_, q3⟩
              cases q : B4 a with
              | none => rfl
              | some z =>
                rcases c4.nw a z q with r | r
                · have r' : B2 a = some z := r
                  rw [q2] at r'; cases r'
                · have r' : H' a = none := r
                  rw [q1] at r'; cases r'
            have hD4 := all4 D List.mem_cons_self
            exact ⟨yss, n4, B4, as, q4, (e1.trans gr.b).trans ex24, o2.back c4, by rw [hD4.1]; exact ow.ob, hD4.2.1, hD4.2.2, ow.nd, pw_kids ow.kids ((gr.b).trans ex24) fun a ha => all4 a (List.mem_cons_of_mem _ ha), ow.df⟩
          have key2 := hg v (wipe σ vs) H' _ key
          have ww : wipe (wipe σ vs) vs = wipe σ vs := by
            have gen : ∀ (us : List Nat) (τ : L2.St), (∀ i ∈ us, ∀ x, τ[i]? = some x → x = none) → wipe τ us = τ := fun us => by
              induction us with
              | nil => intro τ _; rfl
              | cons a us ih =>
                intro τ hτ
                unfold wipe
                rw [ih τ fun i hi => hτ i (by simp [hi])]
                apply List.ext_getElem?
                intro j
                rw [List.getElem?_set]
                split
                · rename_i z; subst z
                  split
                  · rename_i z
                    have := hτ a (by simp) τ[a] (List.getElem?_eq_getElem z)
                    rw [List.getElem?_eq_getElem z, this]
                  · rename_i z; exact (List.getElem?_eq_none_iff.mpr (by omega)).symm
                · rfl
            refine gen vs _ fun i hi x hx => ?_
            cases x with
            | none => rfl
            | some y => exact absurd hi (wipe_some hx).2
          rw [ww] at key2
          exact key2
      · have hi2 : i = xs.length := by omega
        subst hi2
        exact .inl ⟨it.stop H1 (e1.trans o1.ex), c _ D as n1 Γ0 B1 H1 (he yss n1 hI) (e0.trans e1) o1 ow⟩
/-- int(b) -/
theorem we_intB {k : Int → NK} (h : WpE K w n Γ te tBo (fun b n Γ => k (if b then 1 else 0) n Γ)) : WpE K w n Γ (tCB rIntU (tCons te tNil)) tI k := fun σ B H ok Q c =>
  h σ B H ok _ fun b v n' Γ' B' H' q e o r => .inr ⟨b, by cases r; rfl, c _ _ n' Γ' B' H' q e o rfl⟩
def rInsert : V → List V → Hp → VK → Prop := fun x vs H Q => ∃ (l : Addr) (xs : List V) (i : Int) (y : V), x = .ref l ∧ vs = [.int i, y] ∧ H l = some (.lst xs) ∧ xs.length < sizeLine ∧ 0 ≤ i ∧ i < 2 ^ 63 ∧
    Q .non (upd H l (.lst (xs.take i.toNat ++ [y] ++ xs.drop i.toNat)))
theorem mt_insertR {X : Cx} : MtR X "list.insert" rInsert := mt_insert
/-- xs.insert(j, e) -/
theorem ws_insert {i : Nat} {xs : List α} {ti : TE} (hi : Γ[i]? = some (.ml t xs)) (h : WpE K w n Γ ti tI (fun j n Γ => WpE K w n Γ te t (fun x n' Γ' => Γ'[i]? = some (.ml t xs) ∧ xs.length < 100000 ∧ (0 ≤ j ∧ j < 2 ^ 63) ∧ SetE (Γ'.set i (.ml t (xs.take j.toNat ++ [x] ++ xs.drop j.toNat))) (nx n')))) :
    WpS K w n Γ (tDrop (tBM K "list" rInsert (tVar i) (tCons ti (tCons te tNil)))) res nx bk ct rt := fun σ B H ok D a b c d => by
  obtain ⟨l, o, h1, h2, h3, h4, vs, rfl, p⟩ := ok.sl i _ hi
  refine ⟨.ref l, h1, .inl ⟨rfl, vs, .inl (.inl h2)⟩, h σ B H ok _ fun j jv n1 Γ1 B1 H1 h' e1 o1 r1 => h' σ B1 H1 o1 _ fun x v n' Γ' B' H' ⟨g, hz, hj, q⟩ e o r => ?_⟩
  obtain ⟨l', o', k1, k2, k3, k4, vs', rfl, p'⟩ := o.sl i _ g
  rw [h1] at k1; cases k1
  cases r1
  exact ⟨l, vs', j, v, rfl, rfl, k2, by rw [pw_len p']; exact szl hz, hj.1, hj.2, a n' _ _ B' _ q (e1.trans e) (o.put (r' := rL t (xs.take j.toNat ++ [x] ++ xs.drop j.toNat)) g h1 ⟨_, rfl, pw_app (pw_snoc (pw_take _ p') r) (pw_drop _ p')⟩)⟩
/-- xs[::-1] -/
theorem wm_rev {k : Rs → NK} (h : WpE K w n Γ te (tL t) (fun xs n Γ => k (rL t xs.reverse) n Γ)) : WpM K w n Γ (tRevL K te) k := fun σ B H ok Q c =>
  h σ B H ok _ fun xs v n1 Γ1 B1 H1 q e o ⟨a, vs, hv, hs, p⟩ => ⟨a, vs, hv, SqL.of (o.ex _ _ hs), fun l hl => c _ l n1 Γ1 B1 _ q e (o.grow (Grow.open o.ex hl)) (Own.new o hl ⟨_, rfl, pw_rev p⟩)⟩
end
end TL

/-! # TL: instances: while they are made, and as they stay; dicts with texts as keys; what is one's own lent out to calls that give data -/
namespace TL
open PySem L2
open PySem.W (Frag)
/-- a datum with its kind -/
structure Dt : Type 1 where
  {α : Type}
  t : Ty α
  x : α
abbrev Flds := List (Str × Dt)
/-- what the names lead to -/
def FRep (B : Hp) (lk : Str → Option V) (fl : Flds) : Prop := ∀ f, (fl.lookup f = none → lk f = none) ∧ ∀ e, fl.lookup f = some e → ∃ v, lk f = some v ∧ e.t.rep B v e.x
theorem FRep.mono {B B' : Hp} {lk : Str → Option V} {fl : Flds} (e : Ex B B') (h : FRep B lk fl) : FRep B' lk fl := fun f => ⟨(h f).1, fun d hd => by
  obtain ⟨v, h1, h2⟩ := (h f).2 d hd
  exact ⟨v, h1, d.t.mono e h2⟩⟩
theorem FRep.nil {B : Hp} {lk : Str → Option V} (h : ∀ f, lk f = none) : FRep B lk [] := fun f => ⟨fun _ => h f, fun e he => by cases he⟩
theorem FRep.cons {B : Hp} {lk lk' : Str → Option V} {fl : Flds} {f : Str} {e : Dt} {v : V} (h : FRep B lk fl) (r : e.t.rep B v e.x) (hl : ∀ g, lk' g = if g = f then some v else lk g) : FRep B lk' ((f, e) :: fl) := fun g => by
  rw [hl g]
  by_cases z : g = f
  · have hb : (g == f) = true := beq_iff_eq.mpr z
    rw [if_pos z]
    simp only [List.lookup, hb]
    exact ⟨(fun q => by cases q), (fun d hd => by cases hd; exact ⟨v, rfl, r⟩)⟩
  · have hb : (g == f) = false := beq_eq_false_iff_ne.mpr z
    rw [if_neg z]
    simp only [List.lookup, hb]
    exact h g
/-- the same names lead to the same -/
def FSame (fl fl' : Flds) : Prop := ∀ f, fl.lookup f = fl'.lookup f
theorem FRep.same {B : Hp} {lk : Str → Option V} {fl fl' : Flds} (h : FRep B lk fl) (s : FSame fl fl') : FRep B lk fl' := fun f => by rw [← s f]; exact h f
/-- an instance of C at p, while it is made -/
def rI (C p : Addr) (fl : Flds) : Rs := ⟨fun l B o => l = p ∧ ∃ dx fs, o = .ins C dx fs ∧ fs.length ≤ fl.length ∧ FRep B (fun f => fs.lookup f) fl, fun e ⟨h1, dx, fs, h2, h3, h4⟩ => ⟨h1, dx, fs, h2, h3, h4.mono e⟩⟩
/-- a dict with texts as keys, which one may still change -/
def rS (fl : Flds) : Rs := ⟨fun l B o => ∃ kvs : List (Key × V), o = .dK kvs ∧ kvs.length ≤ fl.length ∧ FRep B (fun f => valV kvs (.inr f)) fl, fun e ⟨kvs, h2, h3, h4⟩ => ⟨kvs, h2, h3, h4.mono e⟩⟩
section
variable {α : Type}
theorem obj_mono {flds : α → Flds} {B B' : Hp} {fs : List (Str × V)} {x : α} (e : Ex B B') (h : FRep B (fun f => fs.lookup f) (flds x)) : FRep B' (fun f => fs.lookup f) (flds x) := h.mono e
/-- an instance that nobody changes any more -/
def tObj (C : Addr) (flds : α → Flds) : Ty α := tIns C (fun B fs x => FRep B (fun f => fs.lookup f) (flds x)) fun e h => obj_mono e h
/-- a dict with texts as keys that nobody changes any more -/
def tSD (flds : α → Flds) : Ty α := ⟨fun B v x => ∃ a kvs, v = .ref a ∧ B a = some (.dK kvs) ∧ FRep B (fun f => valV kvs (.inr f)) (flds x), fun e ⟨a, kvs, h1, h2, h3⟩ => ⟨a, kvs, h1, e _ _ h2, h3.mono e⟩⟩
end
section
variable {K : Frag} {w : Wd} {n : Option Nat} {Γ Γ' : Env} {α β γ δ ρ A : Type} {t : Ty α} {u : Ty β} {ta tb te : TE} {ts ts' : TS} {res : ρ → Ent} {nx bk ct : NK} {rt : ρ → Option Nat → Prop}
/-! ### reading -/
/-- x.f -/
theorem we_fldF {C : Addr} {flds : α → Flds} {f : Str} {k : β → NK} (cl : Cls K C) (na : NoAttr K C f) (y : α → β) (hl : ∀ x, (flds x).lookup f = some ⟨u, y x⟩) (h : WpE K w n Γ ta (tObj C flds) (fun x n Γ => k (y x) n Γ)) : WpE K w n Γ (tFld K ta f) u k :=
  we_fld (F := fun B fs x => FRep B (fun f => fs.lookup f) (flds x)) (mono := fun e h => obj_mono e h) (g := y) cl na (fun B fs x hF => (hF f).2 _ (hl x)) h
/-- self.f, self being made -/
theorem we_fldO {C p : Addr} {fl : Flds} {f : Str} {i : Nat} {y : β} {k : β → NK} (cl : Cls K C) (na : NoAttr K C f) (hi : Γ[i]? = some (.mu (rI C p fl))) (hl : fl.lookup f = some ⟨u, y⟩) (q : k y n Γ) : WpE K w n Γ (tFld K (tVar i) f) u k := fun σ B H ok Q c => by
  obtain ⟨l, o, h1, h2, h3, h4, rfl, dx, fs, rfl, h5, h6⟩ := ok.sl i _ hi
  obtain ⟨v, g1, g2⟩ := (h6 f).2 _ hl
  exact ⟨.ref l, h1, l, C, dx, fs, v, rfl, h2, cl, na, g1, c y v n Γ B H q (Ex.refl _) ok g2⟩
/-- self.f = e, self being made -/
theorem ws_fldO {C p : Addr} {f : Str} {i : Nat} (cl : Cls K C) (na : NoAttr K C f) (h : WpE K w n Γ te t (fun x n' Γ' => ∃ fl, Γ'[i]? = some (.mu (rI C p fl)) ∧ fl.length < 1000 ∧ SetE (Γ'.set i (.mu (rI C p ((f, ⟨t, x⟩) :: fl)))) (nx n'))) :
    WpS K w n Γ (sFld K (tVar i) te f) res nx bk ct rt := fun σ B H ok D a b c d =>
  h σ B H ok _ fun x v n' Γ' B' H' ⟨fl, hi, hz, q⟩ e o r => by
    obtain ⟨l, ob, h1, h2, h3, h4, rfl, dx, fs, rfl, h5, h6⟩ := o.sl i _ hi
    refine ⟨.ref l, h1, l, C, dx, fs, rfl, h2, cl, na, by omega, a n' _ _ B' _ q e (o.put (r' := rI C l ((f, ⟨t, x⟩) :: fl)) hi h1 ⟨rfl, dx, putF f v fs, rfl, ?_, h6.cons r fun g => lookup_putF f g v fs⟩)⟩
    have := length_putF f v fs
    simp only [List.length_cons]; omega
/-! ### made -/
def del (H : Hp) (p : Addr) : Hp := fun a => if a = p then none else H a
theorem del_same {H : Hp} {p : Addr} : del H p p = none := by unfold del; rw [if_pos rfl]
theorem del_ne {H : Hp} {p a : Addr} (h : a ≠ p) : del H p a = H a := by unfold del; rw [if_neg h]
theorem del_some {H : Hp} {p a : Addr} {o : HO} (h : del H p a = some o) : a ≠ p ∧ H a = some o := by
  by_cases z : a = p
  · subst z; rw [del_same] at h; cases h
  · rw [del_ne z] at h; exact ⟨z, h⟩
/-- what an __init__ promises -/
structure IS (K : Frag) where
  C : Addr
  A : Type
  args : TyA A
  ρ : Type
  flds : ρ → Flds
  cost : Nat
  pre : A → Prop
  post : A → ρ → Prop
def IS.sp (S : IS K) : Sp := fun vs H Q _ => ∃ (d ca : Addr) (cs : List Int) (n : Option Nat) (B : Hp) (a : S.A) (p dx : Addr) (us : List V), vs = .ref p :: us ∧ H p = some (.ins S.C dx []) ∧ B p = none ∧ Ok K ⟨d, ca, cs, B, del H p⟩ n [] [] B H ∧ S.args.rep d B us a ∧ S.pre a ∧ May S.cost n ∧
  ∀ x n' B' H' dx' fs, S.post a x → Costs S.cost n n' → Ex B B' → Ok K ⟨d, ca, cs, B, del H p⟩ n' [] [] B' H' → B' p = none → H' p = some (.ins S.C dx' fs) → FRep B' (fun f => fs.lookup f) (S.flds x) → Q .non H'
theorem is_len {S : IS K} [E : Ents S.args] {vs : List V} {H : Hp} {Q : VK} {X : XK} (h : S.sp vs H Q X) : vs.length = E.len + 1 := by
  obtain ⟨d, ca, cs, n, B, a, p, dx, us, rfl, _, _, _, r, _⟩ := h
  rw [List.length_cons, (E.ok r).2.1]
/-- an __init__'s body keeps its promise -/
theorem is_body {S : IS K} [E : Ents S.args] {N : List Str} {vs : List V} {H : Hp} {Q : VK} {X : XK} {t : TS} (hN : E.len + 1 ≤ N.length) (hsp : S.sp vs H Q X)
    (body : ∀ (w : Wd) (n : Option Nat) (a : S.A) (p : Addr), S.pre a → May S.cost n → WpS K w n (.mu (rI S.C p []) :: (E.ents a ++ List.replicate (N.length - (E.len + 1)) .no)) t (fun _ : Unit => .no)
      (fun n' Γ' => ∃ x fl, S.post a x ∧ CLe S.cost n n' ∧ Γ'[0]? = some (.mu (rI S.C p fl)) ∧ FSame fl (S.flds x)) (fun _ _ => False) (fun _ _ => False) (fun _ _ => False)) :
    t { nx := fun _ H' => Q .non H', rt := Q } (L2.start N vs) H := by
  obtain ⟨d, ca, cs, n, B, a, p, dx, us, rfl, hp, hb, o, r, hpre, hm, q⟩ := hsp
  obtain ⟨l1, l2, l3⟩ := E.ok r
  have hents : ∀ (i : Nat) e, (E.ents a ++ List.replicate (N.length - (E.len + 1)) Ent.no)[i]? = some e → (∀ s a, ¬ e.owns s a) ∧ SlotOk ⟨d, ca, cs, B, del H p⟩ B H e (L2.start N (.ref p :: us))[i + 1]? := fun i e z => by
    have hst : L2.start N (.ref p :: us) = some (.ref p) :: (us.map some ++ List.replicate (N.length - (E.len + 1)) none) := by
      unfold L2.start; simp [l2]
    rw [hst, List.getElem?_cons_succ]
    by_cases hi : i < (E.ents a).length
    · rw [List.getElem?_append_left hi] at z
      rw [List.getElem?_append_left (by simpa [← l1] using hi)]
      exact l3 H ⟨d, ca, cs, B, del H p⟩ rfl i _ z
    · rw [List.getElem?_append_right (by omega), List.getElem?_replicate] at z
      split at z
      · cases z; exact ⟨fun _ _ y => y, trivial⟩
      · cases z
  have ok0 : Ok K ⟨d, ca, cs, B, del H p⟩ n (.mu (rI S.C p []) :: (E.ents a ++ List.replicate (N.length - (E.len + 1)) .no)) (L2.start N (.ref p :: us)) B H := by
    refine ⟨o.ex, o.ex0, o.nw, o.kp, o.hd, o.hh, o.pn, ?_, fun i e z => ?_, fun i j e e' x ne z z' oi oj => ?_⟩
    · unfold L2.start; simp [l1, l2]
    · cases i with
      | zero =>
        simp only [List.getElem?_cons_zero, Option.some.injEq] at z; subst z
        refine ⟨p, _, ?_, hp, hb, del_same, rfl, dx, [], rfl, Nat.zero_le _, FRep.nil fun _ => rfl⟩
        unfold L2.start; simp
      | succ i =>
        rw [List.getElem?_cons_succ] at z
        exact (hents i e z).2
    · cases i with
      | zero =>
        cases j with
        | zero => exact ne rfl
        | succ j =>
          rw [List.getElem?_cons_succ] at z'
          exact (hents j e' z').1 _ _ oj
      | succ i =>
        rw [List.getElem?_cons_succ] at z
        exact (hents i e z).1 _ _ oi
  refine body ⟨d, ca, cs, B, del H p⟩ n a p hpre hm (L2.start N (.ref p :: us)) B H ok0 _ (fun n' Γ' σ' B' H' ⟨x, fl, hx, hc, h0, hs⟩ e o' => ?_) (fun _ _ _ _ _ h _ _ => h.elim) (fun _ _ _ _ _ h _ _ => h.elim) (fun _ _ _ _ _ h _ _ _ => h.elim)
  obtain ⟨l, ob, k1, k2, k3, k4, rfl, dx', fs, rfl, k5, k6⟩ := o'.sl 0 _ h0
  rcases hc with ⟨c0, rfl⟩ | ⟨m, m', rfl, rfl, hle⟩
  · exact q x n' B' H' dx' fs hx (.inl ⟨c0, rfl⟩) e o'.nil k3 k2 (k6.same hs)
  · exact q x (some (m + S.cost)) B' H' dx' fs hx (.inr ⟨m, rfl, rfl⟩) e (o'.nil.le hle) k3 k2 (k6.same hs)
/-- from the end of an __init__ to the caller's -/
theorem Ok.made {σ : L2.St} {B H H2 B' H' : Hp} {n' : Option Nat} {x : Addr} {o : HO} (ok : Ok K w n Γ σ B H) (hx : H x = none) (e2 : Ex H H2) (hn : ∀ xs, o ≠ .lst xs) (c : Ok K ⟨w.d, w.ca, w.cs, B, del H2 x⟩ n' [] [] B' H') (hb : B' x = none) (hh : H' x = some o) :
    Ex B' (upd B' x o) ∧ Ok K w n' Γ σ (upd B' x o) H' := by
  have hdx : w.d ≠ x := fun z => by rw [← z] at hx; exact noS hx ok.hh
  have eb : Ex B' (upd B' x o) := Ex.new hb
  refine ⟨eb, ok.back ⟨c.ex.put hh, c.ex0.trans eb, fun a u q => ?_, fun a u q ne => ?_, ok.hh, c.hh, fun m q => ?_, rfl, fun i e q => by simp at q, fun i j e e' a _ q => by simp at q⟩⟩
  · by_cases z : a = x
    · subst z; exact .inr hx
    · rw [upd_ne z] at q
      rcases c.nw a u q with y | y
      · exact .inl y
      · have y : del H2 x a = none := y
        rw [del_ne z] at y
        exact .inr (e2.none y)
  · have z : a ≠ x := ne_of_none q hx
    exact c.kp a u (by show del H2 x a = some u; rw [del_ne z]; exact e2 _ _ q) ne
  · obtain ⟨fr, a, l, p1, p2, p3⟩ := c.pn m q
    exact ⟨by rw [upd_ne hdx]; exact fr, a, l, p1, eb _ _ p2, p3⟩
/-- C(..) -/
theorem we_make {S : IS K} {sp : Sp} (sub : ∀ vs H Q X, S.sp vs H Q X → sp vs H Q X) {E : XK} {tr : TA} {R : TyA A} {dvs : List V} (up : A → S.A) (hup : ∀ {d B vs a}, R.rep d B vs a → S.args.rep d B (vs ++ dvs) (up a)) {k : S.ρ → NK}
    (h : WpA K w n Γ tr R (fun a n Γ => S.pre (up a) ∧ May S.cost n ∧ ∀ x n', S.post (up a) x → Costs S.cost n n' → k x n' Γ)) : WpE K w n Γ (tMake S.C sp dvs E tr) (tObj S.C S.flds) k := fun σ B H ok Q c =>
  h σ B H ok _ fun a vs n1 Γ1 B1 H1 ⟨hp, hm, q⟩ e o r => by
    intro x dx hx hd ne
    have hx' : upd H1 dx (.own x) x = none := by rw [upd_ne (Ne.symm ne)]; exact hx
    have e2 : Ex H1 (upd (upd H1 dx (.own x)) x (.ins S.C dx [])) := (Ex.new hd).trans (Ex.new hx')
    have hbx : B1 x = none := o.ex.none hx
    have hdx : w.d ≠ x := fun z => by rw [← z] at hx; exact noS hx o.hh
    have hh2 : ((upd (upd H1 dx (.own x)) x (.ins S.C dx [])) w.d).isSome = true := by
      obtain ⟨ob, hob⟩ := Option.isSome_iff_exists.mp o.hh
      exact isS (e2 _ _ hob)
    refine sub _ _ _ _ ⟨w.d, w.ca, w.cs, n1, B1, up a, x, dx, vs ++ dvs, rfl, upd_same, hbx, ⟨o.ex.trans e2, Ex.refl _, fun a u q => .inl q, fun a u q _ => (del_some q).2, ?_, hh2, fun m q => ?_, rfl, fun i e q => by simp at q, fun i j e e' a _ q => by simp at q⟩, hup r, hp, hm, fun y n' B' H' dx' fs hy hc e' o' hb hh hf => ?_⟩
    · show (del _ x w.d).isSome = true
      rw [del_ne hdx]; exact hh2
    · obtain ⟨fr, a, l, p1, p2, p3⟩ := o.pn m q
      exact ⟨fr, a, l, e2 _ _ p1, p2, p3⟩
    · obtain ⟨eb, o2⟩ := o.made hx e2 (fun xs z => by cases z) o' hb hh
      exact ⟨rfl, c y (.ref x) n' Γ1 _ H' (q y n' hy hc) ((e.trans e').trans eb) o2 ⟨x, dx', fs, rfl, upd_same, hf.mono eb⟩⟩
/-! ### what is one's own lent out to a call that gives data -/
/-- data of this kind look at nothing that P says -/
def Blind (P : HO → Prop) (t : Ty α) : Prop := ∀ (B B' : Hp) v x, (∀ a o, B a = some o → B' a = some o ∨ P o) → t.rep B v x → t.rep B' v x
def PDict (o : HO) : Prop := ∃ kvs, o = .dK kvs
def PIns (C : Addr) (o : HO) : Prop := ∃ dx fs, o = .ins C dx fs
section
variable {P : HO → Prop}
theorem Flat.blind (h : Flat t) : Blind P t := fun B B' v x _ r => h B B' v x r
theorem blindL (hP : ∀ xs, ¬ P (.lst xs)) (h : Blind P t) : Blind P (tL t) := fun B B' v x e ⟨a, vs, h1, h2, h3⟩ => ⟨a, vs, h1, (e _ _ h2).resolve_right (hP _), pw_mono (fun _ _ => h B B' _ _ e) h3⟩
theorem blindU (hP : ∀ xs, ¬ P (.tup xs)) (h : Blind P t) : Blind P (tU t) := fun B B' v x e ⟨a, vs, h1, h2, h3⟩ => ⟨a, vs, h1, (e _ _ h2).resolve_right (hP _), pw_mono (fun _ _ => h B B' _ _ e) h3⟩
theorem blindP (hP : ∀ xs, ¬ P (.tup xs)) (h : Blind P t) (h' : Blind P u) : Blind P (tP t u) := fun B B' v x e ⟨a, p, q, h1, h2, h3, h4⟩ => ⟨a, p, q, h1, (e _ _ h2).resolve_right (hP _), h B B' _ _ e h3, h' B B' _ _ e h4⟩
theorem blindO (h : Blind P t) : Blind P (tO t) := fun B B' v x e r => by
  cases x with
  | none => exact r
  | some y => exact h B B' v y e r
/-- all the kinds of the fields are blind -/
def BlindF (P : HO → Prop) (fl : Flds) : Prop := ∀ f e, fl.lookup f = some e → Blind P e.t
theorem BlindF.nil : BlindF P [] := fun f e h => by cases h
theorem BlindF.cons {f : Str} {e : Dt} {fl : Flds} (h : Blind P e.t) (r : BlindF P fl) : BlindF P ((f, e) :: fl) := fun g d hd => by
  by_cases z : g = f
  · have hb : (g == f) = true := beq_iff_eq.mpr z
    simp only [List.lookup, hb] at hd
    cases hd; exact h
  · have hb : (g == f) = false := beq_eq_false_iff_ne.mpr z
    simp only [List.lookup, hb] at hd
    exact r g d hd
theorem FRep.blind {B B' : Hp} {lk : Str → Option V} {fl : Flds} (hf : BlindF P fl) (e : ∀ a o, B a = some o → B' a = some o ∨ P o) (h : FRep B lk fl) : FRep B' lk fl := fun f => ⟨(h f).1, fun d hd => by
  obtain ⟨v, h1, h2⟩ := (h f).2 d hd
  exact ⟨v, h1, hf f d hd B B' v d.x e h2⟩⟩
theorem blindObj {C : Addr} {flds : α → Flds} (hP : ∀ dx fs, ¬ P (.ins C dx fs)) (hf : ∀ x, BlindF P (flds x)) : Blind P (tObj C flds) := fun B B' v x e ⟨a, dx, fs, h1, h2, h3⟩ => ⟨a, dx, fs, h1, (e _ _ h2).resolve_right (hP _ _), h3.blind (hf x) e⟩
end
/-- after the lending -/
theorem Ok.unlendP {P : HO → Prop} {σ : L2.St} {B H B' H' : Hp} {l : Addr} {o : HO} {n' : Option Nat} (ok : Ok K w n Γ σ B H) (h2 : H l = some o) (h3 : B l = none) (h4 : w.H0 l = none) (ho : P o) (hP : ∀ xs, ¬ P (.lst xs))
    (c : Ok K ⟨w.d, w.ca, w.cs, upd B l o, H⟩ n' [] [] B' H') : Ok K w n' Γ σ (del B' l) H' ∧ ∀ a q, B' a = some q → del B' l a = some q ∨ P q := by
  have ne : l ≠ w.d := fun z => noS h4 (z ▸ ok.hd)
  have hB : B' l = some o := c.ex0 l o upd_same
  have mv : ∀ a q, B' a = some q → del B' l a = some q ∨ P q := fun a q e => by
    by_cases z : a = l
    · subst z; rw [hB] at e; cases e; exact .inr ho
    · rw [del_ne z]; exact .inl e
  have eb : Ex B (del B' l) := fun a q e => by
    have z : a ≠ l := ne_of_none e h3
    rw [del_ne z]; exact c.ex0 a q (by show upd B l o a = some q; rw [upd_ne z]; exact e)
  refine ⟨⟨fun a q e => c.ex a q (del_some e).2, ok.ex0.trans eb, fun a q e => ?_, fun a q e na => c.kp a q (ok.kp a q e na) na, ok.hd, c.hh, fun m q => ?_, ok.ln, fun i en q => ?_, ok.ds⟩, mv⟩
  · obtain ⟨z, e'⟩ := del_some e
    rcases c.nw a q e' with y | y
    · have y : upd B l o a = some q := y
      rw [upd_ne z] at y; exact ok.nw a q y
    · right
      have y : H a = none := y
      cases hq : w.H0 a with
      | none => rfl
      | some u =>
        by_cases na : a = w.d
        · subst na; exact (noS y ok.hh).elim
        · rw [ok.kp a u hq na] at y; cases y
  · obtain ⟨fr, a, b, p1, p2, p3⟩ := c.pn m q
    refine ⟨by rw [del_ne (Ne.symm ne)]; exact fr, a, b, p1, ?_, p3⟩
    exact (mv _ _ p2).resolve_right (hP _)
  · have s := ok.sl i en q
    refine s.keep eb rfl fun a ha => ?_
    obtain ⟨ob, g1, g2, g3⟩ := s.owned ha
    have na : a ≠ w.d := fun z => noS g3 (z ▸ ok.hd)
    refine ⟨by rw [g1]; exact c.kp a ob g1 na, ?_, g3⟩
    by_cases z : a = l
    · subst z; exact del_same
    · rw [del_ne z]
      cases hq : B' a with
      | none => rfl
      | some u =>
        rcases c.nw a u hq with y | y
        · have y : upd B l o a = some u := y
          rw [upd_ne z, g2] at y; cases y
        · have y : H a = none := y
          rw [g1] at y; cases y
/-- what stands for the own thing while it is lent: a datum -/
structure Lent {β : Type} (P : HO → Prop) (r : Rs) (u : Ty β) (y : β) : Prop where
  no : ∀ xs, ¬ P (.lst xs)
  is : ∀ {l B o}, r.R l B o → P o
  rep : ∀ {l B o}, r.R l B o → B l = none → u.rep (upd B l o) (.ref l) y
theorem Ok.lendP {r : Rs} {P : HO → Prop} {y : β} {σ : L2.St} {B H : Hp} {i : Nat} (L : Lent P r u y) (ok : Ok K w n Γ σ B H) (hi : Γ[i]? = some (.mu r)) :
    ∃ l o, H l = some o ∧ B l = none ∧ w.H0 l = none ∧ P o ∧ Ok K ⟨w.d, w.ca, w.cs, upd B l o, H⟩ n (hideE (Γ.set i (.im u y)) []) σ (upd B l o) H := by
  obtain ⟨l, o, h1, h2, h3, h4, h5⟩ := ok.sl i _ hi
  obtain ⟨o', g1, g2, g3, g4⟩ := ok.freeze hi h1
  rw [h2] at g1; cases g1
  have ok2 := g4.setIm (i := i) (L.rep h5 h3)
  rw [List.set_set, slot_same h1] at ok2
  exact ⟨l, o, h2, h3, h4, L.is h5, ok2.inner []⟩
/-- an expression that reads one's own thing and gives data -/
theorem we_lend {r : Rs} {P : HO → Prop} {y : β} {k : α → NK} (i : Nat) (hi : Γ[i]? = some (.mu r)) (L : Lent P r u y) (hb : Blind P t) (h : ∀ w' : Wd, SetE (hideE (Γ.set i (.im u y)) []) fun Γ' => WpE K w' n Γ' te t (fun x n' _ => k x n' Γ)) : WpE K w n Γ te t k := fun σ B H ok Q c => by
  obtain ⟨l, o, h1, h2, h3, h4, o1⟩ := ok.lendP L hi
  refine h _ σ _ H o1 Q fun x v n' Γ' B' H' q e o2 rp => ?_
  obtain ⟨o3, mv⟩ := ok.unlendP h1 h2 h3 h4 L.no o2.nil
  exact c x v n' Γ _ H' q (fun a q e' => by
    have z : a ≠ l := ne_of_none e' h2
    rw [del_ne z]; exact e a q (by rw [upd_ne z]; exact e')) o3 (hb _ _ _ _ mv rp)
/-- .. and gives a new list of one's own -/
theorem wm_lend {r : Rs} {P : HO → Prop} {y : β} {k : Rs → NK} (i : Nat) (hi : Γ[i]? = some (.mu r)) (L : Lent P r u y) (t : Ty α) (hb : Blind P t) (h : ∀ w' : Wd, SetE (hideE (Γ.set i (.im u y)) []) fun Γ' => WpM K w' n Γ' te (fun x n' _ => ∃ ys, x = rL t ys ∧ k (rL t ys) n' Γ)) : WpM K w n Γ te k := fun σ B H ok Q c => by
  obtain ⟨l, o, h1, h2, h3, h4, o1⟩ := ok.lendP L hi
  refine h _ σ _ H o1 Q fun x v n' Γ' B' H' ⟨ys, hx, q⟩ e o2 ow => ?_
  subst hx
  obtain ⟨o3, mv⟩ := ok.unlendP h1 h2 h3 h4 L.no o2.nil
  obtain ⟨⟨ob, k1, vs, rfl, p⟩, k2, k3, k4⟩ := ow
  have k3 : H v = none := k3
  refine c _ v n' Γ _ H' q (fun a q e' => by
    have z : a ≠ l := ne_of_none e' h2
    rw [del_ne z]; exact e a q (by rw [upd_ne z]; exact e')) o3 ⟨⟨_, k1, vs, rfl, pw_mono (fun _ _ => hb _ _ _ _ mv) p⟩, ?_, ?_, fun j en hj z => ?_⟩
  · by_cases z : v = l
    · subst z; exact del_same
    · rw [del_ne z]; exact k2
  · cases hq : w.H0 v with
    | none => rfl
    | some u =>
      by_cases na : v = w.d
      · subst na; exact (noS k3 ok.hh).elim
      · rw [ok.kp v u hq na] at k3; cases k3
  · obtain ⟨_, g1, _⟩ := (ok.sl j _ hj).owned z
    rw [k3] at g1; cases g1
theorem wt_lend {r : Rs} {P : HO → Prop} {y : β} {tt : TT} {kt kf : NK} (i : Nat) (hi : Γ[i]? = some (.mu r)) (L : Lent P r u y) (h : ∀ w' : Wd, SetE (hideE (Γ.set i (.im u y)) []) fun Γ' => WpT K w' n Γ' tt (fun n' _ => kt n' Γ) (fun n' _ => kf n' Γ)) : WpT K w n Γ tt kt kf := fun σ B H ok Q ct cf => by
  obtain ⟨l, o, h1, h2, h3, h4, o1⟩ := ok.lendP L hi
  have ev : ∀ {B'}, Ex (upd B l o) B' → Ex B (del B' l) := fun e a q e' => by
    have z : a ≠ l := ne_of_none e' h2
    rw [del_ne z]; exact e a q (by rw [upd_ne z]; exact e')
  exact h _ σ _ H o1 Q (fun n' Γ' B' H' q e o2 => ct n' Γ _ H' q (ev e) (ok.unlendP h1 h2 h3 h4 L.no o2.nil).1) (fun n' Γ' B' H' q e o2 => cf n' Γ _ H' q (ev e) (ok.unlendP h1 h2 h3 h4 L.no o2.nil).1)
theorem lent_obj {C p : Addr} {flds : α → Flds} {fl : Flds} {x : α} (e : FSame fl (flds x)) : Lent (PIns C) (rI C p fl) (tObj C flds) x :=
  ⟨(fun xs ⟨_, _, h⟩ => by cases h), fun ⟨_, dx, fs, h, _⟩ => ⟨dx, fs, h⟩, fun {l B o} ⟨_, dx, fs, h, _, r⟩ hb => ⟨l, dx, fs, rfl, by subst h; exact upd_same, (r.mono (Ex.new hb)).same e⟩⟩
theorem lent_sd {flds : α → Flds} {fl : Flds} {x : α} (e : FSame fl (flds x)) : Lent PDict (rS fl) (tSD flds) x :=
  ⟨(fun xs ⟨_, h⟩ => by cases h), fun ⟨kvs, h, _⟩ => ⟨kvs, h⟩, fun {l B o} ⟨kvs, h, _, r⟩ hb => ⟨l, kvs, rfl, by subst h; exact upd_same, (r.mono (Ex.new hb)).same e⟩⟩
end
end TL

/-! # TL: dict comprehensions, frozen dicts, dicts with texts as keys, sorted, abs, pairs by order -/
namespace TL
open PySem L2
open PySem.W (Frag)
/-- a dict with whole-number keys that nobody changes any more -/
def tD {α : Type} (t : Ty α) : Ty (List (Int × α)) := ⟨fun B v xs => ∃ a kv, v = .ref a ∧ B a = some (.dK kv) ∧ Paired (fun (p : Key × V) (q : Int × α) => p.1 = .inl q.1 ∧ t.rep B p.2 q.2) kv xs,
  fun e ⟨a, kv, h, s, p⟩ => ⟨a, kv, h, e _ _ s, pw_mono (fun _ _ ⟨h1, h2⟩ => ⟨h1, t.mono e h2⟩) p⟩⟩
/-- .. while it is walked -/
def tDF {α : Type} (t : Ty α) : Ty (List (Int × α)) := ⟨fun B v xs => ∃ a od kv, v = .ref a ∧ B a = some (.frz od (.dK kv)) ∧ Paired (fun (p : Key × V) (q : Int × α) => p.1 = .inl q.1 ∧ t.rep B p.2 q.2) kv xs,
  fun e ⟨a, od, kv, h, s, p⟩ => ⟨a, od, kv, h, e _ _ s, pw_mono (fun _ _ ⟨h1, h2⟩ => ⟨h1, t.mono e h2⟩) p⟩⟩
section
variable {K : Frag} {w : Wd} {n : Option Nat} {Γ Γ' : Env} {α β γ δ ρ A : Type} {t : Ty α} {u : Ty β} {ta tb te : TE} {ts ts' : TS} {res : ρ → Ent} {nx bk ct : NK} {rt : ρ → Option Nat → Prop}
/-! ### dict comprehensions -/
theorem wm_dc {wi : TI} {g : TG} {tt : TT} {tk tv : TE} {vs : List Nat} {kk : Rs → NK} (u : Ty β) (I : List α → Nat → List (Int × β) → Option Nat → Prop) (hg : GSl g vs)
    (h : WpI K w n Γ wi t (fun xs n Γ => For3 (I xs 0 [] n) (∀ (w' : Wd) (i : Nat) x ys n, w'.d = w.d → w'.ca = w.ca → w'.cs = w.cs → xs[i]? = some x → I xs i ys n →
      SetE (hideE Γ vs) fun Γh => WpG K w' n Γh g t x (fun n Γ => WpT K w' n Γ tt (fun n Γ => WpE K w' n Γ tk tI (fun k n Γ => WpE K w' n Γ tv u (fun y n _ => ys.length < 100000 ∧ I xs (i + 1) (dPut ys k y) n))) (fun n _ => I xs (i + 1) ys n)))
      (∀ ys n, I xs xs.length ys n → kk (rD u ys) n Γ))) : WpM K w n Γ (tDc wi g tt tk tv vs) kk := fun σ B H ok Q c =>
  h σ B H ok _ fun xs J n0 Γ0 B0 H0 ⟨hu, hs, he⟩ e0 o0 it => by
    intro D hD
    refine ⟨fun i m H => m + i = xs.length ∧ ∃ ys n B1 acc, I xs i ys n ∧ Ex B0 B1 ∧ Ok K w n Γ0 σ B1 H ∧ Own w Γ0 σ B1 H (rD u ys) D ∧ H D = some (.dK acc) ∧ Paired (fun (p : Key × V) (q : Int × β) => p.1 = .inl q.1 ∧ u.rep B1 p.2 q.2) acc ys, ?_, ?_⟩
    · exact ⟨xs.length, rfl, [], n0, B0, [], hu, Ex.refl _, o0.grow (Grow.open o0.ex hD), Own.new o0 hD ⟨[], rfl, .nil⟩, upd_same, .nil⟩
    · rintro i m H1 ⟨hm, ys, n1, B1, acc, hI, e1, o1, ow1, hacc, pacc⟩
      by_cases hi : i < xs.length
      · refine .inr ⟨it.go i H1 (e1.trans o1.ex) hi, fun H' => ∃ ys n B1 acc, I xs (i + 1) ys n ∧ Ex B0 B1 ∧ Ok K w n Γ0 σ B1 H' ∧ Own w Γ0 σ B1 H' (rD u ys) D ∧ H' D = some (.dK acc) ∧ Paired (fun (p : Key × V) (q : Int × β) => p.1 = .inl q.1 ∧ u.rep B1 p.2 q.2) acc ys, ?_, ?_⟩
        · rintro H' hN
          exact ⟨m - 1, by omega, by omega, hN⟩
        · intro v H' hy
          obtain ⟨B2, gr, rp⟩ := it.yld i _ H1 B1 v H' (List.getElem?_eq_getElem hi) e1 o1.ex hy
          have o2 := o1.grow gr
          have ow2 := ow1.grow gr
          have hD2 : H' D = some (.dK acc) := gr.h _ _ hacc
          have ned : D ≠ w.d := ow2.ned o2
          have back : ∀ {n' B' H''}, Ok K ⟨w.d, w.ca, w.cs, B2, H'⟩ n' [] [] B' H'' → Ok K w n' Γ0 σ B' H'' ∧ H'' D = some (.dK acc) ∧ B' D = none := fun {n' B' H''} o => by
            refine ⟨o2.back o, o.kp D _ hD2 ned, ?_⟩
            cases q : B' D with
            | none => rfl
            | some z =>
              rcases o.nw D z q with r | r
              · have r' : B2 D = some z := r
                rw [ow2.b] at r'; cases r'
              · have r' : H' D = none := r
                rw [hD2] at r'; cases r'
          have key := hs ⟨w.d, w.ca, w.cs, B2, H'⟩ i _ ys n1 rfl rfl rfl (List.getElem?_eq_getElem hi) hI (wipe σ vs) B2 H' (o2.inner vs) v rp _ fun n3 Γ3 σ3 B3 H3 q3 e3 o3 => q3 σ3 B3 H3 o3 (fun b H3 =>
              if b = true then tk σ3 H3 fun y H4 => tv σ3 H4 fun z H5 => ∃ kvs k, y = kV k ∧ H5 D = some (.dK kvs) ∧ kvs.length < sizeLine ∧ ∃ ys n B1 acc', I xs (i + 1) ys n ∧ Ex B0 B1 ∧ Ok K w n Γ0 σ B1 (upd H5 D (.dK (putK kvs k z))) ∧ Own w Γ0 σ B1 (upd H5 D (.dK (putK kvs k z))) (rD u ys) D ∧ (upd H5 D (.dK (putK kvs k z))) D = some (.dK acc') ∧ Paired (fun (p : Key × V) (q : Int × β) => p.1 = .inl q.1 ∧ u.rep B1 p.2 q.2) acc' ys
              else ∃ ys n B1 acc, I xs (i + 1) ys n ∧ Ex B0 B1 ∧ Ok K w n Γ0 σ B1 H3 ∧ Own w Γ0 σ B1 H3 (rD u ys) D ∧ H3 D = some (.dK acc) ∧ Paired (fun (p : Key × V) (q : Int × β) => p.1 = .inl q.1 ∧ u.rep B1 p.2 q.2) acc ys)
            (fun n4 Γ4 B4 H4 q4 e4 o4 => by
              rw [if_pos rfl]
              refine q4 σ3 B4 H4 o4 _ fun k kv n5 Γ5 B5 H5 q5 e5 o5 rk => q5 σ3 B5 H5 o5 _ fun y yv n6 Γ6 B6 H6 ⟨hz, hI6⟩ e6 o6 ry => ?_
              have rk : kv = .int k := rk
              subst rk
              obtain ⟨ok6, hd6, bd6⟩ := back o6.nil
              have ex26 : Ex B2 B6 := ((e3.trans e4).trans e5).trans e6
              have pm : Paired (fun (p : Key × V) (q : Int × β) => p.1 = .inl q.1 ∧ u.rep B6 p.2 q.2) acc ys := pw_mono (fun _ _ ⟨g1, g2⟩ => ⟨g1, u.mono (gr.b.trans ex26) g2⟩) pacc
              have pr := putK_pair (i := k) ry pm
              have ow6 : Own w Γ0 σ B6 H6 (rD u ys) D := ⟨⟨_, hd6, acc, rfl, pm⟩, bd6, ow1.h0, ow1.df⟩
              refine ⟨acc, .inl k, rfl, hd6, by rw [pw_len pacc]; exact szl hz, dPut ys k y, n6, B6, putK acc (.inl k) yv, hI6, (e1.trans gr.b).trans ex26, ?_, ?_, upd_same, pr⟩
              · exact ok6.chg bd6 ow1.h0 rfl (fun j e q => .inr ⟨q, ow1.df j e q⟩) (fun x e q => .inr ⟨e, q, fun a ha => ha⟩)
              · exact ⟨⟨_, upd_same, putK acc (.inl k) yv, rfl, pr⟩, bd6, ow1.h0, ow1.df⟩) (fun n4 Γ4 B4 H4 q4 e4 o4 => by
              rw [if_neg Bool.false_ne_true]
              obtain ⟨ok5, hd5, bd5⟩ := back o4.nil
              have ex25 : Ex B2 B4 := e3.trans e4
              have pr : Paired (fun (p : Key × V) (q : Int × β) => p.1 = .inl q.1 ∧ u.rep B4 p.2 q.2) acc ys := pw_mono (fun _ _ ⟨g1, g2⟩ => ⟨g1, u.mono (gr.b.trans ex25) g2⟩) pacc
              exact ⟨ys, n4, B4, acc, q4, (e1.trans gr.b).trans ex25, ok5, ⟨⟨_, hd5, acc, rfl, pr⟩, bd5, ow1.h0, ow1.df⟩, hd5, pr⟩)
          have key2 := hg v (wipe σ vs) H' _ key
          have ww : wipe (wipe σ vs) vs = wipe σ vs := by
            have gen : ∀ (us : List Nat) (τ : L2.St), (∀ i ∈ us, ∀ x, τ[i]? = some x → x = none) → wipe τ us = τ := fun us => by
              induction us with
              | nil => intro τ _; rfl
              | cons a us ih =>
                intro τ hτ
                unfold wipe
                rw [ih τ fun i hi => hτ i (by simp [hi])]
                apply List.ext_getElem?
                intro j
                rw [List.getElem?_set]
                split
                · rename_i z; subst z
                  split
                  · rename_i z
                    have := hτ a (by simp) τ[a] (List.getElem?_eq_getElem z)
                    rw [List.getElem?_eq_getElem z, this]
                  · rename_i z; exact (List.getElem?_eq_none_iff.mpr (by omega)).symm
                · rfl
            refine gen vs _ fun i hi x hx => ?_
            cases x with
            | none => rfl
            | some y => exact absurd hi (wipe_some hx).2
          rw [ww] at key2
          exact key2
      · have hi2 : i = xs.length := by omega
        subst hi2
        exact .inl ⟨it.stop H1 (e1.trans o1.ex), c _ D n1 Γ0 B1 H1 (he ys n1 hI) (e0.trans e1) o1 ow1⟩
/-! ### frozen dicts -/
theorem view_freezeD {i : Nat} {xs : List (Int × α)} (h : Γ[i]? = some (.md t xs)) : View K w n Γ n (Γ.set i (.im (tD t) xs)) := fun σ B H ok => by
  obtain ⟨l, o, h1, h2⟩ := ok.sl i _ h
  obtain ⟨o', h3, ⟨kv, rfl, p⟩, e, ok'⟩ := ok.freeze h h1
  have rp : (tD t).rep (upd B l (.dK kv)) (.ref l) xs := ⟨l, kv, rfl, upd_same, pw_mono (fun _ _ ⟨g1, g2⟩ => ⟨g1, t.mono e g2⟩) p⟩
  have ok2 := ok'.setIm (i := i) rp
  rw [List.set_set, slot_same h1] at ok2
  exact ⟨_, e, ok2⟩
/-- d[i] -/
theorem we_dgetF {td ty : TE} {k : α → NK} (h : WpE K w n Γ td (tD t) (fun kvs n Γ => WpE K w n Γ ty tI (fun j n Γ => ∃ x, dGet kvs j = some x ∧ k x n Γ))) : WpE K w n Γ (tDGet td ty) t k := fun σ B H ok Q c =>
  h σ B H ok _ fun kvs v n1 Γ1 B1 H1 q1 e1 o1 ⟨a, kv, hv, hs, p⟩ => q1 σ B1 H1 o1 _ fun j jv n2 Γ2 B2 H2 ⟨x, hx, q2⟩ e2 o2 r2 => by
    subst hv
    have p2 : Paired (fun (p : Key × V) (q : Int × α) => p.1 = .inl q.1 ∧ t.rep B2 p.2 q.2) kv kvs := pw_mono (fun _ _ ⟨g1, g2⟩ => ⟨g1, t.mono e2 g2⟩) p
    rcases valV_pair (i := j) p2 with ⟨_, z⟩ | ⟨y, x', z1, z2, z3⟩
    · rw [z] at hx; cases hx
    · rw [z2] at hx; cases hx
      exact ⟨a, y, rfl, .inl ⟨kv, .inl j, .inl (o2.ex _ _ (e2 _ _ hs)), r2, z1.symm⟩, c x y n2 Γ2 B2 H2 q2 (e1.trans e2) o2 z3⟩
/-- d.get(i, e) -/
theorem we_dget2F {td ty tx : TE} {k : α → NK} (h : WpE K w n Γ td (tD t) (fun kvs n Γ => WpE K w n Γ ty tI (fun j n Γ => WpE K w n Γ tx t (fun z n Γ => k ((dGet kvs j).getD z) n Γ)))) : WpE K w n Γ (tDGet2 td ty tx) t k := fun σ B H ok Q c =>
  h σ B H ok _ fun kvs v n1 Γ1 B1 H1 q1 e1 o1 ⟨a, kv, hv, hs, p⟩ => by
    subst hv
    refine ⟨a, rfl, .inl ⟨kv, .inl (o1.ex _ _ hs)⟩, q1 σ B1 H1 o1 _ fun j jv n2 Γ2 B2 H2 q2 e2 o2 r2 => q2 σ B2 H2 o2 _ fun z zv n3 Γ3 B3 H3 q3 e3 o3 r3 => ?_⟩
    have p3 : Paired (fun (p : Key × V) (q : Int × α) => p.1 = .inl q.1 ∧ t.rep B3 p.2 q.2) kv kvs := pw_mono (fun _ _ ⟨g1, g2⟩ => ⟨g1, t.mono (e2.trans e3) g2⟩) p
    refine ⟨valV kv (.inl j), .inl ⟨kv, .inl j, .inl (o3.ex _ _ (e3 _ _ (e2 _ _ hs))), r2, rfl⟩, ?_⟩
    rcases valV_pair (i := j) p3 with ⟨z1, z2⟩ | ⟨y, x', z1, z2, z3⟩
    · rw [z1]
      exact c _ zv n3 Γ3 B3 H3 q3 ((e1.trans e2).trans e3) o3 (by rw [z2]; exact r3)
    · rw [z1]
      exact c _ y n3 Γ3 B3 H3 q3 ((e1.trans e2).trans e3) o3 (by rw [z2]; exact z3)
theorem Iter.mono {xs : List α} {J : It} {B B' : Hp} (e : Ex B B') (h : Iter t xs J B) : Iter t xs J B' := ⟨fun H1 x => h.stop H1 (e.trans x), fun i H1 x => h.go i H1 (e.trans x), fun i x H1 B1 v H' hx x1 x2 hy => h.yld i x H1 B1 v H' hx (e.trans x1) x2 hy⟩
/-- what is walked is known: the rest may be weakened -/
theorem wi_view {wi : TI} {k : List α → NK} (h : WpI K w n Γ wi t (fun xs n Γ => ∃ n' Γ', View K w n Γ n' Γ' ∧ k xs n' Γ')) : WpI K w n Γ wi t k := fun σ B H ok R c =>
  h σ B H ok R fun xs J n1 Γ1 B1 H1 ⟨n2, Γ2, vw, q⟩ e o it => by
    obtain ⟨B2, e2, o2⟩ := vw σ B1 H1 o
    exact c xs J n2 Γ2 B2 H1 q (e.trans e2) o2 (it.mono e2)
/-! ### dicts walked within an expression -/
theorem wi_keysF {td : TE} {k : List Int → NK} (h : WpE K w n Γ td (tDF t) (fun kvs n Γ => k (kvs.map (·.1)) n Γ)) : WpI K w n Γ (iKeys td) tI k := fun σ B H ok R c =>
  h σ B H ok _ fun kvs v n1 Γ1 B1 H1 q e o ⟨a, od, kv, hv, hs, p⟩ => by
    subst hv
    have hl := pw_len p
    refine ⟨a, od, rfl, .inl ⟨kv, o.ex _ _ hs, c _ _ n1 Γ1 B1 H1 q e o ⟨fun H2 x => ⟨x _ _ hs, by rw [List.length_map]; omega⟩, fun i H2 x hi => ⟨x _ _ hs, by rw [List.length_map] at hi; omega⟩, fun i x H2 B2 v H' hx x1 x2 hy => ?_⟩⟩⟩
    obtain ⟨rfl, key, vv, hkey, rfl⟩ := hy
    obtain ⟨y, hy, hk1, _⟩ := pw_getL p hkey
    rw [List.getElem?_map, hy] at hx
    cases hx
    exact ⟨B2, Grow.refl x2, by have : key = .inl y.1 := hk1; rw [this]; rfl⟩
/-- after the lending of a thing that stood otherwise meanwhile -/
theorem Ok.unlendX {P : HO → Prop} {σ : L2.St} {B H B' H' : Hp} {l : Addr} {o o1 : HO} {n' : Option Nat} (ok : Ok K w n Γ σ B H) (h2 : H l = some o) (h3 : B l = none) (h4 : w.H0 l = none) (ho : P o1) (hP : ∀ xs, ¬ P (.lst xs))
    (c : Ok K ⟨w.d, w.ca, w.cs, upd B l o1, upd H l o1⟩ n' [] [] B' H') : Ok K w n' Γ σ (del B' l) (upd H' l o) ∧ H' l = some o1 ∧ ∀ a q, B' a = some q → del B' l a = some q ∨ P q := by
  have ne : l ≠ w.d := fun z => noS h4 (z ▸ ok.hd)
  have hB : B' l = some o1 := c.ex0 l o1 upd_same
  have mv : ∀ a q, B' a = some q → del B' l a = some q ∨ P q := fun a q e => by
    by_cases z : a = l
    · subst z; rw [hB] at e; cases e; exact .inr ho
    · rw [del_ne z]; exact .inl e
  have eb : Ex B (del B' l) := fun a q e => by
    have z : a ≠ l := ne_of_none e h3
    rw [del_ne z]; exact c.ex0 a q (by show upd B l o1 a = some q; rw [upd_ne z]; exact e)
  have kpH : ∀ a q, a ≠ w.d → H a = some q → (upd H' l o) a = some q := fun a q na e => by
    by_cases z : a = l
    · subst z; rw [upd_same]; rw [h2] at e; exact e
    · rw [upd_ne z]; exact c.kp a q (by show upd H l o1 a = some q; rw [upd_ne z]; exact e) na
  refine ⟨⟨fun a q e => ?_, ok.ex0.trans eb, fun a q e => ?_, fun a q e na => kpH a q na (ok.kp a q e na), ok.hd, by rw [upd_ne (Ne.symm ne)]; exact c.hh, fun m q => ?_, ok.ln, fun i en q => ?_, ok.ds⟩, c.ex _ _ hB, mv⟩
  · obtain ⟨z, e'⟩ := del_some e
    rw [upd_ne z]; exact c.ex a q e'
  · obtain ⟨z, e'⟩ := del_some e
    rcases c.nw a q e' with y | y
    · have y : upd B l o1 a = some q := y
      rw [upd_ne z] at y; exact ok.nw a q y
    · right
      have y : upd H l o1 a = none := y
      rw [upd_ne z] at y
      cases hq : w.H0 a with
      | none => rfl
      | some u =>
        by_cases na : a = w.d
        · subst na; exact (noS y ok.hh).elim
        · rw [ok.kp a u hq na] at y; cases y
  · obtain ⟨fr, a, b, p1, p2, p3⟩ := c.pn m q
    refine ⟨by rw [del_ne (Ne.symm ne)]; exact fr, a, b, by rw [upd_ne (Ne.symm ne)]; exact p1, ?_, p3⟩
    exact (mv _ _ p2).resolve_right (hP _)
  · have s := ok.sl i en q
    refine s.keep eb rfl fun a ha => ?_
    obtain ⟨ob, g1, g2, g3⟩ := s.owned ha
    have na : a ≠ w.d := fun z => noS g3 (z ▸ ok.hd)
    refine ⟨by rw [g1]; exact kpH a ob na g1, ?_, g3⟩
    by_cases z : a = l
    · subst z; exact del_same
    · rw [del_ne z]
      cases hq : B' a with
      | none => rfl
      | some u =>
        rcases c.nw a u hq with y | y
        · have y : upd B l o1 a = some u := y
          rw [upd_ne z, g2] at y; cases y
        · have y : upd H l o1 a = none := y
          rw [upd_ne z, g1] at y; cases y
def PFrz (o : HO) : Prop := ∃ od u, o = .frz od u
/-- a new list made while one's own dict is locked -/
theorem wm_lock {kvs : List (Int × α)} {k : Rs → NK} (i : Nat) (hi : Γ[i]? = some (.md t kvs)) (u : Ty β) (hb : Blind PFrz u) (h : ∀ w' : Wd, SetE (hideE (Γ.set i (.im (tDF t) kvs)) []) fun Γ' => WpM K w' n Γ' te (fun x n' _ => ∃ ys, x = rL u ys ∧ k (rL u ys) n' Γ)) : WpM K w n Γ (tLockE te) k := fun σ B H ok Q c => by
  obtain ⟨l, o, h1, h2, h3, h4, kv, rfl, p⟩ := ok.sl i _ hi
  refine ⟨l, .dK kv, h2, trivial, fun od => ?_⟩
  have ne : l ≠ w.d := fun z => noS h4 (z ▸ ok.hd)
  have ok1 : Ok K w n (Γ.set i (.mu (rDF t l od (.dK kv) kvs))) σ B (upd H l (.frz od (.dK kv))) := ok.put (r' := rDF t l od (.dK kv) kvs) hi h1 ⟨rfl, rfl, kv, rfl, p⟩
  have il : i < Γ.length := (List.getElem?_eq_some_iff.mp hi).1
  have hi2 : (Γ.set i (.mu (rDF t l od (.dK kv) kvs)))[i]? = some (.mu (rDF t l od (.dK kv) kvs)) := by rw [List.getElem?_set, if_pos rfl, if_pos il]
  obtain ⟨o', g1, g2, g3, g4⟩ := ok1.freeze hi2 h1
  rw [upd_same] at g1; cases g1
  have rp : (tDF t).rep (upd B l (.frz od (.dK kv))) (.ref l) kvs := ⟨l, od, kv, rfl, upd_same, pw_mono (fun _ _ ⟨q1, q2⟩ => ⟨q1, t.mono g3 q2⟩) p⟩
  have ok2 := g4.setIm (i := i) rp
  rw [List.set_set, List.set_set, slot_same h1] at ok2
  refine h _ σ _ _ (ok2.inner []) _ fun x v n' Γ' B' H' ⟨ys, hx, q⟩ e o2 ow => ?_
  subst hx
  obtain ⟨o3, hl3, mv⟩ := ok.unlendX h2 h3 h4 (P := PFrz) ⟨od, _, rfl⟩ (fun xs ⟨_, _, z⟩ => by cases z) o2.nil
  obtain ⟨⟨ob, k1, vs, rfl, pv⟩, k2, k3, k4⟩ := ow
  have k3 : upd H l (.frz od (.dK kv)) v = none := k3
  have vl : v ≠ l := fun z => by rw [z, upd_same] at k3; cases k3
  rw [upd_ne vl] at k3
  refine ⟨hl3, c _ v n' Γ _ _ q (fun a q e' => by
    have z : a ≠ l := ne_of_none e' h3
    rw [del_ne z]; exact e a q (by rw [upd_ne z]; exact e')) o3 ⟨⟨_, by rw [upd_ne vl]; exact k1, vs, rfl, pw_mono (fun _ _ => hb _ _ _ _ mv) pv⟩, by rw [del_ne vl]; exact k2, ?_, fun j en hj z => ?_⟩⟩
  · cases hq : w.H0 v with
    | none => rfl
    | some u =>
      by_cases na : v = w.d
      · subst na; exact (noS k3 ok.hh).elim
      · rw [ok.kp v u hq na] at k3; cases k3
  · obtain ⟨_, g1, _⟩ := (ok.sl j _ hj).owned z
    rw [k3] at g1; cases g1
/-! ### dicts with texts as keys -/
theorem valV_inr {f : Str} : kV (.inr f) = V.str f := rfl
/-- d["f"], frozen -/
theorem we_sdF {flds : α → Flds} {f : Str} {td : TE} {k : β → NK} (y : α → β) (hl : ∀ x, (flds x).lookup f = some ⟨u, y x⟩) (h : WpE K w n Γ td (tSD flds) (fun x n Γ => k (y x) n Γ)) : WpE K w n Γ (tDGet td (tC (.str f))) u k := fun σ B H ok Q c =>
  h σ B H ok _ fun x v n1 Γ1 B1 H1 q1 e1 o1 ⟨a, kv, hv, hs, p⟩ => by
    subst hv
    obtain ⟨v, g1, g2⟩ := (p f).2 _ (hl x)
    exact ⟨a, v, rfl, .inl ⟨kv, .inr f, .inl (o1.ex _ _ hs), rfl, g1.symm⟩, c _ v n1 Γ1 B1 H1 q1 e1 o1 g2⟩
/-- d["f"], one's own -/
theorem we_sdO {fl : Flds} {f : Str} {i : Nat} {y : β} {k : β → NK} (hi : Γ[i]? = some (.mu (rS fl))) (hl : fl.lookup f = some ⟨u, y⟩) (q : k y n Γ) : WpE K w n Γ (tDGet (tVar i) (tC (.str f))) u k := fun σ B H ok Q c => by
  obtain ⟨l, o, h1, h2, h3, h4, kv, rfl, h5, h6⟩ := ok.sl i _ hi
  obtain ⟨v, g1, g2⟩ := (h6 f).2 _ hl
  exact ⟨.ref l, h1, l, v, rfl, .inl ⟨kv, .inr f, .inl h2, rfl, g1.symm⟩, c y v n Γ B H q (Ex.refl _) ok g2⟩
/-- d["f"] = e -/
theorem ws_sdO {f : Str} {i : Nat} (h : WpE K w n Γ te t (fun x n' Γ' => ∃ fl, Γ'[i]? = some (.mu (rS fl)) ∧ fl.length < 1000 ∧ SetE (Γ'.set i (.mu (rS ((f, ⟨t, x⟩) :: fl)))) (nx n'))) :
    WpS K w n Γ (sDPut (tVar i) (tC (.str f)) te) res nx bk ct rt := fun σ B H ok D a b c d =>
  h σ B H ok _ fun x v n' Γ' B' H' ⟨fl, hi, hz, q⟩ e o r => by
    obtain ⟨l, ob, h1, h2, h3, h4, kv, rfl, h5, h6⟩ := o.sl i _ hi
    refine ⟨.ref l, h1, l, _, rfl, .inl ⟨kv, .inr f, h2, rfl, szl (by omega), rfl⟩, a n' _ _ B' _ q e (o.put (r' := rS ((f, ⟨t, x⟩) :: fl)) hi h1 ⟨_, rfl, ?_, h6.cons r fun g => ?_⟩)⟩
    · have := length_putK kv (.inr f) v
      simp only [List.length_cons]; omega
    · rw [valV_put]
      by_cases z : g = f
      · rw [if_pos (congrArg _ z), if_pos z]
      · rw [if_neg (fun q => z (Sum.inr.inj q)), if_neg z]
/-- the pairs of a dict's display, from the left -/
inductive PRep (B : Hp) : List (V × V) → Flds → Prop where
  | nil : PRep B [] []
  | cons {p : V × V} {e : Str × Dt} {ps : List (V × V)} {fl : Flds} (h : p.1 = .str e.1 ∧ e.2.t.rep B p.2 e.2.x) (r : PRep B ps fl) : PRep B (p :: ps) (e :: fl)
inductive MRep (B : Hp) : List (Key × V) → Flds → Prop where
  | nil : MRep B [] []
  | cons {p : Key × V} {e : Str × Dt} {ps : List (Key × V)} {fl : Flds} (h : p.1 = .inr e.1 ∧ e.2.t.rep B p.2 e.2.x) (r : MRep B ps fl) : MRep B (p :: ps) (e :: fl)
theorem MRep.len {B : Hp} {ps : List (Key × V)} {fl : Flds} (h : MRep B ps fl) : ps.length = fl.length := by
  induction h with
  | nil => rfl
  | cons _ _ ih => simp [ih]
theorem PRep.keys {B : Hp} {ps : List (V × V)} {fl : Flds} (h : PRep B ps fl) : ∃ kvs : List (Key × V), ps = kvs.map (fun kv => (kV kv.1, kv.2)) ∧ MRep B kvs fl := by
  induction h with
  | nil => exact ⟨[], rfl, .nil⟩
  | @cons a b _ _ hh rr ih =>
    obtain ⟨kvs, e1, e2⟩ := ih
    exact ⟨(.inr b.1, a.2) :: kvs, by rw [List.map_cons, ← e1]; exact congrArg (· :: _) (Prod.ext hh.1 rfl), .cons ⟨rfl, hh.2⟩ e2⟩
def WpPr (K : Frag) (w : Wd) (n : Option Nat) (Γ : Env) (trs : List (TE × TE)) (k : Flds → NK) : Prop := ∀ σ B H, Ok K w n Γ σ B H → ∀ Q : List (V × V) → Hp → Prop,
  (∀ fl ps n' Γ' B' H', k fl n' Γ' → Ex B B' → Ok K w n' Γ' σ B' H' → PRep B' ps fl → Q ps H') → tPairs trs σ H Q
theorem wpr_nil {k : Flds → NK} (h : k [] n Γ) : WpPr K w n Γ [] k := fun σ B H ok Q c => c [] [] n Γ B H h (Ex.refl _) ok .nil
theorem wpr_cons {f : Str} {trs : List (TE × TE)} {k : Flds → NK} (h : WpE K w n Γ te t (fun x n Γ => WpPr K w n Γ trs (fun fl n Γ => k ((f, ⟨t, x⟩) :: fl) n Γ))) : WpPr K w n Γ ((tC (.str f), te) :: trs) k := fun σ B H ok Q c =>
  h σ B H ok _ fun x v n1 Γ1 B1 H1 q1 e1 o1 r1 => q1 σ B1 H1 o1 _ fun fl ps n2 Γ2 B2 H2 q2 e2 o2 r2 => c _ _ n2 Γ2 B2 H2 q2 (e1.trans e2) o2 (.cons ⟨rfl, t.mono e2 r1⟩ r2)
theorem merge_rep {B : Hp} : ∀ {more : List (Key × V)} {fl : Flds} {kvs : List (Key × V)} {fl0 : Flds}, MRep B more fl → kvs.length ≤ fl0.length → FRep B (fun f => valV kvs (.inr f)) fl0 →
    (mergeK kvs more).length ≤ (fl.reverse ++ fl0).length ∧ FRep B (fun f => valV (mergeK kvs more) (.inr f)) (fl.reverse ++ fl0) := fun {more fl kvs fl0} p => by
  induction p generalizing kvs fl0 with
  | nil => exact fun h1 h2 => ⟨h1, h2⟩
  | @cons a b _ _ h r ih =>
    intro h1 h2
    rw [List.reverse_cons, List.append_assoc]
    refine ih (kvs := putK kvs a.1 a.2) (fl0 := [b] ++ fl0) ?_ ?_
    · have := length_putK kvs a.1 a.2
      simp only [List.singleton_append, List.length_cons]; omega
    · obtain ⟨f, e⟩ := b
      refine h2.cons h.2 fun g => ?_
      rw [h.1, valV_put]
      by_cases z : g = f
      · rw [if_pos (congrArg _ z), if_pos z]
      · rw [if_neg (fun q => z (Sum.inr.inj q)), if_neg z]
/-- {"f": e, ..} -/
theorem wm_disp {trs : List (TE × TE)} {k : Rs → NK} (h : ∀ w' : Wd, w'.d = w.d → w'.ca = w.ca → w'.cs = w.cs → SetE (hideE Γ []) fun Γ' => WpPr K w' n Γ' trs (fun fl n' _ => fl.length ≤ 15 ∧ k (rS (fl.reverse ++ [])) n' Γ)) : WpM K w n Γ (tDisp trs) k := fun σ B H ok Q c => by
  intro p hp
  have o1 := ok.grow (Grow.open (o := .dK []) ok.ex hp)
  have hpd : p ≠ w.d := fun z => by rw [z] at hp; exact noS hp ok.hh
  refine h ⟨w.d, w.ca, w.cs, B, upd H p (.dK [])⟩ rfl rfl rfl σ B _ (o1.inner []) _ fun fl ps n' Γ' B' H' ⟨h15, q⟩ e o2 r => ?_
  have hp2 : H' p = some (.dK []) := o2.kp p _ upd_same hpd
  have o3 := o1.back o2.nil
  obtain ⟨kvs, rfl, r2⟩ := r.keys
  refine ⟨hp2, kvs, rfl, by rw [r2.len]; exact h15, ?_⟩
  obtain ⟨m1, m2⟩ := merge_rep (kvs := []) (fl0 := []) r2 (Nat.le_refl _) (FRep.nil fun _ => rfl)
  have hB' : B' p = none := by
    cases q : B' p with
    | none => rfl
    | some u =>
      rcases o2.nw p u q with z | z
      · have z : B p = some u := z
        rw [ok.ex.none hp] at z; cases z
      · have z : upd H p (.dK []) p = none := z
        rw [upd_same] at z; cases z
  have h0 : w.H0 p = none := by
    cases q : w.H0 p with
    | none => rfl
    | some u => rw [ok.kp p u q hpd] at hp; cases hp
  have df : ∀ (j : Nat) e, Γ[j]? = some e → ¬ e.owns σ[j]? p := fun j e hj z => by
    obtain ⟨_, g1, _⟩ := (ok.sl j _ hj).owned z
    rw [hp] at g1; cases g1
  exact c _ p n' Γ B' _ q e (o3.chg hB' h0 rfl (fun j e q => .inr ⟨q, df j e q⟩) (fun x e q => .inr ⟨e, q, fun a ha => ha⟩)) ⟨⟨_, upd_same, _, rfl, m1, m2⟩, hB', h0, df⟩
/-! ### abs, sorted, pairs by order -/
def rAbs : List V → Hp → VK → Prop := fun xs H Q => ∃ i, xs = [.int i] ∧ Q (.int (if i < 0 then -i else i)) H
theorem call_absU {X : Cx} : CallR X (.builtin "abs") rAbs := call_abs
theorem we_abs {k : Int → NK} (h : WpE K w n Γ ta tI (fun a n Γ => k (a.natAbs : Int) n Γ)) : WpE K w n Γ (tCB rAbs (tCons ta tNil)) tI k :=
  we_cb1 (t := tI) (fun a => (a.natAbs : Int)) (fun _ => True) (fun B x a H Q h1 e _ q => ⟨a, by rw [show x = V.int a from h1], q _ (by show V.int _ = V.int _; congr 1; split <;> omega)⟩) (we_mono h fun x _ _ z => ⟨trivial, z⟩)
end
end TL

/-! # TL: static methods, defaults, sorted, pairs by order -/
namespace TL
open PySem L2
open PySem.W (Frag)
/-- THE RULE for a def with defaults that lets nothing out -/
theorem funD_ok {P : Program} {w : World} {K : Frag} {mg : Str → Option Value} {base : Heap} {x qual : Str} {st : Stmt} {dvs : List V} {kws : List (Str × V)} {f : Addr} {fd : FuncData} {N ps : List Str} {k : Nat} {sp : Sp} (F : FunD K x qual (defArgs st) (defBody st) (defScope st) dvs kws f fd) (S : FnScope N ps (defScope st)) (len : ∀ vs H Q E, sp vs H Q E → vs.length = ps.length)
    (hbody : ∀ (cdv : Value) (A : Around) (outer : List PySem.Env) (s : Shared) (H : Hp) (vs : List V) (Q : VK) (E : XK), Room k (A.deeper (PyProof.Rows.envOfC qual (defScope st) s.heap.objs.size f cdv)) → sp vs H Q E →
      ∃ t, PSs (cxOf CX0 P w K mg base N qual (defScope st) f cdv A outer s H E).nox (defBody st) t ∧ t { nx := fun _ H' => Q .non H', rt := Q } (start N vs) H) : FnOk P w K mg base CX0 (k + 1) f fd ps sp := by
  obtain ⟨oc, od, dV, kV, doc, pm, an, cdv, ct, osl, rfl, lk, hcd, _⟩ := F.ex
  refine fn_of lk hcd S len fun A outer s H vs Q E hr hsp => ?_
  obtain ⟨t, h, q⟩ := hbody cdv A outer s H vs Q E hr hsp
  exact ⟨t, h.nox, q⟩
/-- a def whose one default is None -/
theorem funD_mk {K : Frag} {x qual : Str} {st : Stmt} {f T : Addr} {oc ocT : Value} {od odT an : Option Addr} {osl slT : Array (Option Value)} {kV doc pm cdv ct : Value} {m : Nat} (l : K.lookup f = some ⟨oc, od, .func (PySem.W.fnOf x qual (defArgs st) (defBody st) (defScope st) (.ref T) kV doc pm an cdv ct), osl⟩)
    (hT : K.lookup T = some ⟨ocT, odT, .seq #[Value.none] m, slT⟩) (c : PySem.W.codeIn K cdv qual = true) (k : PySem.W.keepIn K (.ref f) = true) : FunD K x qual (defArgs st) (defBody st) (defScope st) [V.non] [] f (PySem.W.fnOf x qual (defArgs st) (defBody st) (defScope st) (.ref T) kV doc pm an cdv ct) :=
  ⟨⟨oc, od, .ref T, kV, doc, pm, an, cdv, ct, osl, rfl, l, c, .inr ⟨(fun z => by cases z), T, _, [Value.none], m, rfl, hT, rfl, .cons rfl .nil⟩, .inl rfl⟩, k⟩
/-- C.m(..), m a static method -/
structure StatBy (P : Program) (w : World) (K : Frag) (mg : Str → Option Value) (base : Heap) (CX : CXT) (k : Nat) (x m : Str) (ps : List Str) (sp : Sp) : Prop where
  ex : ∃ (C p f : Addr) (mc : Value) (rest : List Value) (fd : FuncData), mg x = some (.ref C) ∧ PySem.W.specialIn K (.ref C) "__getattribute__" = some (some (.builtin "type.__getattribute__")) ∧ PySem.W.readsIn K C mc = true ∧
    PySem.W.findCls K (.ref C) mc m = some (.get (.builtin "staticmethod.__get__") (.ref p) .none (.ref C)) ∧ PySem.W.recIn K p "staticmethod" = some (.ref f :: rest) ∧ PySem.W.keepIn K (.ref f) = true ∧ FnOk P w K mg base CX k f fd ps sp ∧ Binds K fd ps []
/-- C(..), the defaults dvs fill up -/
structure MadeByD (P : Program) (w : World) (K : Frag) (mg : Str → Option Value) (base : Heap) (CX : CXT) (k : Nat) (C : Addr) (x : Str) (ps : List Str) (sp : Sp) (dvs : List V) : Prop where
  ex : ∃ f fd ds, Mk K C f ∧ mg x = some (.ref C) ∧ FnOk P w K mg base CX k f fd ps sp ∧ Vals dvs ds ∧ Binds K fd ps ds
section
variable {X : Cx} {k : Nat} {C : Addr} {x m : Str} {ps : List Str} {sp : Sp} {p pos apos : Pos} {o e : Expr} {es : List Expr} {t : TA} {ta : TE} {dvs : List V}
theorem pe_makeD (c : MadeByD X.prog X.w X.K X.mg X.base CX0 k C x ps sp dvs) (hr : Room (k + 1) X.A) (hg : Gl X x) (ha : PA X (e :: es) t) (hdb : (x == ("__debug__" : Str)) = false := by decide) (he : starEach (e :: es) X.env = (false, eval e X.env) :: starEach es X.env := by rfl) (hpl : (backTo pos (starEach es X.env)).any (·.1) = false := by rfl) :
    PE X (.Call (.Name x p) (e :: es) [] pos) (tMake C sp dvs E0 t) := by
  obtain ⟨f, fd, ds, h1, h2, h3, h4, h5⟩ := c.ex
  exact pe_make h1 h3 hr hg h2 h5 h4 pass0 ha hdb he hpl
theorem pe_smeth {pl : Sem Bool} (c : StatBy X.prog X.w X.K X.mg X.base CX0 k x m ps sp) (hr : Room k X.A) (hg : Gl X x) (ha : PA X (e :: es) t) (hdb : (x == ("__debug__" : Str)) = false := by decide)
    (hst : starEach (e :: es) X.env = (false, eval e X.env) :: starEach es X.env := by rfl) (hpl : (backTo pos (starEach es X.env)).any (·.1) = false := by rfl)
    (ht : eval (.Call (.Attribute (.Name x p) m apos) (e :: es) [] pos) X.env = (do
      let ov ← eval (.Name x p) X.env
      standAt apos.atName
      let (f, first) ← holding [ov] (getMethod ov m pl)
      callWith pos f first (backTo pos (starEach (e :: es) X.env)) (backToKw pos (keywordEach [] X.env))) := by rfl) :
    PE X (.Call (.Attribute (.Name x p) m apos) (e :: es) [] pos) (tCall sp [] E0 t) := by
  obtain ⟨C, q, f, mc, rest, fd, h1, h2, h3, h4, h5, h6, h7, h8⟩ := c.ex
  refine ⟨fun pins s σ H Q I h => ?_⟩
  refine PySem.W.methodCall_KW (pl := pl) (ld_glob I hg h1 ?_ hdb) ht
  refine PySem.W.method_cls I.kIn h2 ?_
  refine PySem.W.cls_bind I.kIn h3 h4 (wpAny_call (PySem.W.sm_get (s := { s with toks := s.toks + 1 }) I.kIn h5 (PySem.W.handed_on rfl ?_)))
  have I2 := I.tok (s.toks + 1)
  refine PySem.W.callWith_K (h₀ := X.base) I2.ok.mod.kin h6 (thn (ha.run pos pins _ σ H _ I2 h) fun us s1 ⟨vs, H1, I1, r, q⟩ => ⟨I1.kIn, ?_⟩) hst hpl
  exact run_fn h7 hr h8 .nil pass0 I1 r q
theorem op_ltT' {K : Frag} (e : X.K = K) (hu : X.A.units + 64 < cLine) : OpR X (compareOp .Lt) (rLtT K) := by subst e; exact op_ltT (by omega)
theorem pi_revK {tg : Expr} {K : Frag} (hK : X.K = K) (hg : Gl X "reversed") (hm : X.mg "reversed" = none) (ha : PA X [e] t) (hs : starEach [e] X.env = [(false, eval e X.env)] := by rfl) : PI X tg (.Call (.Name "reversed" p) [e] [] pos) (iRev K t) := by
  subst hK; exact pi_reversed hg hm ha hs
theorem pe_fldK (K : Frag) {f : Str} (hK : X.K = K) (he : PE X o ta) (hb : attributeBase o f X.env (eval o X.env) = eval o X.env) : PE X (.Attribute o f pos) (tFld K ta f) := by
  subst hK; exact pe_fld he hb
theorem cr_sortedK (K : Frag) (e : X.K = K) : CallR X (.builtin "sorted") (rSortedI K) := by subst e; exact cr_sortedI
end
section
variable {K : Frag} {w : Wd} {n : Option Nat} {Γ Γ' : Env} {α β γ δ ρ A : Type} {t : Ty α} {u : Ty β} {ta tb te : TE} {ts ts' : TS} {res : ρ → Ent} {nx bk ct : NK} {rt : ρ → Option Nat → Prop}
theorem iter_rev {B : Hp} {a : Addr} {vs : List V} {xs : List α} (hs : SqL K B a vs) (p : Paired (t.rep B) vs xs) : Iter t xs.reverse (Itv K a vs.length) B :=
  ⟨fun H1 e => by show vs.length ≤ xs.reverse.length; rw [List.length_reverse, pw_len p]; exact Nat.le_refl _, fun i H1 e hi => by
    have hi' : i < vs.length := by rw [pw_len p]; simpa using hi
    exact ⟨hi', vs, vs[vs.length - 1 - i], e.l hs, by rw [List.getElem?_eq_getElem]⟩, fun i x H1 B1 v H' hx e1 e2 hy => by
    obtain ⟨rfl, hy⟩ := hy
    obtain ⟨v', h1, h2⟩ := pw_getR (pw_rev p) hx
    have hi := (List.getElem?_eq_some_iff.mp h1).1
    rw [List.length_reverse] at hi
    rw [List.getElem?_reverse hi] at h1
    have := hy vs ((e1.trans e2).l hs)
    rw [this] at h1; cases h1
    exact ⟨B1, Grow.refl e2, t.mono e1 h2⟩⟩
/-- for x in reversed(xs) -/
theorem wi_rev {k : List α → NK} (h : WpE K w n Γ te (tL t) (fun xs n Γ => k xs.reverse n Γ)) : WpI K w n Γ (iRev K (tCons te tNil)) t k := fun σ B H ok R c =>
  h σ B H ok _ fun xs v n1 Γ1 B1 H1 q e o ⟨a, vs, hv, hs, p⟩ => by
    subst hv
    exact ⟨a, vs, rfl, SqL.of (o.ex _ _ hs), c _ _ n1 Γ1 B1 H1 q e o (iter_rev (K := K) (SqL.of hs) p)⟩
/-- sorted(a list of ints) -/
theorem wm_sorted {k : Rs → NK} (h : WpE K w n Γ ta (tL tI) (fun xs n Γ => ∀ ys : List Int, ys.Perm xs → ys.Pairwise (· ≤ ·) → k (rL tI ys) n Γ)) : WpM K w n Γ (tCB (rSortedI K) (tCons ta tNil)) k := fun σ B H ok Q c =>
  h σ B H ok _ fun xs v n1 Γ1 B1 H1 q e o ⟨a, vs, hv, hs, p⟩ => by
    subst hv
    have e1 := pw_intEq (show Paired (fun (v : V) (x : Int) => v = V.int x) vs xs from p)
    subst e1
    exact ⟨a, xs, rfl, SqL.of (o.ex _ _ hs), fun ys pa hp hw ha => c _ pa n1 Γ1 B1 _ (q ys hp hw) e (o.grow (Grow.open o.ex ha)) (Own.new o ha ⟨ys.map V.int, rfl, pw_mapI⟩)⟩
/-- pairs of ints by < -/
theorem we_ltP {k : Bool → NK} (h : WpE K w n Γ ta (tP tI tI) (fun a n Γ => WpE K w n Γ tb (tP tI tI) (fun b n Γ => k (decide (a.1 < b.1 ∨ (a.1 = b.1 ∧ a.2 < b.2))) n Γ))) : WpE K w n Γ (tOp (rLtT K) ta tb) tBo k := fun σ B H ok Q c =>
  h σ B H ok _ fun a x n1 Γ1 B1 H1 q1 e1 o1 r1 => q1 σ B1 H1 o1 _ fun b y n2 Γ2 B2 H2 q2 e2 o2 r2 => by
    obtain ⟨pa, p, q, rfl, hs1, hp, hq⟩ := (tP tI tI).mono e2 r1
    obtain ⟨pb, p', q', rfl, hs2, hp', hq'⟩ := r2
    have hp : p = .int a.1 := hp
    have hq : q = .int a.2 := hq
    have hp' : p' = .int b.1 := hp'
    have hq' : q' = .int b.2 := hq'
    subst hp; subst hq; subst hp'; subst hq'
    refine ⟨pa, pb, [a.1, a.2], [b.1, b.2], rfl, rfl, SqT.of (o2.ex _ _ hs1), SqT.of (o2.ex _ _ hs2), c _ _ n2 Γ2 B2 H2 q2 (e1.trans e2) o2 ?_⟩
    show V.bl _ = V.bl _
    congr 1
    simp only [HT.lexLt]
    by_cases z1 : a.1 < b.1 <;> by_cases z2 : a.1 = b.1 <;> by_cases z3 : a.2 < b.2 <;> simp [z1, z2, z3] <;> omega
/-- an option that is known to be there -/
theorem we_ofSome {k : α → NK} (h : WpE K w n Γ te (tO t) (fun x n Γ => ∃ y, x = some y ∧ k y n Γ)) : WpE K w n Γ te t k := fun σ B H ok Q c =>
  h σ B H ok _ fun x v n' Γ' B' H' ⟨y, hx, q⟩ e o r => by subst hx; exact c y v n' Γ' B' H' q e o r
theorem inV_ints {x : Int} : ∀ {xs : List Int}, inV (.int x) (xs.map V.int) = decide (x ∈ xs) ∧ (xs.map V.int).all flatV = true
  | [] => ⟨by simp [inV], rfl⟩
  | y :: r => by
    obtain ⟨h1, h2⟩ := inV_ints (x := x) (xs := r)
    refine ⟨?_, by simp only [List.map_cons, List.all_cons, h2]; rfl⟩
    have e : inV (.int x) ((y :: r).map V.int) = ((y == x) || inV (.int x) (r.map V.int)) := rfl
    rw [e, h1]
    by_cases z : y = x
    · subst z; simp
    · have z' : ¬ x = y := fun q => z q.symm
      simp [z, z']
/-- k in a list or a tuple of ints -/
theorem we_inI {q : TZ.Sk} {b : Bool} {k : Bool → NK} (h : WpE K w n Γ ta tI (fun a n Γ => WpE K w n Γ tb (tQ q tI) (fun xs n Γ => k (if b then !decide (a ∈ xs) else decide (a ∈ xs)) n Γ))) : WpE K w n Γ (tOp (rIn K b) ta tb) tBo k := fun σ B H ok Q c =>
  h σ B H ok _ fun a x n1 Γ1 B1 H1 q1 e1 o1 r1 => q1 σ B1 H1 o1 _ fun xs y n2 Γ2 B2 H2 q2 e2 o2 r2 => by
    have r1 : x = .int a := r1
    subst r1
    obtain ⟨p, vs, rfl, hs, pv⟩ : ∃ p vs, y = .ref p ∧ (SqL K H2 p vs ∨ SqT K H2 p vs) ∧ Paired (tI.rep B2) vs xs := by
      cases q with
      | l => obtain ⟨p, vs, h1, h2, h3⟩ := r2; exact ⟨p, vs, h1, .inl (SqL.of (o2.ex _ _ h2)), h3⟩
      | t => obtain ⟨p, vs, h1, h2, h3⟩ := r2; exact ⟨p, vs, h1, .inr (SqT.of (o2.ex _ _ h2)), h3⟩
      | s => obtain ⟨p, vs, h1, h2, h3⟩ := r2; exact ⟨p, vs, h1, .inl (.inl (o2.ex.rd h2)), h3⟩
    have ev := pw_intEq (show Paired (fun (v : V) (x : Int) => v = V.int x) vs xs from pv)
    subst ev
    obtain ⟨i1, i2⟩ := inV_ints (x := a) (xs := xs)
    exact ⟨p, _, rfl, hs, rfl, i2, c _ _ n2 Γ2 B2 H2 q2 (e1.trans e2) o2 (by show V.bl _ = V.bl _; rw [i1])⟩
/-- None or a datum: is it not None? -/
theorem we_notNone {k : Bool → NK} (hn : ∀ {B v x}, t.rep B v x → ¬ v = .non) (h : WpE K w n Γ ta (tO t) (fun x n Γ => k (!x.isNone) n Γ)) : WpE K w n Γ (tOp (fun x y H Q => y = .non ∧ Q (.bl (!decide (x = .non))) H) ta (tC .non)) tBo k := fun σ B H ok Q c =>
  h σ B H ok _ fun x v n1 Γ1 B1 H1 q e o r => ⟨rfl, by
    cases x with
    | none =>
      have r' : v = .non := r
      exact c _ _ n1 Γ1 B1 H1 q e o (by show V.bl _ = V.bl _; rw [r']; rfl)
    | some y => exact c _ _ n1 Γ1 B1 H1 q e o (by show V.bl _ = V.bl _; rw [decide_eq_false (hn r)]; rfl)⟩
theorem non_L {B : Hp} {v : V} {xs : List α} (h : (tL t).rep B v xs) : ¬ v = .non := by
  obtain ⟨a, vs, h, _⟩ := h
  intro z; rw [h] at z; cases z
theorem non_obj {C : Addr} {flds : α → Flds} {B : Hp} {v : V} {x : α} (h : (tObj C flds).rep B v x) : ¬ v = .non := by
  obtain ⟨a, dx, fs, h, _⟩ := h
  intro z; rw [h] at z; cases z
/-- a pair of one kind is a tuple of it -/
theorem we_pairU {k : List α → NK} (h : WpE K w n Γ te (tP t t) (fun x n Γ => k [x.1, x.2] n Γ)) : WpE K w n Γ te (tU t) k := fun σ B H ok Q c =>
  h σ B H ok _ fun x v n' Γ' B' H' q e o ⟨a, p, q', h1, h2, h3, h4⟩ => c _ v n' Γ' B' H' q e o ⟨a, [p, q'], h1, h2, .cons h3 (.cons h4 .nil)⟩
end
end TL

/-! # TL: the special methods of own classes: in, truth, comparisons, operators, negation, items -/
namespace TL
open PySem L2 PyProof.Rows PySem.Calls
open PySem.W (Frag)
section
variable {X : Cx} {k : Nat} {C : Addr} {m : Str} {ps : List Str} {sp : Sp} {pins : List (Addr × Obj)} {σ : L2.St} {H : Hp} {s : Shared}
/-- x is an instance of the class at C -/
def InsV (C : Addr) (x : V) (H : Hp) : Prop := ∃ a dx fs, x = .ref a ∧ H a = some (.ins C dx fs)
theorem run_own (c : MethBy X.prog X.w X.K X.mg X.base CX0 k C m ps sp) (hr : Room k X.A) (I : Inv X pins σ H s) : ∃ f : Addr, PySem.W.findIn X.K (.ref C) m = some (some (.ref f)) ∧ PySem.W.isFn X.K (.ref f) = true ∧
    ∀ (vs : List V) (us : List Value) (Q : VK), Vals vs us → sp vs H Q E0 → wpAny (model X.prog X.w) X.A (call (.ref f) us) (EP X pins σ Q) X.xe s := by
  obtain ⟨f, fd, h1, h2, h3⟩ := c.ex
  exact ⟨f, h1.at_, h1.fn, fun vs us Q r q => run_fn h2 hr h3 .nil pass0 I r (by rw [List.append_nil]; exact q)⟩
theorem ins_look {a dx : Addr} {fs : List (Str × V)} (I : Inv X pins σ H s) (h : H a = some (.ins C dx fs)) : ∃ ox od, PySem.W.InstAt s.heap a ox C od := by
  obtain ⟨mA, J, _⟩ := ins_get I.hok h
  obtain ⟨od, J, _⟩ := J.look
  exact ⟨_, _, J⟩
theorem not_ni {v : V} {u : Value} (h : RelV v u) : u ≠ .notImplemented := by
  intro z
  subst z
  cases v with
  | non => cases h
  | bl b => cases h
  | int i => obtain ⟨t, h⟩ := h; cases h
  | str x => obtain ⟨t, h⟩ := h; cases h
  | byt b => obtain ⟨t, h⟩ := h; cases h
  | flt b => obtain ⟨t, h⟩ := h; cases h
  | ref a => cases h
  | ty n => cases h
theorem back_of {Q : VK} {w : Value} {s' : Shared} (z : EP X pins σ Q w s') : PySem.W.CmpBack (EP X pins σ Q) w s' := by
  obtain ⟨v, H', I', r, q⟩ := z
  have := not_ni r
  unfold PySem.W.CmpBack
  split
  · exact this rfl
  · exact ⟨v, H', I', r, q⟩
/-- x in o -/
def rInOwn (n : Bool) (C : Addr) (sp : Sp) : R2 := fun x y H Q => InsV C y H ∧ sp [y, x] H (fun v H' => ∃ b, v = .bl b ∧ Q (.bl (if n then !b else b)) H') E0
theorem op_inOwn (c : MethBy X.prog X.w X.K X.mg X.base CX0 k C "__contains__" ps sp) (hr : Room k X.A) : OpR X (compareOp .In) (rInOwn false C sp) := by
  intro pins s σ H x y v u Q I rx ry ⟨⟨a, dx, fs, hy, ha⟩, q⟩
  subst hy
  cases (show u = Value.ref a from ry)
  obtain ⟨ox, od, J⟩ := ins_look I ha
  obtain ⟨mm, hF⟩ := I.fr
  obtain ⟨f, h1, h2, h3⟩ := run_own c hr I
  refine PySem.W.in_K hF I.ok.mod.kin J h1 h2 (wpAny_mono (h3 [.ref a, x] [.ref a, v] _ (.cons rfl (.cons rx .nil)) q) (fun r s' z => ?_) fun _ _ e => e)
  obtain ⟨w, H', I', rw', b, rfl, q'⟩ := z
  cases (show r = Value.bool b from rw')
  exact wpAny_truthy_bool ⟨.bl b, H', I', rfl, q'⟩
theorem op_notInOwn (c : MethBy X.prog X.w X.K X.mg X.base CX0 k C "__contains__" ps sp) (hr : Room k X.A) : OpR X (compareOp .NotIn) (rInOwn true C sp) := by
  intro pins s σ H x y v u Q I rx ry ⟨⟨a, dx, fs, hy, ha⟩, q⟩
  subst hy
  cases (show u = Value.ref a from ry)
  obtain ⟨ox, od, J⟩ := ins_look I ha
  obtain ⟨mm, hF⟩ := I.fr
  obtain ⟨f, h1, h2, h3⟩ := run_own c hr I
  refine PySem.W.notIn_K hF I.ok.mod.kin J h1 h2 (wpAny_mono (h3 [.ref a, x] [.ref a, v] _ (.cons rfl (.cons rx .nil)) q) (fun r s' z => ?_) fun _ _ e => e)
  obtain ⟨w, H', I', rw', b, rfl, q'⟩ := z
  cases (show r = Value.bool b from rw')
  exact wpAny_truthy_bool ⟨.bl (!b), H', I', rfl, q'⟩
/-- what the machine must know of the other operand -/
inductive TyL (K : Frag) (H : Hp) : V → Value → Prop where
  | own {a C dx : Addr} {fs : List (Str × V)} (e : H a = some (.ins C dx fs)) : TyL K H (.ref a) (.ref C)
  | kit {x : V} {t : Value} (h : TyX K H x t) : TyL K H x t
theorem TyL.looks {y : V} {u t : Value} (I : Inv X pins σ H s) (ry : RelV y u) (h : TyL X.K H y t) : PySem.W.Looks (model X.prog X.w) s.heap (typeOf u) t := by
  cases h with
  | @own a C dx fs e =>
    cases (show u = Value.ref a from ry)
    obtain ⟨ox, od, J⟩ := ins_look I e
    exact J.type
  | kit h =>
    obtain ⟨P, h1, h2, _⟩ := kit_of I ry h
    exact h1.ty _ _ I.kIn h2
/-- x == y, x <= y, .. by the left one's own method -/
def rCmpOwn (K : Frag) (C : Addr) (sp : Sp) : R2 := fun x y H Q => InsV C x H ∧ (∃ t, TyL K H y t ∧ PySem.W.notFirst K C t = true) ∧ sp [x, y] H Q E0
theorem op_cmpOwn {op : CmpOp} (K : Frag) (hK : X.K = K) (ho : compareOp op = richCompare op) (hm : (cmpInfo op).2.1 = m) (c : MethBy X.prog X.w X.K X.mg X.base CX0 k C m ps sp) (hr : Room k X.A) : OpR X (compareOp op) (rCmpOwn K C sp) := by
  subst hK
  intro pins s σ H x y v u Q I rx ry ⟨⟨a, dx, fs, hx, ha⟩, ⟨t, ht, hn⟩, q⟩
  subst hx
  cases (show v = Value.ref a from rx)
  obtain ⟨ox, od, J⟩ := ins_look I ha
  obtain ⟨mm, hF⟩ := I.fr
  obtain ⟨f, h1, h2, h3⟩ := run_own c hr I
  rw [ho]
  refine PySem.W.cmp_K hr.units0 hF I.ok.mod.kin J (ht.looks I ry) hn (by rw [hm]; exact h1) h2 (wpAny_mono (h3 [.ref a, y] [.ref a, u] _ (.cons rfl (.cons ry .nil)) q) (fun r s' z => back_of z) fun _ _ e => e)
/-- x + y, x & y .. of two instances of one class -/
def rBinOwn (C : Addr) (sp : Sp) : R2 := fun x y H Q => InsV C x H ∧ InsV C y H ∧ sp [x, y] H Q E0
theorem op_binOwn {op : Operator} (hm : PySem.dunder op.info.2 = m) (hc : PySem.W.selfFirst X.K C = true) (c : MethBy X.prog X.w X.K X.mg X.base CX0 k C m ps sp) (hr : Room k X.A) : OpR X (binaryOp op) (rBinOwn C sp) := by
  intro pins s σ H x y v u Q I rx ry ⟨⟨a, dx, fs, hx, ha⟩, ⟨b, dy, gs, hy, hb⟩, q⟩
  subst hx; subst hy
  cases (show v = Value.ref a from rx)
  cases (show u = Value.ref b from ry)
  obtain ⟨ox, od, J⟩ := ins_look I ha
  obtain ⟨oy, oe, J'⟩ := ins_look I hb
  obtain ⟨mm, hF⟩ := I.fr
  obtain ⟨f, h1, h2, h3⟩ := run_own c hr I
  exact PySem.W.binop_K hF I.ok.mod.kin J J'.type hc (by rw [hm]; exact h1) h2 (wpAny_mono (h3 [.ref a, .ref b] [.ref a, .ref b] _ (.cons rfl (.cons rfl .nil)) q) (fun r s' z => back_of z) fun _ _ e => e)
/-- -x -/
def rNegOwn (C : Addr) (sp : Sp) : V → Hp → VK → Prop := fun x H Q => InsV C x H ∧ sp [x] H Q E0
theorem un_negOwn (c : MethBy X.prog X.w X.K X.mg X.base CX0 k C "__neg__" ps sp) (hr : Room k X.A) : UnR X (unaryOp .USub) (rNegOwn C sp) := by
  intro pins s σ H x v Q I rx ⟨⟨a, dx, fs, hx, ha⟩, q⟩
  subst hx
  cases (show v = Value.ref a from rx)
  obtain ⟨ox, od, J⟩ := ins_look I ha
  obtain ⟨mm, hF⟩ := I.fr
  obtain ⟨f, h1, h2, h3⟩ := run_own c hr I
  exact PySem.W.ksp_neg hF I.ok.mod.kin J h1 h2 (h3 [.ref a] [.ref a] _ (.cons rfl .nil) q)
/-- truth by __bool__ -/
def rTruOwn (C : Addr) (sp : Sp) : V → Hp → (Bool → Hp → Prop) → Prop := fun x H Q => InsV C x H ∧ sp [x] H (fun v H' => ∃ b, v = .bl b ∧ Q b H') E0
theorem tru_own (c : MethBy X.prog X.w X.K X.mg X.base CX0 k C "__bool__" ps sp) (hr : Room k X.A) : TruR X (rTruOwn C sp) := by
  intro pins s σ H x v Q I rx ⟨⟨a, dx, fs, hx, ha⟩, q⟩
  subst hx
  cases (show v = Value.ref a from rx)
  obtain ⟨ox, od, J⟩ := ins_look I ha
  obtain ⟨mm, hF⟩ := I.fr
  obtain ⟨f, h1, h2, h3⟩ := run_own c hr I
  refine PySem.W.truthy_K hF I.ok.mod.kin J h1 h2 (wpAny_mono (h3 [.ref a] [.ref a] _ (.cons rfl .nil) q) (fun r s' z => ?_) fun _ _ e => e)
  obtain ⟨w, H', I', rw', b, rfl, q'⟩ := z
  cases (show r = Value.bool b from rw')
  exact ⟨H', I', q'⟩
def tTruOwn (C : Addr) (sp : Sp) (ta : TE) : TT := fun σ H Q => ta σ H fun x H' => rTruOwn C sp x H' Q
theorem pt_truOwn {a : Expr} {ta : TE} (c : MethBy X.prog X.w X.K X.mg X.base CX0 k C "__bool__" ps sp) (hr : Room k X.A) (ha : PE X a ta) (he : ∀ whole, isTrue a X.env whole = (do let v ← whole; standAt a.pos; holding [v] (truthy v))) : PT X a (tTruOwn C sp ta) := by
  refine ⟨fun pins s σ H Q I h => ?_⟩
  exact isTrue_plain (thn (ha.run pins s σ H _ I h) fun v s1 ⟨x, H1, I1, r1, q1⟩ => tru_own c hr pins s1 σ H1 x v Q I1 r1 q1) (he _)
end

section
variable {K : Frag} {w : Wd} {n : Option Nat} {Γ : Env} {α β γ δ ρ A : Type} {t : Ty α} {u : Ty β} {ta tb te : TE}
theorem insV_obj {C : Addr} {flds : α → Flds} {B H : Hp} {v : V} {x : α} (h : (tObj C flds).rep B v x) (e : Ex B H) : InsV C v H := by
  obtain ⟨a, dx, fs, hv, hs, _⟩ := h
  exact ⟨a, dx, fs, hv, e _ _ hs⟩
/-- what of two operands an own method is asked -/
theorem we_own2 {ι : Type} {S : ι → FS K} (i : ι) {r : R2} {s : Ty (S i).ρ} {k : (S i).ρ → NK} (hres : (S i).res = fun x => .im s x) (hc : (S i).cost = 0) (up : α → β → (S i).A) (swap : Bool)
    (hup : ∀ {d B v1 v2 a b}, t.rep B v1 a → u.rep B v2 b → (S i).args.rep d B (if swap then [v2, v1] else [v1, v2]) (up a b))
    (hr : ∀ {B H v1 v2 a b Q}, t.rep B v1 a → u.rep B v2 b → Ex B H → SpEx (fun i => (S i).sp) (if swap then [v2, v1] else [v1, v2]) H Q E0 → r v1 v2 H Q)
    (h : WpE K w n Γ ta t (fun a n Γ => WpE K w n Γ tb u (fun b n Γ => (S i).pre (up a b) ∧ ∀ x, (S i).post (up a b) x → k x n Γ))) : WpE K w n Γ (tOp r ta tb) s k := fun σ B H ok Q c =>
  h σ B H ok _ fun a v1 n1 Γ1 B1 H1 q1 e1 o1 r1 => q1 σ B1 H1 o1 _ fun b v2 n2 Γ2 B2 H2 ⟨hp, q⟩ e2 o2 r2 => by
    refine hr (t.mono e2 r1) r2 o2.ex ⟨i, w.d, w.ca, w.cs, n2, B2, up a b, o2.entry, hup (t.mono e2 r1) r2, hp, .inl hc, fun x v n' B' H' hx hcc e' o' sl => ?_⟩
    rw [hres] at sl
    obtain ⟨v', h1, h2⟩ := sl
    cases h1
    have hn : n' = n2 := by
      rcases hcc with ⟨_, z⟩ | ⟨m, z1, z2⟩
      · exact z
      · rw [z1, z2, hc]; rfl
    subst hn
    exact c x v n' Γ2 B' H' (q x hx) ((e1.trans e2).trans e') (o2.back o') h2
end
/-! ### bool(o) -/
section
variable {X : Cx} {k : Nat} {C : Addr} {m : Str} {ps : List Str} {sp : Sp} {pins : List (Addr × Obj)} {σ : L2.St} {H : Hp} {s : Shared}
theorem run_ownA {A : Around} (c : MethBy X.prog X.w X.K X.mg X.base CX0 k C m ps sp) (hr : Room k A) (hf : A.frames = X.A.frames) (I : Inv X pins σ H s) : ∃ f : Addr, PySem.W.findIn X.K (.ref C) m = some (some (.ref f)) ∧ PySem.W.isFn X.K (.ref f) = true ∧
    ∀ (vs : List V) (us : List Value) (Q : VK), Vals vs us → sp vs H Q E0 → wpAny (model X.prog X.w) A (call (.ref f) us) (EP X pins σ Q) X.xe s := by
  obtain ⟨f, fd, h1, F, hb⟩ := c.ex
  refine ⟨f, h1.at_, h1.fn, fun vs us Q r hsp => ?_⟩
  have e0 : Env0 X.prog X.w X.K X.mg X.base A X.stack s H := by
    have e := I.env0
    exact ⟨by rw [hf]; exact e.frames, e.mod, e.bs, e.bsz, e.funs, e.frf, e.hok, e.bare⟩
  have hl := F.len _ _ _ _ hsp
  refine wpAny_call (codeAny_mono (F.run A X.stack s H ⟨us, []⟩ us vs Q E0 hr e0 (by
    have := hb s us I.kIn (by rw [List.append_nil, ← r.length]; exact hl)
    simpa using this) r hsp) fun r s' hq => ?_)
  cases r with
  | error e => exact hq.elim
  | ok fl =>
    cases fl with
    | ret w => exact I.after hq
    | next => exact False.elim hq
    | brk => exact False.elim hq
    | cont => exact False.elim hq
def rBoolOwn (C : Addr) (sp : Sp) : List V → Hp → VK → Prop := fun xs H Q => ∃ x, xs = [x] ∧ rTruOwn C sp x H (fun b H' => Q (.bl b) H')
theorem call_boolOwn (c : MethBy X.prog X.w X.K X.mg X.base CX0 k C "__bool__" ps sp) (hr : Room (k + 2) X.A) : CallR X (.type "bool") (rBoolOwn C sp) := by
  intro pins s σ H xs us Q I rx h
  obtain ⟨x, hx, ⟨a, dx, fs, hxa, ha⟩, q⟩ := h
  subst hx; subst hxa
  obtain rfl : us = [Value.ref a] := by
    cases rx with
    | cons r1 r2 =>
      cases r2
      cases (show _ = Value.ref a from r1)
      rfl
  obtain ⟨ox, od, J⟩ := ins_look I ha
  obtain ⟨mm, hF⟩ := I.fr
  obtain ⟨f, h1, h2, h3⟩ := run_ownA (A := X.A.in1.in1) c hr.in1.in1 rfl I
  refine callType_newIn (S := fun A1 R s => wpAny (model X.prog X.w) A1.in1 (truthy (.ref a)) (fun b s' => R (.ok (.ret (.bool b))) s') (fun e s' => R (.error e) s') s) F.called_bool F.newNe_bool (F.typeCall_bool_1 (.ref a)) (F.newCall_bool_1 (.ref a)) (fun obj => F.args_object_init_2 obj (.ref a)) F.entry_bool_new (MeetsIn.of_wp fun A R s hs => ?_) ?_
  · have hs0 := hs
    obtain ⟨hp, g, d, tk, os⟩ := s
    have f1 := F.conv_sub_bool
    repeat (any_goals (first | assumption | (with_reducible refine wpAny_mono hs0 (fun b s' h => ?_) (fun e s' h => h)) | wp_step))
    all_goals exact ⟨_, rfl, h⟩
  · refine PySem.W.truthy_K hF I.ok.mod.kin J h1 h2 (wpAny_mono (h3 [.ref a] [.ref a] _ (.cons rfl .nil) q) (fun r s' z => ?_) fun _ _ e => e)
    obtain ⟨w, H', I', rw', b, rfl, q'⟩ := z
    cases (show r = Value.bool b from rw')
    exact ⟨rfl, .bl b, H', I', rfl, q'⟩
end
section
variable {K : Frag} {w : Wd} {n : Option Nat} {Γ : Env} {α β γ δ ρ A : Type} {t : Ty α} {u : Ty β} {ta tb te : TE} {ι : Type} {S : ι → FS K}
/-- an own method's answer is a truth value: from the promise to what is wanted -/
theorem own_bool (i : ι) (f : (S i).ρ → Bool) (hres : (S i).res = fun x => .im tBo (f x)) (hc : (S i).cost = 0) {a : (S i).A} {vs : List V} {σ : L2.St} {B H : Hp} {Q : Bool → Hp → Prop} {k : Bool → NK} (o : Ok K w n Γ σ B H) (r : (S i).args.rep w.d B vs a) (hp : (S i).pre a) (h : ∀ x, (S i).post a x → k (f x) n Γ)
    (c : ∀ b B' H', k b n Γ → Ex B B' → Ok K w n Γ σ B' H' → Q b H') : SpEx (fun i => (S i).sp) vs H (fun v H' => ∃ b, v = .bl b ∧ Q b H') E0 := by
  refine ⟨i, w.d, w.ca, w.cs, n, B, a, o.entry, r, hp, .inl hc, fun x v n' B' H' hx hcc e' o' sl => ?_⟩
  rw [hres] at sl
  obtain ⟨v', h1, h2⟩ := sl
  cases h1
  cases h2
  have hn : n' = n := by
    rcases hcc with ⟨_, z⟩ | ⟨m, z1, z2⟩
    · exact z
    · rw [z1, z2, hc]; rfl
  subst hn
  exact ⟨f x, rfl, c _ B' H' (h x hx) e' (o.back o')⟩
theorem we_inO (i : ι) {neg : Bool} {C : Addr} {flds : β → Flds} (f : (S i).ρ → Bool) (hres : (S i).res = fun x => .im tBo (f x)) (hc : (S i).cost = 0) (up : α → β → (S i).A)
    (hup : ∀ {d B v1 v2 a b}, t.rep B v1 a → (tObj C flds).rep B v2 b → (S i).args.rep d B [v2, v1] (up a b)) {kk : Bool → NK}
    (h : WpE K w n Γ ta t (fun a n Γ => WpE K w n Γ tb (tObj C flds) (fun b n Γ => (S i).pre (up a b) ∧ ∀ x, (S i).post (up a b) x → kk (if neg then !(f x) else f x) n Γ))) :
    WpE K w n Γ (tOp (rInOwn neg C (SpEx fun i => (S i).sp)) ta tb) tBo kk := fun σ B H ok Q c =>
  h σ B H ok _ fun a v1 n1 Γ1 B1 H1 q1 e1 o1 r1 => q1 σ B1 H1 o1 _ fun b v2 n2 Γ2 B2 H2 ⟨hp, q⟩ e2 o2 r2 =>
    ⟨insV_obj r2 o2.ex, own_bool (k := fun b => kk (if neg then !b else b)) i f hres hc o2 (hup (t.mono e2 r1) r2) hp q fun b B' H' hk e' o' => c _ _ n2 Γ2 B' H' hk ((e1.trans e2).trans e') o' rfl⟩
theorem wt_truO (i : ι) {C : Addr} {flds : α → Flds} (f : (S i).ρ → Bool) (hres : (S i).res = fun x => .im tBo (f x)) (hc : (S i).cost = 0) (up : α → (S i).A) (hup : ∀ {d B v a}, (tObj C flds).rep B v a → (S i).args.rep d B [v] (up a)) {kt kf : NK}
    (h : WpE K w n Γ ta (tObj C flds) (fun a n Γ => (S i).pre (up a) ∧ ∀ x, (S i).post (up a) x → (f x = true → kt n Γ) ∧ (f x = false → kf n Γ))) : WpT K w n Γ (tTruOwn C (SpEx fun i => (S i).sp) ta) kt kf := fun σ B H ok Q ct cf =>
  h σ B H ok _ fun a v1 n1 Γ1 B1 H1 ⟨hp, q⟩ e1 o1 r1 =>
    ⟨insV_obj r1 o1.ex, own_bool (k := fun b n Γ => (b = true → kt n Γ) ∧ (b = false → kf n Γ)) i f hres hc o1 (hup r1) hp q fun b B' H' hk e' o' => by
      cases b with
      | true => exact ct n1 Γ1 B' H' (hk.1 rfl) (e1.trans e') o'
      | false => exact cf n1 Γ1 B' H' (hk.2 rfl) (e1.trans e') o'⟩
theorem we_boolO (i : ι) {C : Addr} {flds : α → Flds} (f : (S i).ρ → Bool) (hres : (S i).res = fun x => .im tBo (f x)) (hc : (S i).cost = 0) (up : α → (S i).A) (hup : ∀ {d B v a}, (tObj C flds).rep B v a → (S i).args.rep d B [v] (up a)) {kk : Bool → NK}
    (h : WpE K w n Γ ta (tObj C flds) (fun a n Γ => (S i).pre (up a) ∧ ∀ x, (S i).post (up a) x → kk (f x) n Γ)) : WpE K w n Γ (tCB (rBoolOwn C (SpEx fun i => (S i).sp)) (tCons ta tNil)) tBo kk := fun σ B H ok Q c =>
  h σ B H ok _ fun a v1 n1 Γ1 B1 H1 ⟨hp, q⟩ e1 o1 r1 =>
    ⟨v1, rfl, insV_obj r1 o1.ex, own_bool (k := kk) i f hres hc o1 (hup r1) hp q fun b B' H' hk e' o' => c _ _ n1 Γ1 B' H' hk (e1.trans e') o' rfl⟩
/-- x == y by the left one's own method, of two data -/
theorem we_cmpO (i : ι) {C : Addr} {flds : α → Flds} (f : (S i).ρ → Bool) (hres : (S i).res = fun x => .im tBo (f x)) (hc : (S i).cost = 0) (up : α → β → (S i).A)
    (hup : ∀ {d B v1 v2 a b}, (tObj C flds).rep B v1 a → u.rep B v2 b → (S i).args.rep d B [v1, v2] (up a b)) (hy : ∀ {B v b H}, u.rep B v b → Ex B H → ∃ t, TyL K H v t ∧ PySem.W.notFirst K C t = true) {kk : Bool → NK}
    (h : WpE K w n Γ ta (tObj C flds) (fun a n Γ => WpE K w n Γ tb u (fun b n Γ => (S i).pre (up a b) ∧ ∀ x, (S i).post (up a b) x → kk (f x) n Γ))) :
    WpE K w n Γ (tOp (rCmpOwn K C (SpEx fun i => (S i).sp)) ta tb) tBo kk := fun σ B H ok Q c =>
  h σ B H ok _ fun a v1 n1 Γ1 B1 H1 q1 e1 o1 r1 => q1 σ B1 H1 o1 _ fun b v2 n2 Γ2 B2 H2 ⟨hp, q⟩ e2 o2 r2 => by
    refine ⟨insV_obj ((tObj C flds).mono e2 r1) o2.ex, hy r2 o2.ex, i, w.d, w.ca, w.cs, n2, B2, up a b, o2.entry, hup ((tObj C flds).mono e2 r1) r2, hp, .inl hc, fun x v n' B' H' hx hcc e' o' sl => ?_⟩
    rw [hres] at sl
    obtain ⟨v', h1, h2⟩ := sl
    cases h1
    have hn : n' = n2 := by
      rcases hcc with ⟨_, z⟩ | ⟨m, z1, z2⟩
      · exact z
      · rw [z1, z2, hc]; rfl
    subst hn
    exact c _ _ n' Γ2 B' H' (q x hx) ((e1.trans e2).trans e') (o2.back o') h2
theorem tyL_obj {C : Addr} {flds : α → Flds} {B H : Hp} {v : V} {x : α} (h : (tObj C flds).rep B v x) (e : Ex B H) : ∃ t, TyL K H v t ∧ PySem.W.notFirst K C t = true := by
  obtain ⟨a, dx, fs, rfl, hs⟩ := insV_obj h e
  exact ⟨_, .own hs, by unfold PySem.W.notFirst; simp⟩
end
end TL

/-! # TL: own classes: items, properties, texts, !=, isinstance; f-strings; dict of pairs -/
namespace NeK
open PySem PySem.Spec PyProof.Rows
section
variable {M : Model} {prog : Program} {w : World} {A : Around} {E : Value → Shared → Prop} {s : Shared} {K : PySem.W.Frag} {x C f L : Addr} {b tb : Value} {ox : Obj} {od : Option Obj} {h₀ : Heap} {m : Str → Option Value}
theorem ifBound_objNe {args : List Value} {Q : Option Value → Shared → Prop} (X : K.In s.heap) (I : PySem.W.InstAt s.heap x ox C od) (hs : PySem.W.findIn K (.ref C) "__ne__" = some (some (.builtin "object.__ne__")))
    (h : wpAny M A (call (.builtin "object.__ne__") (.ref x :: args)) (fun v => Q (some v)) E s) : wpAny M A (callSpecialIfBound? (.ref x) "__ne__" args) Q E s := by
  simp only [callSpecialIfBound?, bindSpecialIfBound?]
  refine wpAny_holding (wpAny_bind (wpAny_bind (wpAny_bind (I.type.here ((PySem.W.looks_findIn X hs).here ?_)))))
  refine wpAny_bind (wpAny_askSetting (wpAny_ite ?_))
  have fin : wpAny M A (call (.builtin "object.__ne__") ([.ref x] ++ args) >>= fun v => pure (some v)) Q E s := wpAny_bind (wpAny_mono h (fun v s' h' => wpAny_pure h') fun _ _ h' => h')
  split
  · exact wpAny_bind (wpAny_of_eq (F.cmp_object.ne.bind _) (wpAny_pure (by exact fin)))
  · exact wpAny_tryCatch (wpAny_bind (wpAny_of_eq (F.cmp_object.ne.bind _) (wpAny_pure (by exact fin))))
theorem entry_ne (hu : A.units < cLine) (X : K.In s.heap) (I : PySem.W.InstAt s.heap x ox C od) (hs : PySem.W.findIn K (.ref C) "__eq__" = some (some (.ref f))) (hf : PySem.W.isFn K (.ref f) = true) {Q : Fin → Shared → Prop}
    (hcall : wpAny (model prog w) A (call (.ref f) [.ref x, b]) (fun v s' => ∃ c, v = .bool c ∧ Q (.done (.ret (.bool (!c)))) s') E s) :
    wpAny (model prog w) A (Builtin.«object.__ne__» ⟨[.ref x, b], []⟩) Q E s := by
  unfold Builtin.«object.__ne__»
  repeat (first
    | with_reducible refine wpAny_cRoomFor hu ?_
    | (refine wpAny_bind (m := callSpecialIfBound? (.ref x) (Str.ofString "__eq__") [b])
        (PySem.W.ifBound_K X I hs hf (wpAny_mono hcall (fun r s' hr => by
          obtain ⟨c, rfl, hq⟩ := hr
          repeat (first | exact hq | exact wpAny_pure hq | exact wpAny_truthy_bool hq | (refine wpAny_bind (m := truthy (.bool _)) (wpAny_truthy_bool ?_)) | wp_step)) fun _ _ e => e)))
    | wp_step)
theorem ne_K {Q : Value → Shared → Prop} (hu : A.units + 1 < cLine) (F' : PyProof.Rows.Fr h₀ L s.heap m) (X₀ : K.In h₀) (I : PySem.W.InstAt s.heap x ox C od) (hb : PySem.W.Looks (model prog w) s.heap (typeOf b) tb) (hn : PySem.W.notFirst K C tb = true)
    (hm : PySem.W.mroIn K C (.type "object") = some true) (hne : PySem.W.findIn K (.ref C) "__ne__" = some (some (.builtin "object.__ne__"))) (hs : PySem.W.findIn K (.ref C) "__eq__" = some (some (.ref f))) (hf : PySem.W.isFn K (.ref f) = true)
    (h : wpAny (model prog w) A.in1 (call (.ref f) [.ref x, b]) (fun v s' => ∃ c, v = .bool c ∧ Q (.bool (!c)) s') E s) : wpAny (model prog w) A (richCompare .NotEq (.ref x) b) Q E s := by
  have X := X₀.keeps F'.keep
  have one : wpAny (model prog w) A (tryCompare (.ref x) "__ne__" b) (fun r s' => ∃ v, r = some v ∧ Q v s') E s := by
    unfold tryCompare
    refine wpAny_bind (ifBound_objNe X I hne (wpAny_call (codeAny_call_builtin F.cmp_object.ne.plain F.cmpEntry_ne (PySem.W.check_slot F.cmpKind_ne F.cmpSplit_ne (I.type.andThen (PySem.W.looks_mroIn X hm)) (F.cmpArgs_ne _ _)
      (entry_ne (A := A.in1) hu X I hs hf (wpAny_mono h (fun v s' hv => ?_) fun _ _ e => e))))))
    obtain ⟨c, rfl, hq⟩ := hv
    first | exact ⟨c, rfl, wpAny_pure ⟨_, rfl, hq⟩⟩ | exact ⟨c, rfl, wpAny_pure (wpAny_pure ⟨_, rfl, hq⟩)⟩
  unfold richCompare
  simp only [oneThing_ref, cmpInfo_NotEq]
  refine wpAny_holding (wpAny_bind (wpAny_cRoomFor (Nat.lt_of_succ_lt hu) ?_))
  refine wpAny_bind (I.type.here (wpAny_bind (hb.here ?_)))
  split
  · rename_i q
    have e : PySem.W.subIn K tb (.ref C) = some false := by
      rcases Bool.or_eq_true_iff.mp hn with e | e
      · rw [beq_iff_eq.mp e] at q; simp at q
      · exact beq_iff_eq.mp e
    refine wpAny_bind ((PySem.W.looks_subIn X e).here ?_)
    simp only [Bool.false_eq_true, if_false]
    refine wpAny_bind (wpAny_mono one (fun r s' z => ?_) fun _ _ e => e)
    obtain ⟨v, rfl, hq⟩ := z
    exact wpAny_pure hq
  · refine wpAny_bind (wpAny_pure ?_)
    simp only [Bool.false_eq_true, if_false]
    refine wpAny_bind (wpAny_mono one (fun r s' z => ?_) fun _ _ e => e)
    obtain ⟨v, rfl, hq⟩ := z
    exact wpAny_pure hq
end
end NeK
namespace TL
open PySem L2 PyProof.Rows PySem.Calls
open PySem.W (Frag)
/-- what isinstance asks of an own class and its name -/
structure IsC (K : Frag) (mg : Str → Option Value) (C : Addr) (x : Str) : Prop where
  glob : mg x = some (.ref C)
  cl : Cls K C
  ha : PySem.W.findIn K (.ref C) "__class__" = some (some (.builtin "object.__class__"))
  hn : PySem.W.specialIn K (.builtin "object.__class__") "__get__" = some (some (.builtin "getset_descriptor.__get__"))
  htk : PySem.W.takesIn K (.builtin "object.__class__") = some true
  hm : PySem.W.mroIn K C (.type "object") = some true
  hne : PySem.W.findIn K (.ref C) "__ne__" = some (some (.builtin "object.__ne__"))
  ty : PySem.W.typeIn K (.ref C) = some (.type "type")
  si : PySem.W.subIn K (.ref C) (.type "int") = some false
  fm : PySem.W.findIn K (.ref C) "__format__" = some (some (.builtin "object.__format__"))
/-- a property, by its promise -/
structure PropBy (P : Program) (w : World) (K : Frag) (mg : Str → Option Value) (base : Heap) (CX : CXT) (k : Nat) (C : Addr) (f : Str) (ps : List Str) (sp : Sp) : Prop where
  cl : Cls K C
  ex : ∃ p g fd, PropOf K C f p g ∧ FnOk P w K mg base CX k g fd ps sp ∧ Binds K fd ps []
/-- __getitem__, by its promise -/
structure ItmBy (P : Program) (w : World) (K : Frag) (mg : Str → Option Value) (base : Heap) (CX : CXT) (k : Nat) (C : Addr) (m : Str) (ps : List Str) (sp : Sp) : Prop where
  cl : Cls K C
  ex : ∃ f fd, Meth K C m f ∧ PySem.W.fnIn K f = true ∧ FnOk P w K mg base CX k f fd ps sp ∧ Binds K fd ps []
section
variable {X : Cx} {k : Nat} {C : Addr} {m f : Str} {ps : List Str} {sp : Sp} {pins : List (Addr × Obj)} {σ : L2.St} {H : Hp} {s : Shared} {a b e : Expr} {ta tb : TE} {pos : Pos}
def rIxOwn (C : Addr) (sp : Sp) : R2 := fun x y H Q => InsV C x H ∧ sp [x, y] H Q E0
theorem pe_ixOwn (c : ItmBy X.prog X.w X.K X.mg X.base CX0 k C "__getitem__" ps sp) (hr : Room (k + 1) X.A) (ha : PE X a ta) (hb : PE X b tb) (hs : ∀ v i, subscripted b true v i = runValue (.builtin "lifetime.subscript" ⟨[v, i], []⟩)) :
    PE X (.Subscript a b pos) (tOp (rIxOwn C sp) ta tb) := by
  refine ⟨fun pins s σ H Q I h => ?_⟩
  refine Subscript_ (binT ha hb I h fun v u s2 x y H2 I2 rx ry q => ?_)
  obtain ⟨⟨z, dx, fs, hx, hz⟩, q⟩ := q
  subst hx
  cases (show v = Value.ref z from rx)
  obtain ⟨ox, od, J⟩ := ins_look I2 hz
  obtain ⟨mm, hF⟩ := I2.fr
  obtain ⟨f, fd, h1, h2, h3, h4⟩ := c.ex
  obtain ⟨f', g1, g2, g3⟩ := run_ownA (A := X.A.in1) ⟨c.cl, f, fd, h1, h3, h4⟩ hr.in1 rfl I2
  have : f' = f := by
    rw [h1.at_] at g1
    cases g1
    rfl
  subst this
  exact PySem.W.sub_K hF I2.ok.mod.kin J g1 h2 g2 (g3 [.ref z, y] [.ref z, u] _ (.cons rfl (.cons ry .nil)) q) (hs _ _)
theorem pe_propB (he : PE X e ta) (c : PropBy X.prog X.w X.K X.mg X.base CX0 k C f ps sp) (hr : Room (k + 1) X.A) (hab : attributeBase e f X.env (eval e X.env) = eval e X.env := by rfl) : PE X (.Attribute e f pos) (tProp C sp [] E0 ta) := by
  obtain ⟨p, g, fd, h1, h2, h3⟩ := c.ex
  exact pe_prop he c.cl h1 h2 hr h3 .nil pass0 hab
/-- str(o) -/
def rStrOwn (C : Addr) (sp : Sp) : List V → Hp → VK → Prop := fun xs H Q => ∃ x, xs = [x] ∧ InsV C x H ∧ sp [x] H (fun v H' => ∃ z, v = .str z ∧ Q (.str z) H') E0
theorem call_strOwn (c : MethBy X.prog X.w X.K X.mg X.base CX0 k C "__str__" ps sp) (hr : Room (k + 2) X.A) : CallR X (.type "str") (rStrOwn C sp) := by
  intro pins s σ H xs us Q I rx h
  obtain ⟨x, hx, ⟨a, dx, fs, hxa, ha⟩, q⟩ := h
  subst hx; subst hxa
  obtain rfl : us = [Value.ref a] := by
    cases rx with
    | cons r1 r2 =>
      cases r2
      cases (show _ = Value.ref a from r1)
      rfl
  obtain ⟨ox, od, J⟩ := ins_look I ha
  obtain ⟨f, h1, h2, h3⟩ := run_ownA (A := X.A.in1.in1) c hr.in1.in1 rfl I
  refine PySem.W.kso_call hr.in1.in1.units0 I.kIn J h1 h2 (wpAny_mono (h3 [.ref a] [.ref a] _ (.cons rfl .nil) q) (fun r s' z => ?_) fun _ _ e => e)
  obtain ⟨v, H', I', rv, z, rfl, q'⟩ := z
  obtain ⟨t, rfl⟩ := (show ∃ t, r = Value.str z t from rv)
  exact ⟨.str z, H', I', ⟨t, rfl⟩, q'⟩
/-- x != y by the left one's own __eq__ -/
def rNeOwn (K : Frag) (C : Addr) (sp : Sp) : R2 := fun x y H Q => InsV C x H ∧ (∃ t, TyL K H y t ∧ PySem.W.notFirst K C t = true) ∧ sp [x, y] H (fun v H' => ∃ b, v = .bl b ∧ Q (.bl (!b)) H') E0
theorem op_neOwn (K : Frag) (hK : X.K = K) {mg : Str → Option Value} {x : Str} (ic : IsC K mg C x) (c : MethBy X.prog X.w X.K X.mg X.base CX0 k C "__eq__" ps sp) (hr : Room (k + 1) X.A) : OpR X (compareOp .NotEq) (rNeOwn K C sp) := by
  subst hK
  intro pins s σ H x y v u Q I rx ry ⟨⟨a, dx, fs, hx, ha⟩, ⟨t, ht, hn⟩, q⟩
  subst hx
  cases (show v = Value.ref a from rx)
  obtain ⟨ox, od, J⟩ := ins_look I ha
  obtain ⟨mm, hF⟩ := I.fr
  obtain ⟨f, h1, h2, h3⟩ := run_ownA (A := X.A.in1) c hr.in1 rfl I
  have hu : X.A.units + 1 < cLine := hr.in1.units0
  show wpAny _ _ (richCompare .NotEq _ _) _ _ _
  refine NeK.ne_K hu hF I.ok.mod.kin J (ht.looks I ry) hn ic.hm ic.hne h1 h2 (wpAny_mono (h3 [.ref a, y] [.ref a, u] _ (.cons rfl (.cons ry .nil)) q) (fun r s' z => ?_) fun _ _ e => e)
  obtain ⟨v, H', I', rv, b, rfl, q'⟩ := z
  cases (show r = Value.bool b from rv)
  exact ⟨b, rfl, .bl (!b), H', I', rfl, q'⟩
/-- the name of an own class -/
theorem pe_own {mg : Str → Option Value} {x : Str} (hm : X.mg = mg) (ic : IsC X.K mg C x) (hg : Gl X x) (hd : (x == ("__debug__" : Str)) = false := by decide) : PE X (.Name x pos) (tC (.ref C)) := by
  subst hm
  exact pe_glob hg ic.glob rfl hd
def rStrI : List V → Hp → VK → Prop := fun xs H Q => ∃ i : Int, xs = [.int i] ∧ i.natAbs.log2 < 1920 ∧ Q (.str (toString i)) H
theorem call_strI : CallR X (.type "str") rStrI := call_str_int
def rStarts : V → List V → Hp → VK → Prop := fun x xs H Q => ∃ a b, x = .str a ∧ xs = [.str b] ∧ Q (.bl (Txt.startswith a b)) H
theorem mt_starts : MtR X "str.startswith" rStarts := mt_startswith
def rDictP (K : Frag) : List V → Hp → VK → Prop := fun xs H Q => ∃ (a : Addr) (ps : List Addr) (kvs : List (Key × V)), xs = [.ref a] ∧ SqL K H a (ps.map V.ref) ∧ Paired (fun p kv => SqT K H p [kV kv.1, kv.2]) ps kvs ∧
    ∀ p, H p = none → Q (.ref p) (upd H p (.dK (mergeK [] kvs)))
theorem call_dictK (K : Frag) (hK : X.K = K) (hcalm : X.calm = true) : CallR X (.type "dict") (rDictP K) := hK ▸ call_dictP hcalm
def tJn (ts : List TE) : TE := fun σ H Q => tJs ts Str.empty σ H fun out H1 => Q (.str out) H1
theorem pe_fstr {v1 v2 : Expr} {rest : List Expr} {ts : List TE} (h : PJ X (v1 :: v2 :: rest) ts) : PE X (.JoinedStr (v1 :: v2 :: rest) pos) (tJn ts) := pe_joined h
end
/-! ### rules -/
section
variable {K : Frag} {w : Wd} {n : Option Nat} {Γ : Env} {α β γ δ ρ A : Type} {t : Ty α} {u : Ty β} {ta tb te : TE}
theorem own_val {S : FS K} {s : Ty S.ρ} (hres : S.res = fun x => .im s x) (hc : S.cost = 0) {a : S.A} {vs : List V} {σ : L2.St} {B H : Hp} {Q : VK} {E : XK} {k : S.ρ → NK} (o : Ok K w n Γ σ B H) (r : S.args.rep w.d B vs a) (hp : S.pre a) (h : ∀ x, S.post a x → k x n Γ)
    (c : ∀ x v B' H', k x n Γ → Ex B B' → Ok K w n Γ σ B' H' → s.rep B' v x → Q v H') : S.sp vs H Q E := by
  refine ⟨w.d, w.ca, w.cs, n, B, a, o.entry, r, hp, .inl hc, fun x v n' B' H' hx hcc e' o' sl => ?_⟩
  rw [hres] at sl
  obtain ⟨v', h1, h2⟩ := sl
  cases h1
  have hn : n' = n := by
    rcases hcc with ⟨_, z⟩ | ⟨m, z1, z2⟩
    · exact z
    · rw [z1, z2, hc]; rfl
  subst hn
  exact c x v B' H' (h x hx) e' (o.back o') h2
theorem we_prop {S : FS K} {sp : Sp} (sub : ∀ vs H Q X, S.sp vs H Q X → sp vs H Q X) {C : Addr} {flds : α → Flds} {s : Ty S.ρ} (hres : S.res = fun x => .im s x) (hc : S.cost = 0) (up : α → S.A) (hup : ∀ {d B v a}, (tObj C flds).rep B v a → S.args.rep d B [v] (up a)) {E : XK} {k : S.ρ → NK}
    (h : WpE K w n Γ ta (tObj C flds) (fun a n Γ => S.pre (up a) ∧ ∀ x, S.post (up a) x → k x n Γ)) : WpE K w n Γ (tProp C sp [] E ta) s k := fun σ B H ok Q c =>
  h σ B H ok _ fun a v1 n1 Γ1 B1 H1 ⟨hp, q⟩ e1 o1 r1 => by
    obtain ⟨z, dx, fs, rfl, hz⟩ := insV_obj r1 o1.ex
    exact ⟨z, dx, fs, rfl, hz, sub _ _ _ _ (own_val (k := k) hres hc o1 (hup r1) hp q fun x v B' H' hk e' o' r' => c x v n1 Γ1 B' H' hk (e1.trans e') o' r')⟩
theorem we_ixO {S : FS K} {sp : Sp} (sub : ∀ vs H Q X, S.sp vs H Q X → sp vs H Q X) {C : Addr} {flds : α → Flds} {s : Ty S.ρ} (hres : S.res = fun x => .im s x) (hc : S.cost = 0) (up : α → β → S.A) (hup : ∀ {d B v1 v2 a b}, (tObj C flds).rep B v1 a → u.rep B v2 b → S.args.rep d B [v1, v2] (up a b)) {k : S.ρ → NK}
    (h : WpE K w n Γ ta (tObj C flds) (fun a n Γ => WpE K w n Γ tb u (fun b n Γ => S.pre (up a b) ∧ ∀ x, S.post (up a b) x → k x n Γ))) : WpE K w n Γ (tOp (rIxOwn C sp) ta tb) s k := fun σ B H ok Q c =>
  h σ B H ok _ fun a v1 n1 Γ1 B1 H1 q1 e1 o1 r1 => q1 σ B1 H1 o1 _ fun b v2 n2 Γ2 B2 H2 ⟨hp, q⟩ e2 o2 r2 =>
    ⟨insV_obj ((tObj C flds).mono e2 r1) o2.ex, sub _ _ _ _ (own_val (k := k) hres hc o2 (hup ((tObj C flds).mono e2 r1) r2) hp q fun x v B' H' hk e' o' r' => c x v n2 Γ2 B' H' hk ((e1.trans e2).trans e') o' r')⟩
theorem we_strO {S : FS K} {sp : Sp} (sub : ∀ vs H Q X, S.sp vs H Q X → sp vs H Q X) {C : Addr} {flds : α → Flds} (f : S.ρ → List Nat) (hres : S.res = fun x => .im tX (f x)) (hc : S.cost = 0) (up : α → S.A) (hup : ∀ {d B v a}, (tObj C flds).rep B v a → S.args.rep d B [v] (up a)) {k : List Nat → NK}
    (h : WpE K w n Γ ta (tObj C flds) (fun a n Γ => S.pre (up a) ∧ ∀ x, S.post (up a) x → k (f x) n Γ)) : WpE K w n Γ (tCB (rStrOwn C sp) (tCons ta tNil)) tX k := fun σ B H ok Q c =>
  h σ B H ok _ fun a v1 n1 Γ1 B1 H1 ⟨hp, q⟩ e1 o1 r1 =>
    ⟨v1, rfl, insV_obj r1 o1.ex, sub _ _ _ _ (by
      refine ⟨w.d, w.ca, w.cs, n1, B1, up a, o1.entry, hup r1, hp, .inl hc, fun x v n' B' H' hx hcc e' o' sl => ?_⟩
      rw [hres] at sl
      obtain ⟨v', h1, h2⟩ := sl
      cases h1
      have hn : n' = n1 := by
        rcases hcc with ⟨_, z⟩ | ⟨m, z1, z2⟩
        · exact z
        · rw [z1, z2, hc]; rfl
      subst hn
      cases h2
      exact ⟨_, rfl, c _ _ _ Γ1 B' H' (q x hx) (e1.trans e') (o1.back o') rfl⟩)⟩
theorem we_neO {S : FS K} {sp : Sp} (sub : ∀ vs H Q X, S.sp vs H Q X → sp vs H Q X) {C : Addr} {flds : α → Flds} (f : S.ρ → Bool) (hres : S.res = fun x => .im tBo (f x)) (hc : S.cost = 0) (up : α → β → S.A)
    (hup : ∀ {d B v1 v2 a b}, (tObj C flds).rep B v1 a → u.rep B v2 b → S.args.rep d B [v1, v2] (up a b)) (hy : ∀ {B v b H}, u.rep B v b → Ex B H → ∃ t, TyL K H v t ∧ PySem.W.notFirst K C t = true) {kk : Bool → NK}
    (h : WpE K w n Γ ta (tObj C flds) (fun a n Γ => WpE K w n Γ tb u (fun b n Γ => S.pre (up a b) ∧ ∀ x, S.post (up a b) x → kk (!f x) n Γ))) :
    WpE K w n Γ (tOp (rNeOwn K C sp) ta tb) tBo kk := fun σ B H ok Q c =>
  h σ B H ok _ fun a v1 n1 Γ1 B1 H1 q1 e1 o1 r1 => q1 σ B1 H1 o1 _ fun b v2 n2 Γ2 B2 H2 ⟨hp, q⟩ e2 o2 r2 => by
    refine ⟨insV_obj ((tObj C flds).mono e2 r1) o2.ex, hy r2 o2.ex, sub _ _ _ _ ⟨w.d, w.ca, w.cs, n2, B2, up a b, o2.entry, hup ((tObj C flds).mono e2 r1) r2, hp, .inl hc, fun x v n' B' H' hx hcc e' o' sl => ?_⟩⟩
    rw [hres] at sl
    obtain ⟨v', h1, h2⟩ := sl
    cases h1
    cases h2
    have hn : n' = n2 := by
      rcases hcc with ⟨_, z⟩ | ⟨m, z1, z2⟩
      · exact z
      · rw [z1, z2, hc]; rfl
    subst hn
    exact ⟨_, rfl, c _ _ n' Γ2 B' H' (q x hx) ((e1.trans e2).trans e') (o2.back o') rfl⟩
/-- x == y by the left one's own method, the promise by what it keeps -/
theorem we_eqO {S : FS K} {sp : Sp} (sub : ∀ vs H Q X, S.sp vs H Q X → sp vs H Q X) {C : Addr} {flds : α → Flds} (f : S.ρ → Bool) (hres : S.res = fun x => .im tBo (f x)) (hc : S.cost = 0) (up : α → β → S.A)
    (hup : ∀ {d B v1 v2 a b}, (tObj C flds).rep B v1 a → u.rep B v2 b → S.args.rep d B [v1, v2] (up a b)) (hy : ∀ {B v b H}, u.rep B v b → Ex B H → ∃ t, TyL K H v t ∧ PySem.W.notFirst K C t = true) {kk : Bool → NK}
    (h : WpE K w n Γ ta (tObj C flds) (fun a n Γ => WpE K w n Γ tb u (fun b n Γ => S.pre (up a b) ∧ ∀ x, S.post (up a b) x → kk (f x) n Γ))) :
    WpE K w n Γ (tOp (rCmpOwn K C sp) ta tb) tBo kk := fun σ B H ok Q c =>
  h σ B H ok _ fun a v1 n1 Γ1 B1 H1 q1 e1 o1 r1 => q1 σ B1 H1 o1 _ fun b v2 n2 Γ2 B2 H2 ⟨hp, q⟩ e2 o2 r2 => by
    refine ⟨insV_obj ((tObj C flds).mono e2 r1) o2.ex, hy r2 o2.ex, sub _ _ _ _ ⟨w.d, w.ca, w.cs, n2, B2, up a b, o2.entry, hup ((tObj C flds).mono e2 r1) r2, hp, .inl hc, fun x v n' B' H' hx hcc e' o' sl => ?_⟩⟩
    rw [hres] at sl
    obtain ⟨v', h1, h2⟩ := sl
    cases h1
    have hn : n' = n2 := by
      rcases hcc with ⟨_, z⟩ | ⟨m, z1, z2⟩
      · exact z
      · rw [z1, z2, hc]; rfl
    subst hn
    exact c _ _ n' Γ2 B' H' (q x hx) ((e1.trans e2).trans e') (o2.back o') h2
theorem we_inO' {S : FS K} {sp : Sp} (sub : ∀ vs H Q X, S.sp vs H Q X → sp vs H Q X) {neg : Bool} {C : Addr} {flds : β → Flds} (f : S.ρ → Bool) (hres : S.res = fun x => .im tBo (f x)) (hc : S.cost = 0) (up : α → β → S.A)
    (hup : ∀ {d B v1 v2 a b}, t.rep B v1 a → (tObj C flds).rep B v2 b → S.args.rep d B [v2, v1] (up a b)) {kk : Bool → NK}
    (h : WpE K w n Γ ta t (fun a n Γ => WpE K w n Γ tb (tObj C flds) (fun b n Γ => S.pre (up a b) ∧ ∀ x, S.post (up a b) x → kk (if neg then !(f x) else f x) n Γ))) :
    WpE K w n Γ (tOp (rInOwn neg C sp) ta tb) tBo kk := fun σ B H ok Q c =>
  h σ B H ok _ fun a v1 n1 Γ1 B1 H1 q1 e1 o1 r1 => q1 σ B1 H1 o1 _ fun b v2 n2 Γ2 B2 H2 ⟨hp, q⟩ e2 o2 r2 => by
    refine ⟨insV_obj r2 o2.ex, sub _ _ _ _ ⟨w.d, w.ca, w.cs, n2, B2, up a b, o2.entry, hup (t.mono e2 r1) r2, hp, .inl hc, fun x v n' B' H' hx hcc e' o' sl => ?_⟩⟩
    rw [hres] at sl
    obtain ⟨v', h1, h2⟩ := sl
    cases h1
    cases h2
    have hn : n' = n2 := by
      rcases hcc with ⟨_, z⟩ | ⟨m, z1, z2⟩
      · exact z
      · rw [z1, z2, hc]; rfl
    subst hn
    exact ⟨_, rfl, c _ _ n' Γ2 B' H' (q x hx) ((e1.trans e2).trans e') (o2.back o') rfl⟩
/-! an instance of one's own class, or something else: None, an int, a text, a tuple -/
def tOth (C : Addr) (flds : α → Flds) : Ty (Option α) := ⟨fun B v x => match x with
    | some y => (tObj C flds).rep B v y
    | none => v = .non ∨ (∃ i, v = .int i) ∨ (∃ z, v = .str z) ∨ ∃ a xs, v = .ref a ∧ B a = some (.tup xs), fun {B B' v x} e h => by
  cases x with
  | some y => exact (tObj C flds).mono e h
  | none =>
    rcases h with h | h | h | ⟨a, xs, h1, h2⟩
    · exact .inl h
    · exact .inr (.inl h)
    · exact .inr (.inr (.inl h))
    · exact .inr (.inr (.inr ⟨a, xs, h1, e _ _ h2⟩))⟩
/-- what else there is, known to be no instance -/
theorem oth_ty {C : Addr} {flds : α → Flds} {B H : Hp} {v : V} (h : (tOth C flds).rep B v none) (e : Ex B H) : ∃ tn : String, TyX K H v (.type tn) ∧ (tn = "NoneType" ∨ tn = "int" ∨ tn = "str" ∨ tn = "tuple") := by
  rcases h with h | ⟨i, h⟩ | ⟨z, h⟩ | ⟨a, xs, h, h2⟩
  · subst h; exact ⟨_, .base .non, .inl rfl⟩
  · subst h; exact ⟨_, .base (.int _), .inr (.inl rfl)⟩
  · subst h; exact ⟨_, .base (.str _), .inr (.inr (.inl rfl))⟩
  · subst h; exact ⟨_, .base (.tup (e _ _ h2)), .inr (.inr (.inr rfl))⟩
theorem sub_bi {C : Addr} {tn : String} (h : tn = "NoneType" ∨ tn = "int" ∨ tn = "str" ∨ tn = "tuple") : PySem.W.subIn K (.type tn) (.ref C) = some false := by
  have e : fastBuiltinMro tn = some [.type tn, .type "object"] := by
    rcases h with rfl | rfl | rfl | rfl <;> decide +kernel
  show (fastBuiltinMro tn).map (·.contains (.ref C)) = some false
  rw [e]
  first
    | rfl
    | simp
theorem tyL_oth {C : Addr} {flds : α → Flds} {B H : Hp} {v : V} {x : Option α} (h : (tOth C flds).rep B v x) (e : Ex B H) : ∃ t, TyL K H v t ∧ PySem.W.notFirst K C t = true := by
  cases x with
  | some y => exact tyL_obj h e
  | none =>
    obtain ⟨tn, h1, h2⟩ := oth_ty (K := K) h e
    refine ⟨_, .kit h1, ?_⟩
    unfold PySem.W.notFirst
    rw [sub_bi h2]
    simp
theorem kit_bi {mg : Str → Option Value} {x : Str} {C : Addr} (ic : IsC K mg C x) {tn : String} (h : tn = "NoneType" ∨ tn = "int" ∨ tn = "str" ∨ tn = "tuple") : PySem.W.kitOne K (.type tn) (.ref C) = some false := by
  have hc : (PySem.W.clsIn K C).isSome = true := by
    obtain ⟨cd, hc, _⟩ := PySem.W.any_some ic.cl.hd
    rw [hc]
    rfl
  unfold PySem.W.kitOne PySem.W.kitCls
  rw [if_neg (by intro z; cases beq_iff_eq.mp z)]
  show (if _ then _ else _) = _
  rw [if_pos (by rw [hc, ic.ty]; simp)]
  exact sub_bi h
theorem we_isOwn {mg : Str → Option Value} {x : Str} {C : Addr} {flds : α → Flds} (ic : IsC K mg C x) {k : Bool → NK}
    (h : WpE K w n Γ ta (tOth C flds) (fun x n Γ => k x.isSome n Γ)) : WpE K w n Γ (tCB (rIsi K) (tCons ta (tCons (tC (.ref C)) tNil))) tBo k := fun σ B H ok Q c =>
  h σ B H ok _ fun x v n1 Γ1 B1 H1 q e o r => by
    cases x with
    | some y =>
      obtain ⟨a, dx, fs, rfl, hs⟩ := insV_obj r o.ex
      exact ⟨_, .ref C, .ref C, .ref C, true, rfl, .own C, .base (.ins hs ic.cl ic.ha ic.hn ic.htk ic.hm), by unfold PySem.W.kitOne; simp, c _ _ n1 Γ1 B1 H1 q e o rfl⟩
    | none =>
      obtain ⟨tn, h1, h2⟩ := oth_ty (K := K) r o.ex
      exact ⟨_, .ref C, .type tn, .ref C, false, rfl, .own C, h1, kit_bi ic h2, c _ _ n1 Γ1 B1 H1 q e o rfl⟩
theorem View.isSome {C : Addr} {flds : α → Flds} {i : Nat} {x : α} (h : Γ[i]? = Option.some (.im (tOth C flds) (Option.some x))) : View K w n Γ n (Γ.set i (.im (tObj C flds) x)) := fun σ B H ok => by
  obtain ⟨v, h1, h2⟩ := ok.sl i _ h
  have o2 := ok.setIm (i := i) (t := tObj C flds) (x := x) (v := v) h2
  rw [slot_same h1] at o2
  exact ⟨B, Ex.refl _, o2⟩
/-! as something of either kind -/
theorem we_othO {C : Addr} {flds : α → Flds} {k : Option α → NK} (h : WpE K w n Γ te (tObj C flds) (fun x n Γ => k (some x) n Γ)) : WpE K w n Γ te (tOth C flds) k := fun σ B H ok Q c => h σ B H ok Q fun x v n' Γ' B' H' q e o r => c (some x) v n' Γ' B' H' q e o r
theorem we_othI {C : Addr} {flds : α → Flds} {k : Option α → NK} (h : WpE K w n Γ te tI (fun x n Γ => k none n Γ)) : WpE K w n Γ te (tOth C flds) k := fun σ B H ok Q c => h σ B H ok Q fun x v n' Γ' B' H' q e o r => c none v n' Γ' B' H' q e o (.inr (.inl ⟨x, r⟩))
theorem we_othX {C : Addr} {flds : α → Flds} {k : Option α → NK} (h : WpE K w n Γ te tX (fun x n Γ => k none n Γ)) : WpE K w n Γ te (tOth C flds) k := fun σ B H ok Q c => h σ B H ok Q fun x v n' Γ' B' H' q e o r => c none v n' Γ' B' H' q e o (.inr (.inr (.inl ⟨_, r⟩)))
theorem we_othN {C : Addr} {flds : α → Flds} {k : Option α → NK} (h : k none n Γ) : WpE K w n Γ (tC .non) (tOth C flds) k := fun σ B H ok Q c => c none _ n Γ B H h (Ex.refl _) ok (.inl rfl)
theorem we_othU {C : Addr} {flds : γ → Flds} {k : Option γ → NK} (h : WpE K w n Γ te (tP t u) (fun x n Γ => k none n Γ)) : WpE K w n Γ te (tOth C flds) k := fun σ B H ok Q c => h σ B H ok Q fun x v n' Γ' B' H' q e o ⟨a, p, q', hv, hs, _⟩ => c none v n' Γ' B' H' q e o (.inr (.inr (.inr ⟨a, _, hv, hs⟩)))
/-! texts of numbers, f-strings -/
def txI (i : Int) : List Nat := (Str.ofString (toString i)).cps.toList
theorem txI_len {i : Int} (h : i.natAbs.log2 < 1920) : (txI i).length ≤ 1921 := by
  have e := int_text_length_le (k := 1920) (by decide) h
  have : (txI i).length = (Str.ofString (toString i)).length := by unfold txI Str.length; simp
  rw [this, PySem.ofString_length]
  exact e
theorem txI_S (i : Int) : SX.S (txI i) = Str.ofString (toString i) := SX.S_tl _
theorem we_strI {k : List Nat → NK} (h : WpE K w n Γ ta tI (fun i n Γ => i.natAbs.log2 < 1920 ∧ k (txI i) n Γ)) : WpE K w n Γ (tCB rStrI (tCons ta tNil)) tX k := fun σ B H ok Q c =>
  h σ B H ok _ fun i v n1 Γ1 B1 H1 ⟨hz, q⟩ e o r => ⟨i, by rw [r], hz, c _ _ n1 Γ1 B1 H1 q e o (by show V.str _ = V.str _; rw [txI_S])⟩
theorem we_fmtI {k : List Nat → NK} (h : WpE K w n Γ ta tI (fun i n Γ => i.natAbs.log2 < 1920 ∧ k (txI i) n Γ)) : WpE K w n Γ (tFmt ta) tX k := fun σ B H ok Q c =>
  h σ B H ok _ fun i v n1 Γ1 B1 H1 ⟨hz, q⟩ e o r => .inr ⟨i, r, hz, c _ _ n1 Γ1 B1 H1 q e o (by show V.str _ = V.str _; rw [txI_S])⟩
theorem we_fmtX {k : List Nat → NK} (h : WpE K w n Γ ta tX (fun x n Γ => x.length ≤ 100000 ∧ k x n Γ)) : WpE K w n Γ (tFmt ta) tX k := fun σ B H ok Q c =>
  h σ B H ok _ fun x v n1 Γ1 B1 H1 ⟨hz, q⟩ e o r => .inl ⟨_, r, by rw [SX.S_len]; exact sz hz, c _ _ n1 Γ1 B1 H1 q e o rfl⟩
def WpJ (K : Frag) (w : Wd) (n : Option Nat) (Γ : Env) (ts : List TE) (acc : List Nat) (k : List Nat → NK) : Prop := ∀ σ B H, Ok K w n Γ σ B H → ∀ Q : Str → Hp → Prop, (∀ x n' Γ' B' H', k x n' Γ' → Ex B B' → Ok K w n' Γ' σ B' H' → Q (SX.S x) H') → tJs ts (SX.S acc) σ H Q
theorem wj_nil {acc : List Nat} {k : List Nat → NK} (h : k acc n Γ) : WpJ K w n Γ [] acc k := fun σ B H ok Q c => c acc n Γ B H h (Ex.refl _) ok
theorem wj_cons {ts : List TE} {acc : List Nat} {k : List Nat → NK} (h : WpE K w n Γ te tX (fun x n Γ => (acc ++ x).length ≤ 100000 ∧ WpJ K w n Γ ts (acc ++ x) k)) : WpJ K w n Γ (te :: ts) acc k := fun σ B H ok Q c =>
  h σ B H ok _ fun x v n1 Γ1 B1 H1 ⟨hz, q⟩ e o r => ⟨_, r, by rw [SX.S_cat, SX.S_len]; exact sz hz, by
    rw [SX.S_cat]
    exact q σ B1 H1 o _ fun y n2 Γ2 B2 H2 q2 e2 o2 => c y n2 Γ2 B2 H2 q2 (e.trans e2) o2⟩
theorem we_fstr {ts : List TE} {k : List Nat → NK} (h : WpJ K w n Γ ts [] k) : WpE K w n Γ (tJn ts) tX k := fun σ B H ok Q c => h σ B H ok _ fun x n1 Γ1 B1 H1 q e o => c x _ n1 Γ1 B1 H1 q e o rfl
theorem starts1 {a : List Nat} {c : Nat} : Txt.startswith (SX.S a) (SX.S [c]) = decide (a.head? = some c) := by
  cases a with
  | nil => rfl
  | cons d r =>
    unfold Txt.startswith
    simp [SX.S, Str.length, Builtin.Str.subAt]
    by_cases h : d = c <;> simp [h]
theorem we_starts1 {s : Str} {c : Nat} (hs : s = SX.S [c]) {k : Bool → NK} (h : WpE K w n Γ ta tX (fun a n Γ => k (decide (a.head? = some c)) n Γ)) : WpE K w n Γ (tM1 rStarts ta (tC (.str s))) tBo k := fun σ B H ok Q cc =>
  h σ B H ok _ fun a v n1 Γ1 B1 H1 q1 e1 o1 r1 => ⟨⟨_, r1⟩, _, _, r1, by rw [hs], by rw [starts1]; exact cc _ _ n1 Γ1 B1 H1 q1 e1 o1 rfl⟩
end
end TL

/-! # TL: own lists lent, pop at a place, dict of pairs, in of bools -/
namespace TL
open PySem L2 PyProof.Rows PySem.Calls
open PySem.W (Frag)
section
variable {K : Frag} {w : Wd} {n : Option Nat} {Γ : Env} {α β γ δ ρ A : Type} {t : Ty α} {u : Ty β} {ta tb te : TE} {ts ts' : TS} {res : ρ → Ent} {nx bk ct : NK} {rt : ρ → Option Nat → Prop}
def PLst (o : HO) : Prop := ∃ vs, o = .lst vs
theorem Ok.unlendL {P : HO → Prop} {σ : L2.St} {B H B' H' : Hp} {l : Addr} {o : HO} {n' : Option Nat} (hn : ∃ m, n = some m) (ok : Ok K w n Γ σ B H) (h2 : H l = some o) (h3 : B l = none) (h4 : w.H0 l = none) (ho : P o)
    (c : Ok K ⟨w.d, w.ca, w.cs, upd B l o, H⟩ n' [] [] B' H') : Ok K w n' Γ σ (del B' l) H' ∧ ∀ a q, B' a = some q → del B' l a = some q ∨ P q := by
  have ne : l ≠ w.d := fun z => noS h4 (z ▸ ok.hd)
  have nc : w.ca ≠ l := by
    obtain ⟨m, hm⟩ := hn
    obtain ⟨_, _, _, _, p2, _⟩ := ok.pn m hm
    exact fun z => by rw [z, h3] at p2; cases p2
  have hB : B' l = some o := c.ex0 l o upd_same
  have mv : ∀ a q, B' a = some q → del B' l a = some q ∨ P q := fun a q e => by
    by_cases z : a = l
    · subst z; rw [hB] at e; cases e; exact .inr ho
    · rw [del_ne z]; exact .inl e
  have eb : Ex B (del B' l) := fun a q e => by
    have z : a ≠ l := ne_of_none e h3
    rw [del_ne z]; exact c.ex0 a q (by show upd B l o a = some q; rw [upd_ne z]; exact e)
  refine ⟨⟨fun a q e => c.ex a q (del_some e).2, ok.ex0.trans eb, fun a q e => ?_, fun a q e na => c.kp a q (ok.kp a q e na) na, ok.hd, c.hh, fun m q => ?_, ok.ln, fun i en q => ?_, ok.ds⟩, mv⟩
  · obtain ⟨z, e'⟩ := del_some e
    rcases c.nw a q e' with y | y
    · have y : upd B l o a = some q := y
      rw [upd_ne z] at y; exact ok.nw a q y
    · right
      have y : H a = none := y
      cases hq : w.H0 a with
      | none => rfl
      | some u =>
        by_cases na : a = w.d
        · subst na; exact (noS y ok.hh).elim
        · rw [ok.kp a u hq na] at y; cases y
  · obtain ⟨fr, a, b, p1, p2, p3⟩ := c.pn m q
    refine ⟨by rw [del_ne (Ne.symm ne)]; exact fr, a, b, p1, ?_, p3⟩
    have p2 : B' w.ca = _ := p2
    rw [del_ne nc]; exact p2
  · have s := ok.sl i en q
    refine s.keep eb rfl fun a ha => ?_
    obtain ⟨ob, g1, g2, g3⟩ := s.owned ha
    have na : a ≠ w.d := fun z => noS g3 (z ▸ ok.hd)
    refine ⟨by rw [g1]; exact c.kp a ob g1 na, ?_, g3⟩
    by_cases z : a = l
    · subst z; exact del_same
    · rw [del_ne z]
      cases hq : B' a with
      | none => rfl
      | some u =>
        rcases c.nw a u hq with y | y
        · have y : upd B l o a = some u := y
          rw [upd_ne z, g2] at y; cases y
        · have y : H a = none := y
          rw [g1] at y; cases y
theorem Ok.lendL {xs : List β} {σ : L2.St} {B H : Hp} {i : Nat} (ok : Ok K w n Γ σ B H) (hi : Γ[i]? = some (.ml u xs)) :
    ∃ l o, H l = some o ∧ B l = none ∧ w.H0 l = none ∧ PLst o ∧ Ok K ⟨w.d, w.ca, w.cs, upd B l o, H⟩ n (hideE (Γ.set i (.im (tL u) xs)) []) σ (upd B l o) H := by
  obtain ⟨l, o, h1, h2, h3, h4, h5⟩ := ok.sl i _ hi
  obtain ⟨o', g1, g2, g3, g4⟩ := ok.freeze hi h1
  rw [h2] at g1; cases g1
  obtain ⟨vs, rfl, p⟩ := h5
  have ok2 := g4.setIm (i := i) (t := tL u) (x := xs) (v := .ref l) ⟨l, vs, rfl, upd_same, pw_mono (fun _ _ => u.mono (Ex.new h3)) p⟩
  rw [List.set_set, slot_same h1] at ok2
  exact ⟨l, _, h2, h3, h4, ⟨vs, rfl⟩, ok2.inner []⟩
/-- an expression that reads one's own list and gives data that hold no list -/
theorem we_lendL {xs : List β} {k : α → NK} (i : Nat) (hi : Γ[i]? = some (.ml u xs)) (hn : ∃ m, n = some m) (hb : Blind PLst t) (h : ∀ w' : Wd, SetE (hideE (Γ.set i (.im (tL u) xs)) []) fun Γ' => WpE K w' n Γ' te t (fun x n' _ => k x n' Γ)) : WpE K w n Γ te t k := fun σ B H ok Q c => by
  obtain ⟨l, o, h1, h2, h3, h4, o1⟩ := ok.lendL hi
  refine h _ σ _ H o1 Q fun x v n' Γ' B' H' q e o2 rp => ?_
  obtain ⟨o3, mv⟩ := ok.unlendL hn h1 h2 h3 h4 o2.nil
  exact c x v n' Γ _ H' q (fun a q e' => by
    have z : a ≠ l := ne_of_none e' h2
    rw [del_ne z]; exact e a q (by rw [upd_ne z]; exact e')) o3 (hb _ _ _ _ mv rp)
theorem wt_lendL {xs : List β} {tt : TT} {kt kf : NK} (i : Nat) (hi : Γ[i]? = some (.ml u xs)) (hn : ∃ m, n = some m) (h : ∀ w' : Wd, SetE (hideE (Γ.set i (.im (tL u) xs)) []) fun Γ' => WpT K w' n Γ' tt (fun n' _ => kt n' Γ) (fun n' _ => kf n' Γ)) : WpT K w n Γ tt kt kf := fun σ B H ok Q ct cf => by
  obtain ⟨l, o, h1, h2, h3, h4, o1⟩ := ok.lendL hi
  have ev : ∀ {B'}, Ex (upd B l o) B' → Ex B (del B' l) := fun e a q e' => by
    have z : a ≠ l := ne_of_none e' h2
    rw [del_ne z]; exact e a q (by rw [upd_ne z]; exact e')
  exact h _ σ _ H o1 Q (fun n' Γ' B' H' q e o2 => ct n' Γ _ H' q (ev e) (ok.unlendL hn h1 h2 h3 h4 o2.nil).1) (fun n' Γ' B' H' q e o2 => cf n' Γ _ H' q (ev e) (ok.unlendL hn h1 h2 h3 h4 o2.nil).1)
theorem noL_tup (xs : List V) : ¬ PLst (.tup xs) := fun ⟨_, h⟩ => by cases h
theorem noL_ins {C : Addr} (dx : Addr) (fs : List (Str × V)) : ¬ PLst (.ins C dx fs) := fun ⟨_, h⟩ => by cases h
/-! xs.pop(j) -/
theorem pw_erase {R : V → α → Prop} : ∀ {vs : List V} {xs : List α} (j : Nat), Paired R vs xs → Paired R (vs.eraseIdx j) (xs.eraseIdx j)
  | _, _, _, .nil => .nil
  | _, _, 0, .cons h r => r
  | _, _, j + 1, .cons h r => .cons h (pw_erase j r)
theorem we_popAt {i : Nat} {xs0 xs : List α} {ti : TE} {k : α → NK} (hi : Γ[i]? = some (.ml t xs0)) (h : WpE K w n Γ ti tI (fun j n Γ => Γ[i]? = some (.ml t xs) ∧ xs.length ≤ 100000 ∧ 0 ≤ j ∧ ∃ x, xs[j.toNat]? = some x ∧ SetE (Γ.set i (.ml t (xs.eraseIdx j.toNat))) (fun Γ => k x n Γ))) :
    WpE K w n Γ (tBM K "list" rPopAt (tVar i) (tCons ti tNil)) t k := fun σ B H ok Q c => by
  obtain ⟨l, o, h1, h2, h3, h4, vs0, rfl, p0⟩ := ok.sl i _ hi
  refine ⟨.ref l, h1, .inl ⟨rfl, vs0, .inl (.inl h2)⟩, h σ B H ok _ fun j jv n1 Γ1 B1 H1 ⟨g, hz, h0, x, hx, q⟩ e o1 rj => ?_⟩
  obtain ⟨l', o', k1, k2, k3, k4, vs, rfl, p⟩ := o1.sl i _ g
  rw [h1] at k1; cases k1
  have hjl := get_lt hx
  obtain ⟨y, hy, rx⟩ := pw_getR p hx
  have hj := get_lt hy
  have rj : jv = .int j := rj
  subst rj
  refine ⟨l, vs, j, j.toNat, y, rfl, rfl, k2, by omega, by have := pw_len p; omega, PySem.seqIndex_of h0 (by omega), hy, ?_⟩
  exact c x _ n1 _ B1 _ q e (o1.put (r' := rL t (xs.eraseIdx j.toNat)) g h1 ⟨_, rfl, pw_erase _ p⟩) rx
theorem pairs_in {B H : Hp} (hs : ∀ p xs, B p = some (.tup xs) → SqT K H p xs) : ∀ {vs : List V} {kvs : List (Int × α)}, Paired ((tP tI t).rep B) vs kvs →
    ∃ (ps : List Addr) (kv : List (Key × V)), vs = ps.map V.ref ∧ Paired (fun p c => SqT K H p [kV c.1, c.2]) ps kv ∧ Paired (fun (p : Key × V) (q : Int × α) => p.1 = .inl q.1 ∧ t.rep B p.2 q.2) kv kvs
  | _, _, .nil => ⟨[], [], rfl, .nil, .nil⟩
  | _, _, .cons ⟨a, p, q, h1, h2, h3, h4⟩ r => by
    obtain ⟨ps, kv, rfl, g1, g2⟩ := pairs_in hs r
    have h3 : p = V.int _ := h3
    subst h1; subst h3
    exact ⟨a :: ps, (.inl _, q) :: kv, rfl, .cons (hs _ _ h2) g1, .cons ⟨rfl, h4⟩ g2⟩
theorem merge_app : ∀ {kv acc : List (Key × V)}, (kv.map (·.1)).Nodup → (∀ p ∈ kv, ∀ q ∈ acc, q.1 ≠ p.1) → mergeK acc kv = acc ++ kv
  | [], acc, _, _ => by simp [mergeK]
  | p :: r, acc, nd, h => by
    rw [List.map_cons, List.nodup_cons] at nd
    have e : mergeK acc (p :: r) = mergeK (putK acc p.1 p.2) r := rfl
    rw [e]
    have e2 : putK acc p.1 p.2 = acc ++ [p] := by
      unfold putK
      rw [if_neg]
      intro z
      obtain ⟨q, hq, e⟩ := List.any_eq_true.mp z
      exact h p List.mem_cons_self q hq (of_decide_eq_true e)
    rw [e2, merge_app nd.2, List.append_assoc]
    · rfl
    intro q hq c hc
    rcases List.mem_append.mp hc with hc | hc
    · exact h q (List.mem_cons_of_mem _ hq) c hc
    · rw [List.mem_singleton.mp hc]
      exact fun z => nd.1 (z ▸ List.mem_map_of_mem hq)
theorem keys_of {B : Hp} : ∀ {kv : List (Key × V)} {kvs : List (Int × α)}, Paired (fun (p : Key × V) (q : Int × α) => p.1 = .inl q.1 ∧ t.rep B p.2 q.2) kv kvs → kv.map (·.1) = kvs.map fun q => (Sum.inl q.1 : Key)
  | _, _, .nil => rfl
  | _, _, .cons ⟨h, _⟩ r => by rw [List.map_cons, List.map_cons, h, keys_of r]
/-- dict(xs), a list of pairs with different keys -/
theorem wm_dictP {k : Rs → NK} (t : Ty α) (h : WpE K w n Γ ta (tL (tP tI t)) (fun kvs n Γ => (kvs.map (·.1)).Nodup ∧ k (rD t kvs) n Γ)) : WpM K w n Γ (tCB (rDictP K) (tCons ta tNil)) k := fun σ B H ok Q c =>
  h σ B H ok _ fun kvs v n1 Γ1 B1 H1 ⟨nd, q⟩ e1 o1 ⟨a, vs, hv, hs, p⟩ => by
    obtain ⟨ps, kv, rfl, g1, g2⟩ := pairs_in (K := K) (H := H1) (fun p xs hp => SqT.of (o1.ex _ _ hp)) p
    refine ⟨a, ps, kv, by rw [hv], SqL.of (o1.ex _ _ hs), g1, fun x hx => ?_⟩
    have nk : (kv.map (·.1)).Nodup := by
      rw [keys_of g2]
      rw [show (kvs.map fun q => (Sum.inl q.1 : Key)) = (kvs.map (·.1)).map Sum.inl by rw [List.map_map]; rfl]
      exact List.Pairwise.map _ (fun a b h z => h (by cases z; rfl)) nd
    rw [merge_app nk (fun p _ q hq => by cases hq), List.nil_append]
    exact c _ x n1 Γ1 B1 _ q e1 (o1.grow (Grow.open o1.ex hx)) (Own.new o1 hx ⟨kv, rfl, g2⟩)
/-- among bools -/
theorem inV_bools {x : Bool} : ∀ {xs : List Bool}, inV (.bl x) (xs.map V.bl) = decide (x ∈ xs) ∧ (xs.map V.bl).all flatV = true
  | [] => ⟨by simp [inV], rfl⟩
  | y :: r => by
    obtain ⟨h1, h2⟩ := inV_bools (x := x) (xs := r)
    refine ⟨?_, by simp only [List.map_cons, List.all_cons, h2]; rfl⟩
    have e : inV (.bl x) ((y :: r).map V.bl) = (eqV (.bl y) (.bl x) || inV (.bl x) (r.map V.bl)) := rfl
    have hb : eqV (.bl y) (.bl x) = (y == x) := by cases x <;> cases y <;> with_unfolding_all rfl
    rw [e, h1, hb]
    cases x <;> cases y <;> simp
theorem we_inB {b : Bool} {k : Bool → NK} (h : WpE K w n Γ ta tBo (fun a n Γ => WpE K w n Γ tb (tL tBo) (fun xs n Γ => k (if b then !decide (a ∈ xs) else decide (a ∈ xs)) n Γ))) : WpE K w n Γ (tOp (rIn K b) ta tb) tBo k := fun σ B H ok Q c =>
  h σ B H ok _ fun a x n1 Γ1 B1 H1 q1 e1 o1 r1 => q1 σ B1 H1 o1 _ fun xs y n2 Γ2 B2 H2 q2 e2 o2 r2 => by
    have r1 : x = .bl a := r1
    subst r1
    obtain ⟨p, vs, rfl, hs, pv⟩ := r2
    have ev : vs = xs.map V.bl := by
      have : ∀ {vs : List V} {xs : List Bool}, Paired (tBo.rep B2) vs xs → vs = xs.map V.bl := by
        intro vs xs p
        induction p with
        | nil => rfl
        | cons h _ ih => rw [ih, List.map_cons, show _ = V.bl _ from h]
      exact this pv
    subst ev
    obtain ⟨i1, i2⟩ := inV_bools (x := a) (xs := xs)
    exact ⟨p, _, rfl, .inl (SqL.of (o2.ex _ _ hs)), rfl, i2, c _ _ n2 Γ2 B2 H2 q2 (e1.trans e2) o2 (by show V.bl _ = V.bl _; rw [i1])⟩
end
end TL
namespace TL
open PySem L2 PyProof.Rows PySem.Calls
open PySem.W (Frag)
section
variable {K : Frag} {w : Wd} {n : Option Nat} {Γ : Env} {α β γ δ ρ A : Type} {t : Ty α} {u : Ty β} {ta tb te : TE} {ts ts' : TS} {res : ρ → Ent} {nx bk ct : NK} {rt : ρ → Option Nat → Prop}
/-- a, b = (own thing), (datum) -/
theorem ws_par2ME {i j : Nat} (h : WpM K w n Γ ta (fun r1 n1 Γ1 => Γ1 = Γ ∧ ∀ w' : Wd, SetE (hideE Γ []) fun Γh => WpE K w' n1 Γh tb u (fun y n2 _ => SetE ((Γ.set i (.mu r1)).set j (.im u y)) (nx n2)))) :
    WpS K w n Γ (tPar i j (tCons ta (tCons tb tNil))) res nx bk ct rt := fun σ B H ok D a b c d =>
  h σ B H ok _ fun r1 l1 n1 Γ1 B1 H1 ⟨hg1, q1⟩ e1 o1 ow1 => by
    subst hg1
    refine q1 ⟨w.d, w.ca, w.cs, B1, H1⟩ σ B1 H1 (o1.inner []) _ fun y v n2 Γ2 B2 H2 q2 e2 o2 r2 => ?_
    have ok2 := o1.back o2.nil
    have ow1b := ow1.back o1 o2.nil
    refine ⟨.ref l1, v, rfl, a _ _ _ B2 H2 q2 (e1.trans e2) ?_⟩
    exact (ok2.setMu (i := i) ow1b).setIm (i := j) r2
/-- a, b = (own thing), (own thing) -/
theorem ws_par2MM {i j : Nat} (h : WpM K w n Γ ta (fun r1 n1 Γ1 => Γ1 = Γ ∧ ∀ w' : Wd, SetE (hideE Γ []) fun Γh => WpM K w' n1 Γh tb (fun r2 n2 _ => SetE ((Γ.set i (.mu r1)).set j (.mu r2)) (nx n2)))) :
    WpS K w n Γ (tPar i j (tCons ta (tCons tb tNil))) res nx bk ct rt := fun σ B H ok D a b c d =>
  h σ B H ok _ fun r1 l1 n1 Γ1 B1 H1 ⟨hg1, q1⟩ e1 o1 ow1 => by
    subst hg1
    refine q1 ⟨w.d, w.ca, w.cs, B1, H1⟩ σ B1 H1 (o1.inner []) _ fun r2 l2 n2 Γ2 B2 H2 q2 e2 o2 ow2 => ?_
    have ok2 := o1.back o2.nil
    have ow1b := ow1.back o1 o2.nil
    have ow2c := ow2.out o1
    have h2n : H1 l2 = none := ow2.h0
    have i1 : ∃ ob, H1 l1 = some ob := ⟨_, ow1.ob.choose_spec.1⟩
    have ne : l2 ≠ l1 := fun z => by
      obtain ⟨ob, q⟩ := i1
      rw [← z, h2n] at q; cases q
    refine ⟨.ref l1, .ref l2, rfl, a _ _ _ B2 H2 q2 (e1.trans e2) ?_⟩
    refine (ok2.setMu (i := i) ow1b).setMu (i := j) ⟨ow2c.ob, ow2c.b, ow2c.h0, fun i' e' hi z => ?_⟩
    rcases get_set hi with ⟨rfl, rfl, il⟩ | ⟨nm, hm⟩
    · have z' : (σ.set i (some (V.ref l1)))[i]? = some (some (V.ref l2)) := z
      rw [List.getElem?_set, if_pos rfl, if_pos (by rw [← ok2.ln]; exact il)] at z'
      cases z'
      exact ne rfl
    · rw [List.getElem?_set, if_neg nm] at z
      exact ow2c.df i' e' hm z
end
end TL

/-! # TL: operators of own classes with an int on either side -/
namespace RefK
open PySem PySem.Spec PyProof.Rows
section
variable {M : Model} {prog : Program} {w : World} {A : Around} {E : Value → Shared → Prop} {s : Shared} {K : PySem.W.Frag} {x C f f0 L dx : Addr} {ox : Obj} {od : Option Obj} {h₀ : Heap} {m : Str → Option Value} {n : Int} {t : Tok} {nm : String}
theorem asInt_inst {Q : Option Int → Shared → Prop} (ho : s.heap.get? x = some (PySem.W.instObj C dx)) (q : Q none s) : wpAny M A (asInt? (.ref x)) Q E s := by
  unfold asInt?
  exact wpAny_bind (wpAny_load ho (wpAny_pure q))
theorem bin_declines {f : Int → Int → Sem Fin} {name : String} {Q : Fin → Shared → Prop} (ho : s.heap.get? x = some (PySem.W.instObj C dx)) (q : Q (.done (.ret .notImplemented)) s) : wpAny M A (Builtin.Int.intBinary name f false ⟨[.int n t, .ref x], []⟩) Q E s := by
  unfold Builtin.Int.intBinary
  repeat (first
    | (refine wpAny_bind (m := asInt? (.ref x)) (asInt_inst ho ?_))
    | (refine wpAny_bind (m := asInt? _) (asInt_inst ho ?_))
    | wp_step)
  exact q
theorem fills_int (h : fillsNumberSlot (.type "int") nm = pure true) {hh : Heap} : PySem.W.Looks M hh (fillsNumberSlot (.type "int") nm) true := PySem.W.Looks.of_pure h
/-- int op own: the own class's reflected method answers -/
theorem binR_K {op : Operator} {idl : String} {Q : Value → Shared → Prop} (F' : Fr h₀ L s.heap m) (X₀ : K.In h₀) (I : PySem.W.InstAt s.heap x ox C od) (ho : s.heap.get? x = some (PySem.W.instObj C dx)) (hc : PySem.W.selfFirst K C = true)
    (hs : PySem.W.findIn K (.ref C) (PySem.dunder op.info.2) = some (some (.ref f0))) (hr : PySem.W.findIn K (.ref C) (dunderR op.info.2) = some (some (.ref f))) (hf : PySem.W.isFn K (.ref f) = true)
    (hfill : fillsNumberSlot (.type "int") op.info.2 = pure true) (hsub : PySem.W.subIn K (.ref C) (.type "int") = some false) (hl : Slot "int" (PySem.dunder op.info.2) idl)
    (hd : ∀ {A' : Around} {E' : Value → Shared → Prop} {Q' : Value → Shared → Prop}, Q' .notImplemented s → wpAny (model prog w) A' (call (.builtin idl) [.int n t, .ref x]) Q' E' s)
    (h : wpAny (model prog w) A (call (.ref f) [.ref x, .int n t]) (PySem.W.CmpBack Q) E s) : wpAny (model prog w) A (binaryOp op (.int n t) (.ref x)) Q E s := by
  have X := X₀.keeps F'.keep
  obtain ⟨cd, rest, hcd, hm⟩ := PySem.W.ksp_first hc
  rcases hi : op.info with ⟨sym, nm'⟩
  rw [hi] at hs hr hfill hl
  dsimp only at hs hr hfill hl
  have one := PySem.W.ksp_try X I hr hf h
  have two : wpAny (model prog w) A (tryMethod (.int n t) (dunder nm') (.ref x)) (fun r s' => r = none ∧ s' = s) E s := by
    unfold tryMethod
    exact wpAny_bind (wpAny_callSpecial?_slot (show s.TypeIs (.int n t) "int" from rfl) hl (hd (wpAny_pure ⟨rfl, rfl⟩)))
  obtain ⟨hh, g, d, tt, os⟩ := s
  have L1 : PySem.W.Looks (model prog w) hh (typeOf (.int n t)) (.type "int") := PySem.W.Looks.of_pure rfl
  have L2 : PySem.W.Looks (model prog w) hh (typeOf (.ref x)) (.ref C) := I.type
  have L3 : PySem.W.Looks (model prog w) hh (fillsNumberSlot (.type "int") nm') true := PySem.W.Looks.of_pure hfill
  have L4 : PySem.W.Looks (model prog w) hh (fillsNumberSlot (.ref C) nm') true := PySem.W.fills_K X hcd hm hs
  have L5 : PySem.W.Looks (model prog w) hh (isSubtype (.ref C) (.type "int")) false := PySem.W.looks_subIn X hsub
  have L7 : PySem.W.Looks (model prog w) hh (numberSlotInPython (.type "int") nm') false := PySem.W.Looks.of_pure rfl
  have hne : (Value.type "int" == Value.ref C) = false := Bool.eq_false_iff.mpr fun q => by cases beq_iff_eq.mp q
  simp only [binaryOp, hi]
  refine wpAny_holding (wpAny_bind ?_)
  unfold binaryOp1
  refine wpAny_bind (L1.at (wpAny_bind (L2.at (wpAny_bind (L3.at ?_)))))
  simp only [hne, Bool.false_eq_true, if_false]
  ksp_lk
  refine wpAny_mono two (fun r s' z => ?_) fun _ _ e => e
  obtain ⟨z1, z2⟩ := z
  subst z1; subst z2
  ksp_lk
  refine wpAny_mono one (fun r s' hr' => ?_) fun _ _ e => e
  obtain ⟨v, rfl, hq⟩ := hr'
  ksp_lk
  exact hq
end
end RefK
namespace TL
open PySem L2 PyProof.Rows PySem.Calls
open PySem.W (Frag)
/-- the operator's methods of an own class, on both sides -/
structure OpF (K : Frag) (C : Addr) (op : Operator) : Prop where
  fst : PySem.W.selfFirst K C = true
  lo : ∃ f0 : Addr, PySem.W.findIn K (.ref C) (PySem.dunder op.info.2) = some (some (.ref f0))
  ro : ∃ g : Addr, PySem.W.findIn K (.ref C) (dunderR op.info.2) = some (some (.ref g))
/-- what of int is asked -/
structure OpI (op : Operator) : Prop where
  l : ∃ fo, fastLookup "int" (PySem.dunder op.info.2) = some fo
  r : ∃ ro, fastLookup "int" (dunderR op.info.2) = some ro
  fill : fillsNumberSlot (.type "int") op.info.2 = pure true
  dec : ∃ (idl : String), Slot "int" (PySem.dunder op.info.2) idl ∧ ∀ {prog : Program} {w : World} {n : Int} {t : Tok} {x C dx : Addr} {s : Shared} {A' : Around} {E' : Value → Shared → Prop} {Q' : Value → Shared → Prop},
    s.heap.get? x = some (PySem.W.instObj C dx) → Q' .notImplemented s → wpAny (model prog w) A' (call (.builtin idl) [.int n t, .ref x]) Q' E' s
theorem opI_mul : OpI .Mult := ⟨Option.isSome_iff_exists.mp (by decide +kernel), Option.isSome_iff_exists.mp (by decide +kernel), F.fills_int_mul, "int.__mul__", F.slot_int_mul, fun ho q =>
  wpAny_call_entry F.slot_int_mul rfl F.entry_int_mul (RefK.bin_declines ho ⟨_, rfl, q⟩) (F.args_int_mul_2 _ _)⟩
theorem opI_add : OpI .Add := ⟨Option.isSome_iff_exists.mp (by decide +kernel), Option.isSome_iff_exists.mp (by decide +kernel), F.fills_int_add, "int.__add__", F.slot_int_add, fun ho q =>
  wpAny_call_entry F.slot_int_add rfl F.entry_int_add (RefK.bin_declines ho ⟨_, rfl, q⟩) (F.args_int_add_2 _ _)⟩
theorem opI_sub : OpI .Sub := ⟨Option.isSome_iff_exists.mp (by decide +kernel), Option.isSome_iff_exists.mp (by decide +kernel), F.fills_int_sub, "int.__sub__", F.slot_int_sub, fun ho q =>
  wpAny_call_entry F.slot_int_sub rfl F.entry_int_sub (RefK.bin_declines ho ⟨_, rfl, q⟩) (F.args_int_sub_2 _ _)⟩
section
variable {X : Cx} {k : Nat} {C : Addr} {m f : Str} {ps : List Str} {sp : Sp} {pins : List (Addr × Obj)} {σ : L2.St} {H : Hp} {s : Shared}
/-- o op y, y an instance of the same class or an int -/
def rBinO (C : Addr) (sp : Sp) : R2 := fun x y H Q => InsV C x H ∧ (InsV C y H ∨ ∃ i : Int, y = .int i) ∧ sp [x, y] H Q E0
theorem op_binO {op : Operator} (hm : PySem.dunder op.info.2 = m) (of : OpF X.K C op) (oi : OpI op) (c : MethBy X.prog X.w X.K X.mg X.base CX0 k C m ps sp) (hr : Room k X.A) : OpR X (binaryOp op) (rBinO C sp) := by
  intro pins s σ H x y v u Q I rx ry ⟨⟨a, dx, fs, hx, ha⟩, hy, q⟩
  rcases hy with hy | ⟨i, hy⟩
  · exact op_binOwn hm of.fst c hr pins s σ H x y v u Q I rx ry ⟨⟨a, dx, fs, hx, ha⟩, hy, q⟩
  subst hx; subst hy
  cases (show v = Value.ref a from rx)
  obtain ⟨t, ht⟩ := (show ∃ t, u = Value.int i t from ry)
  subst ht
  obtain ⟨ox, od, J⟩ := ins_look I ha
  obtain ⟨mm, hF⟩ := I.fr
  obtain ⟨f, h1, h2, h3⟩ := run_own c hr I
  obtain ⟨g, hg⟩ := of.ro
  obtain ⟨fo, hfo⟩ := oi.l
  obtain ⟨ro, hro⟩ := oi.r
  exact PySem.W.ksp_binT (T := "int") hF I.ok.mod.kin J rfl of.fst (by rw [hm]; exact h1) h2 hg (.inr ⟨g, rfl⟩) hfo hro (sub_bi (.inr (.inl rfl))) (wpAny_mono (h3 [.ref a, .int i] [.ref a, .int i t] _ (.cons rfl (.cons ⟨t, rfl⟩ .nil)) q) (fun r s' z => back_of z) fun _ _ e => e)
/-- i op o, an int on the left -/
def rBinR (C : Addr) (sp : Sp) : R2 := fun x y H Q => (∃ i : Int, x = .int i) ∧ InsV C y H ∧ sp [y, x] H Q E0
theorem op_binR {op : Operator} {mg : Str → Option Value} {nm : Str} (hm : dunderR op.info.2 = m) (of : OpF X.K C op) (ic : IsC X.K mg C nm) (oi : OpI op) (c : MethBy X.prog X.w X.K X.mg X.base CX0 k C m ps sp) (hr : Room k X.A) : OpR X (binaryOp op) (rBinR C sp) := by
  intro pins s σ H x y v u Q I rx ry ⟨⟨i, hx⟩, ⟨a, dx, fs, hy, ha⟩, q⟩
  subst hx; subst hy
  cases (show u = Value.ref a from ry)
  obtain ⟨t, ht⟩ := (show ∃ t, v = Value.int i t from rx)
  subst ht
  obtain ⟨ox, od, J⟩ := ins_look I ha
  obtain ⟨mm, hF⟩ := I.fr
  obtain ⟨f, h1, h2, h3⟩ := run_own c hr I
  obtain ⟨f0, hf0⟩ := of.lo
  obtain ⟨idl, hsl, hd⟩ := oi.dec
  have ho : s.heap.get? a = some (PySem.W.instObj C dx) := by
    obtain ⟨_, _, _, ob, _⟩ := (show ObjOk X.prog X.w H s.heap a (.ins C dx fs) from I.hok a _ ha)
    exact ob
  exact RefK.binR_K hF I.ok.mod.kin J ho of.fst hf0 (by rw [hm]; exact h1) h2 oi.fill ic.si hsl (fun q' => hd ho q') (wpAny_mono (h3 [.ref a, .int i] [.ref a, .int i t] _ (.cons rfl (.cons ⟨t, rfl⟩ .nil)) q) (fun r s' z => back_of z) fun _ _ e => e)
end
section
variable {K : Frag} {w : Wd} {n : Option Nat} {Γ : Env} {α β γ δ ρ A : Type} {t : Ty α} {u : Ty β} {ta tb te : TE} {ts ts' : TS} {res : ρ → Ent} {nx bk ct : NK} {rt : ρ → Option Nat → Prop}
/-- an int or an instance -/
def tArg (C : Addr) (flds : α → Flds) : Ty (Int ⊕ α) := ⟨fun B v x => match x with
    | .inl i => v = .int i
    | .inr y => (tObj C flds).rep B v y, fun {B B' v x} e h => by
  cases x with
  | inl i => exact h
  | inr y => exact (tObj C flds).mono e h⟩
theorem arg_is {C : Addr} {flds : α → Flds} {B H : Hp} {v : V} {x : Int ⊕ α} (h : (tArg C flds).rep B v x) (e : Ex B H) : InsV C v H ∨ ∃ i : Int, v = .int i := by
  cases x with
  | inl i => exact .inr ⟨i, h⟩
  | inr y => exact .inl (insV_obj h e)
theorem we_argI {C : Addr} {flds : α → Flds} {k : (Int ⊕ α) → NK} (h : WpE K w n Γ te tI (fun x n Γ => k (.inl x) n Γ)) : WpE K w n Γ te (tArg C flds) k := fun σ B H ok Q c => h σ B H ok Q fun x v n' Γ' B' H' q e o r => c (.inl x) v n' Γ' B' H' q e o r
theorem we_argO {C : Addr} {flds : α → Flds} {k : (Int ⊕ α) → NK} (h : WpE K w n Γ te (tObj C flds) (fun x n Γ => k (.inr x) n Γ)) : WpE K w n Γ te (tArg C flds) k := fun σ B H ok Q c => h σ B H ok Q fun x v n' Γ' B' H' q e o r => c (.inr x) v n' Γ' B' H' q e o r
theorem we_binO {S : FS K} {sp : Sp} (sub : ∀ vs H Q X, S.sp vs H Q X → sp vs H Q X) {C : Addr} {flds : α → Flds} {s : Ty S.ρ} (hres : S.res = fun x => .im s x) (hc : S.cost = 0) (up : α → (Int ⊕ α) → S.A) (hup : ∀ {d B v1 v2 a b}, (tObj C flds).rep B v1 a → (tArg C flds).rep B v2 b → S.args.rep d B [v1, v2] (up a b)) {k : S.ρ → NK}
    (h : WpE K w n Γ ta (tObj C flds) (fun a n Γ => WpE K w n Γ tb (tArg C flds) (fun b n Γ => S.pre (up a b) ∧ ∀ x, S.post (up a b) x → k x n Γ))) : WpE K w n Γ (tOp (rBinO C sp) ta tb) s k := fun σ B H ok Q c =>
  h σ B H ok _ fun a v1 n1 Γ1 B1 H1 q1 e1 o1 r1 => q1 σ B1 H1 o1 _ fun b v2 n2 Γ2 B2 H2 ⟨hp, q⟩ e2 o2 r2 =>
    ⟨insV_obj ((tObj C flds).mono e2 r1) o2.ex, arg_is r2 o2.ex, sub _ _ _ _ (own_val (k := k) hres hc o2 (hup ((tObj C flds).mono e2 r1) r2) hp q fun x v B' H' hk e' o' r' => c x v n2 Γ2 B' H' hk ((e1.trans e2).trans e') o' r')⟩
theorem we_binR {S : FS K} {sp : Sp} (sub : ∀ vs H Q X, S.sp vs H Q X → sp vs H Q X) {C : Addr} {flds : α → Flds} {s : Ty S.ρ} (hres : S.res = fun x => .im s x) (hc : S.cost = 0) (up : Int → α → S.A) (hup : ∀ {d B v1 v2 a b}, tI.rep B v1 a → (tObj C flds).rep B v2 b → S.args.rep d B [v2, v1] (up a b)) {k : S.ρ → NK}
    (h : WpE K w n Γ ta tI (fun a n Γ => WpE K w n Γ tb (tObj C flds) (fun b n Γ => S.pre (up a b) ∧ ∀ x, S.post (up a b) x → k x n Γ))) : WpE K w n Γ (tOp (rBinR C sp) ta tb) s k := fun σ B H ok Q c =>
  h σ B H ok _ fun a v1 n1 Γ1 B1 H1 q1 e1 o1 r1 => q1 σ B1 H1 o1 _ fun b v2 n2 Γ2 B2 H2 ⟨hp, q⟩ e2 o2 r2 =>
    ⟨⟨a, r1⟩, insV_obj r2 o2.ex, sub _ _ _ _ (own_val (k := k) hres hc o2 (hup r1 r2) hp q fun x v B' H' hk e' o' r' => c x v n2 Γ2 B' H' hk ((e1.trans e2).trans e') o' r')⟩
theorem we_negO {S : FS K} {sp : Sp} (sub : ∀ vs H Q X, S.sp vs H Q X → sp vs H Q X) {C : Addr} {flds : α → Flds} {s : Ty S.ρ} (hres : S.res = fun x => .im s x) (hc : S.cost = 0) (up : α → S.A) (hup : ∀ {d B v1 a}, (tObj C flds).rep B v1 a → S.args.rep d B [v1] (up a)) {k : S.ρ → NK}
    (h : WpE K w n Γ ta (tObj C flds) (fun a n Γ => S.pre (up a) ∧ ∀ x, S.post (up a) x → k x n Γ)) : WpE K w n Γ (tUn (rNegOwn C sp) ta) s k := fun σ B H ok Q c =>
  h σ B H ok _ fun a v1 n1 Γ1 B1 H1 ⟨hp, q⟩ e1 o1 r1 =>
    ⟨insV_obj r1 o1.ex, sub _ _ _ _ (own_val (k := k) hres hc o1 (hup r1) hp q fun x v B' H' hk e' o' r' => c x v n1 Γ1 B' H' hk (e1.trans e') o' r')⟩
/-- isinstance(x, int), x an int or an instance -/
theorem we_isIntA {mg : Str → Option Value} {nm : Str} {C : Addr} {flds : α → Flds} (ic : IsC K mg C nm) {k : Bool → NK} (h : WpE K w n Γ ta (tArg C flds) (fun x n Γ => k x.isLeft n Γ)) : WpE K w n Γ (tCB (rIsi K) (tCons ta (tCons (tC (.ty "int")) tNil))) tBo k := fun σ B H ok Q c =>
  h σ B H ok _ fun x v n1 Γ1 B1 H1 q e o r => by
    cases x with
    | inl i => exact ⟨v, .ty "int", .type "int", .type "int", true, rfl, .ty _, tyI r o.ex, kit_ty rfl, c _ _ n1 Γ1 B1 H1 q e o rfl⟩
    | inr y =>
      obtain ⟨a, dx, fs, rfl, hs⟩ := insV_obj r o.ex
      refine ⟨_, .ty "int", .ref C, .type "int", false, rfl, .ty _, .base (.ins hs ic.cl ic.ha ic.hn ic.htk ic.hm), ?_, c _ _ n1 Γ1 B1 H1 q e o rfl⟩
      unfold PySem.W.kitOne PySem.W.kitCls
      rw [if_neg (by intro z; cases beq_iff_eq.mp z)]
      show (if _ then _ else _) = _
      rw [if_pos (by decide +kernel)]
      exact ic.si
/-- isinstance(x, C), x an instance -/
theorem we_isOwnT {mg : Str → Option Value} {nm : Str} {C : Addr} {flds : α → Flds} (ic : IsC K mg C nm) {k : Bool → NK} (h : WpE K w n Γ ta (tObj C flds) (fun x n Γ => k true n Γ)) : WpE K w n Γ (tCB (rIsi K) (tCons ta (tCons (tC (.ref C)) tNil))) tBo k :=
  we_isOwn ic (we_othO h)
theorem View.isL {C : Addr} {flds : α → Flds} {i : Nat} {x : Int} (h : Γ[i]? = Option.some (.im (tArg C flds) (.inl x))) : View K w n Γ n (Γ.set i (.im tI x)) := fun σ B H ok => by
  obtain ⟨v, h1, h2⟩ := ok.sl i _ h
  have o2 := ok.setIm (i := i) (t := tI) (x := x) (v := v) h2
  rw [slot_same h1] at o2
  exact ⟨B, Ex.refl _, o2⟩
theorem View.isR {C : Addr} {flds : α → Flds} {i : Nat} {x : α} (h : Γ[i]? = Option.some (.im (tArg C flds) (.inr x))) : View K w n Γ n (Γ.set i (.im (tObj C flds) x)) := fun σ B H ok => by
  obtain ⟨v, h1, h2⟩ := ok.sl i _ h
  have o2 := ok.setIm (i := i) (t := tObj C flds) (x := x) (v := v) h2
  rw [slot_same h1] at o2
  exact ⟨B, Ex.refl _, o2⟩
/-! own dicts lent -/
theorem lent_d {kvs : List (Int × α)} : Lent PDict (rD t kvs) (tD t) kvs :=
  ⟨(fun xs ⟨_, h⟩ => by cases h), fun ⟨kv, h, _⟩ => ⟨kv, h⟩, fun {l B o} ⟨kv, h, p⟩ hb => ⟨l, kv, rfl, by subst h; exact upd_same, pw_mono (fun _ _ ⟨h1, h2⟩ => ⟨h1, t.mono (Ex.new hb) h2⟩) p⟩⟩
/-- d[i], d locked -/
theorem we_dgetDF {td ty : TE} {k : α → NK} (h : WpE K w n Γ td (tDF t) (fun kvs n Γ => WpE K w n Γ ty tI (fun j n Γ => ∃ x, dGet kvs j = some x ∧ k x n Γ))) : WpE K w n Γ (tDGet td ty) t k := fun σ B H ok Q c =>
  h σ B H ok _ fun kvs v n1 Γ1 B1 H1 q1 e1 o1 ⟨a, od, kv, hv, hs, p⟩ => q1 σ B1 H1 o1 _ fun j jv n2 Γ2 B2 H2 ⟨x, hx, q2⟩ e2 o2 r2 => by
    subst hv
    have p2 : Paired (fun (p : Key × V) (q : Int × α) => p.1 = .inl q.1 ∧ t.rep B2 p.2 q.2) kv kvs := pw_mono (fun _ _ ⟨g1, g2⟩ => ⟨g1, t.mono e2 g2⟩) p
    rcases valV_pair (i := j) p2 with ⟨_, z⟩ | ⟨y, x', z1, z2, z3⟩
    · rw [z] at hx; cases hx
    · rw [z2] at hx; cases hx
      exact ⟨a, y, rfl, .inl ⟨kv, .inl j, .inr ⟨od, o2.ex _ _ (e2 _ _ hs)⟩, r2, z1.symm⟩, c x y n2 Γ2 B2 H2 q2 (e1.trans e2) o2 z3⟩
/-! a frozen dict, locked -/
theorem only_get : ∀ {Γ : Env} {i j : Nat} {e e0 : Ent}, ((Γ.map fun _ => Ent.no).set i e0)[j]? = some e → (j = i ∧ e = e0 ∧ i < Γ.length) ∨ e = .no := fun {Γ i j e e0} h => by
  rw [List.getElem?_set] at h
  by_cases z : i = j
  · subst z
    rw [if_pos rfl] at h
    split at h
    · rename_i hl; cases h; exact .inl ⟨rfl, rfl, by simpa using hl⟩
    · cases h
  · rw [if_neg z, List.getElem?_map] at h
    cases hg : Γ[j]? with
    | none => rw [hg] at h; cases h
    | some a => rw [hg] at h; cases h; exact .inr rfl
theorem wm_lockD {kvs : List (Int × α)} {k : Rs → NK} (i : Nat) (hi : Γ[i]? = some (.im (tD t) kvs)) (ht : Blind PDict t) (u : Ty β) (hb : Blind PFrz u) (h : ∀ w' : Wd, SetE ((Γ.map fun _ => Ent.no).set i (.im (tDF t) kvs)) fun Γ' => WpM K w' n Γ' te (fun x n' _ => ∃ ys, x = rL u ys ∧ k (rL u ys) n' Γ)) : WpM K w n Γ (tLockE te) k := fun σ B H ok Q c => by
  obtain ⟨v0, h1, l, kv, hv, hs, p⟩ := ok.sl i _ hi
  subst hv
  refine ⟨l, .dK kv, ok.ex _ _ hs, trivial, fun od => ?_⟩
  have mB : ∀ a o, B a = some o → (upd B l (.frz od (.dK kv))) a = some o ∨ PDict o := fun a o e => by
    by_cases z : a = l
    · subst z; rw [hs] at e; cases e; exact .inr ⟨kv, rfl⟩
    · rw [upd_ne z]; exact .inl e
  have rp : (tDF t).rep (upd B l (.frz od (.dK kv))) (.ref l) kvs := ⟨l, od, kv, rfl, upd_same, pw_mono (fun _ _ ⟨q1, q2⟩ => ⟨q1, ht _ _ _ _ mB q2⟩) p⟩
  have hsm : ∀ {a : Addr}, (H a).isSome = true → ((upd H l (.frz od (.dK kv))) a).isSome = true := fun {a} e => by
    by_cases z : a = l
    · subst z; rw [upd_same]; rfl
    · rw [upd_ne z]; exact e
  have ok2 : Ok K ⟨w.d, w.ca, w.cs, upd B l (.frz od (.dK kv)), upd H l (.frz od (.dK kv))⟩ n ((Γ.map fun _ => Ent.no).set i (.im (tDF t) kvs)) σ (upd B l (.frz od (.dK kv))) (upd H l (.frz od (.dK kv))) := by
    refine ⟨fun a q e => ?_, Ex.refl _, fun a q e => .inl e, fun a q e _ => e, hsm ok.hh, hsm ok.hh, fun m q => ?_, by simp; exact ok.ln, fun j e q => ?_, fun a b e e' x _ q _ oi => ?_⟩
    · by_cases z : a = l
      · subst z; rw [upd_same] at e ⊢; exact e
      · rw [upd_ne z] at e ⊢; exact ok.ex a q e
    · obtain ⟨fr, a, b, p1, p2, p3⟩ := ok.pn m q
      have nd : w.d ≠ l := fun z => by rw [z, hs] at fr; cases fr
      have nc : w.ca ≠ l := fun z => by rw [z, hs] at p2; cases p2
      exact ⟨by show (upd B l _) w.d = none; rw [upd_ne nd]; exact fr, a, b, by show (upd H l _) w.d = _; rw [upd_ne nd]; exact p1, by show (upd B l _) w.ca = _; rw [upd_ne nc]; exact p2, p3⟩
    · rcases only_get q with ⟨rfl, rfl, _⟩ | rfl
      · exact ⟨.ref l, h1, rp⟩
      · trivial
    · rcases only_get q with ⟨rfl, rfl, _⟩ | rfl
      · exact oi.elim
      · exact oi.elim
  refine h _ σ _ _ ok2 _ fun x v n' Γ' B' H' ⟨ys, hx, q⟩ _ o2 ow => ?_
  subst hx
  have c2 := o2.nil
  have hB : B' l = some (.frz od (.dK kv)) := c2.ex0 l _ upd_same
  obtain ⟨⟨ob, k1, vs, rfl, pv⟩, k2, k3, k4⟩ := ow
  have k3 : (upd H l (.frz od (.dK kv))) v = none := k3
  have vl : v ≠ l := fun z => by rw [z, upd_same] at k3; cases k3
  rw [upd_ne vl] at k3
  have eb : Ex B (upd B' l (.dK kv)) := fun a q e => by
    by_cases z : a = l
    · subst z; rw [upd_same]; rw [hs] at e; exact e
    · rw [upd_ne z]; exact c2.ex0 a q (by show (upd B l _) a = some q; rw [upd_ne z]; exact e)
  have kpH : ∀ a q, a ≠ w.d → H a = some q → (upd H' l (.dK kv)) a = some q := fun a q na e => by
    by_cases z : a = l
    · subst z; rw [upd_same]; rw [ok.ex _ _ hs] at e; exact e
    · rw [upd_ne z]; exact c2.kp a q (by show (upd H l _) a = some q; rw [upd_ne z]; exact e) na
  have h0n : ∀ a, H a = none → w.H0 a = none := fun a y => by
    cases hq : w.H0 a with
    | none => rfl
    | some u =>
      by_cases na : a = w.d
      · subst na; exact (noS y ok.hh).elim
      · rw [ok.kp a u hq na] at y; cases y
  have mv : ∀ a q, B' a = some q → (upd B' l (.dK kv)) a = some q ∨ PFrz q := fun a q e => by
    by_cases z : a = l
    · subst z; rw [hB] at e; cases e; exact .inr ⟨od, _, rfl⟩
    · rw [upd_ne z]; exact .inl e
  have o3 : Ok K w n' Γ σ (upd B' l (.dK kv)) (upd H' l (.dK kv)) := by
    refine ⟨fun a q e => ?_, ok.ex0.trans eb, fun a q e => ?_, fun a q e na => kpH a q na (ok.kp a q e na), ok.hd, ?_, fun m q => ?_, ok.ln, fun j en q => ?_, ok.ds⟩
    · by_cases z : a = l
      · subst z; rw [upd_same] at e ⊢; exact e
      · rw [upd_ne z] at e ⊢; exact c2.ex a q e
    · by_cases z : a = l
      · subst z; rw [upd_same] at e; exact ok.nw _ _ (e ▸ hs)
      · rw [upd_ne z] at e
        rcases c2.nw a q e with y | y
        · have y : (upd B l _) a = some q := y
          rw [upd_ne z] at y; exact ok.nw a q y
        · have y : (upd H l _) a = none := y
          rw [upd_ne z] at y; exact .inr (h0n a y)
    · by_cases z : w.d = l
      · rw [z, upd_same]; rfl
      · rw [upd_ne z]; exact c2.hh
    · obtain ⟨fr, a, b, p1, p2, p3⟩ := c2.pn m q
      have fr : B' w.d = none := fr
      have p2 : B' w.ca = _ := p2
      have nd : w.d ≠ l := fun z => by rw [z, hB] at fr; cases fr
      have nc : w.ca ≠ l := fun z => by rw [z, hB] at p2; cases p2
      exact ⟨by rw [upd_ne nd]; exact fr, a, b, by rw [upd_ne nd]; exact p1, by rw [upd_ne nc]; exact p2, p3⟩
    · have s := ok.sl j en q
      refine s.keep eb rfl fun a ha => ?_
      obtain ⟨ob, g1, g2, g3⟩ := s.owned ha
      have na : a ≠ w.d := fun z => noS g3 (z ▸ ok.hd)
      have al : a ≠ l := fun z => by rw [z, hs] at g2; cases g2
      refine ⟨by rw [g1]; exact kpH a ob na g1, ?_, g3⟩
      rw [upd_ne al]
      cases hq : B' a with
      | none => rfl
      | some u =>
        rcases c2.nw a u hq with y | y
        · have y : (upd B l _) a = some u := y
          rw [upd_ne al, g2] at y; cases y
        · have y : (upd H l _) a = none := y
          rw [upd_ne al, g1] at y; cases y
  refine ⟨c2.ex _ _ hB, c _ v n' Γ _ _ q eb o3 ⟨⟨_, by rw [upd_ne vl]; exact k1, vs, rfl, pw_mono (fun _ _ => hb _ _ _ _ mv) pv⟩, by rw [upd_ne vl]; exact k2, h0n v k3, fun j en hj z => ?_⟩⟩
  obtain ⟨_, g1, _⟩ := (ok.sl j _ hj).owned z
  rw [k3] at g1; cases g1
end
end TL
namespace TL
open PySem L2 PyProof.Rows PySem.Calls
open PySem.W (Frag)
section
variable {K : Frag} {w : Wd} {n : Option Nat} {Γ : Env} {α β γ δ ρ A : Type} {t : Ty α} {u : Ty β} {ta tb tc te : TE} {ts ts' : TS} {res : ρ → Ent} {nx bk ct : NK} {rt : ρ → Option Nat → Prop}
/-- a, b, c = (datum), (own thing), (own thing) -/
theorem ws_par3EMM {i j l : Nat} (hij : i ≠ j) (h : WpE K w n Γ ta t (fun x n0 Γ0 => WpM K w n0 Γ0 tb (fun r1 n1 Γ1 => Γ1 = Γ0 ∧ ∀ w' : Wd, SetE (hideE Γ0 []) fun Γh => WpM K w' n1 Γh tc (fun r2 n2 _ => SetE (((Γ0.set i (.im t x)).set j (.mu r1)).set l (.mu r2)) (nx n2))))) :
    WpS K w n Γ (tPar3 i j l (tCons ta (tCons tb (tCons tc tNil)))) res nx bk ct rt := fun σ B H ok D a b c d =>
  h σ B H ok _ fun x v n0 Γ0 B0 H0 q0 e0 o0 rx => q0 σ B0 H0 o0 _ fun r1 l1 n1 Γ1 B1 H1 ⟨hg1, q1⟩ e1 o1 ow1 => by
    subst hg1
    refine q1 ⟨w.d, w.ca, w.cs, B1, H1⟩ σ B1 H1 (o1.inner []) _ fun r2 l2 n2 Γ2 B2 H2 q2 e2 o2 ow2 => ?_
    have ok2 := o1.back o2.nil
    have ow1b := ow1.back o1 o2.nil
    have ow2c := ow2.out o1
    have h2n : H1 l2 = none := ow2.h0
    have i1 : ∃ ob, H1 l1 = some ob := ⟨_, ow1.ob.choose_spec.1⟩
    have ne : l2 ≠ l1 := fun z => by
      obtain ⟨ob, q⟩ := i1
      rw [← z, h2n] at q; cases q
    refine ⟨v, .ref l1, .ref l2, rfl, a _ _ _ B2 H2 q2 ((e0.trans e1).trans e2) ?_⟩
    have a1 := ok2.setIm (i := i) (t := t) (x := x) (v := v) (t.mono (e1.trans e2) rx)
    have a2 := a1.setMu (i := j) (l := l1) (r := r1) ⟨ow1b.ob, ow1b.b, ow1b.h0, fun i' e' hi z => by
      rcases get_set hi with ⟨rfl, rfl, il⟩ | ⟨nm, hm⟩
      · exact z.elim
      · rw [List.getElem?_set, if_neg nm] at z
        exact ow1b.df i' e' hm z⟩
    refine a2.setMu (i := l) ⟨ow2c.ob, ow2c.b, ow2c.h0, fun i' e' hi z => ?_⟩
    rcases get_set hi with ⟨rfl, rfl, il⟩ | ⟨nm, hm⟩
    · have il2 : j < Γ1.length := by rw [List.length_set] at il; exact il
      have z' : ((σ.set i (some v)).set j (some (V.ref l1)))[j]? = some (some (V.ref l2)) := z
      rw [List.getElem?_set, if_pos rfl, if_pos (by rw [List.length_set, ← ok2.ln]; exact il2)] at z'
      cases z'
      exact ne rfl
    · rw [List.getElem?_set, if_neg nm] at z
      rcases get_set hm with ⟨rfl, rfl, il⟩ | ⟨nm2, hm⟩
      · exact z.elim
      · rw [List.getElem?_set, if_neg nm2] at z
        exact ow2c.df i' e' hm z
end
end TL

/-! # TL: an int or an instance: operators of either kind; instances called; abs, f-strings of own objects -/
namespace TL
open PySem L2 PyProof.Rows PySem.Calls
open PySem.W (Frag)
/-- an instance called, by its promise -/
structure CallBy (P : Program) (w : World) (K : Frag) (mg : Str → Option Value) (base : Heap) (CX : CXT) (k : Nat) (C : Addr) (ps : List Str) (sp : Sp) : Prop where
  cl : Cls K C
  ex : ∃ f fd, StX.CallO K C f ∧ FnOk P w K mg base CX k f fd ps sp ∧ Binds K fd ps []
section
variable {X : Cx} {k : Nat} {C : Addr} {m f : Str} {ps : List Str} {sp : Sp} {pins : List (Addr × Obj)} {σ : L2.St} {H : Hp} {s : Shared} {a b e fe : Expr} {es : List Expr} {ta tb tf : TE} {t : TA} {pos : Pos}
theorem op_or {F : Value → Value → Sem Value} {r1 r2 : R2} (h1 : OpR X F r1) (h2 : OpR X F r2) : OpR X F (fun x y H Q => r1 x y H Q ∨ r2 x y H Q) := fun pins s σ H x y v u Q I rx ry h => h.elim (h1 pins s σ H x y v u Q I rx ry) (h2 pins s σ H x y v u Q I rx ry)
theorem un_or {F : Value → Sem Value} {r1 r2 : V → Hp → VK → Prop} (h1 : UnR X F r1) (h2 : UnR X F r2) : UnR X F (fun x H Q => r1 x H Q ∨ r2 x H Q) := fun pins s σ H x v Q I rx h => h.elim (h1 pins s σ H x v Q I rx) (h2 pins s σ H x v Q I rx)
theorem call_or {F : Value} {r1 r2 : List V → Hp → VK → Prop} (h1 : CallR X F r1) (h2 : CallR X F r2) : CallR X F (fun xs H Q => r1 xs H Q ∨ r2 xs H Q) := fun pins s σ H xs us Q I rx h => h.elim (h1 pins s σ H xs us Q I rx) (h2 pins s σ H xs us Q I rx)
def rAbsOwn (C : Addr) (sp : Sp) : List V → Hp → VK → Prop := fun xs H Q => ∃ x, xs = [x] ∧ InsV C x H ∧ sp [x] H Q E0
theorem call_absOwn (c : MethBy X.prog X.w X.K X.mg X.base CX0 k C "__abs__" ps sp) (hr : Room (k + 1) X.A) : CallR X (.builtin "abs") (rAbsOwn C sp) := by
  intro pins s σ H xs us Q I rx h
  obtain ⟨x, hx, ⟨a, dx, fs, hxa, ha⟩, q⟩ := h
  subst hx; subst hxa
  obtain rfl : us = [Value.ref a] := by
    cases rx with
    | cons r1 r2 =>
      cases r2
      cases (show _ = Value.ref a from r1)
      rfl
  obtain ⟨ox, od, J⟩ := ins_look I ha
  obtain ⟨f, h1, h2, h3⟩ := run_ownA (A := X.A.in1) c hr.in1 rfl I
  refine call_function_entry kind_abs plain_abs entry_abs (args_abs _) ?_
  unfold Builtin.«abs»
  refine wpAny_bind (m := oneArg "abs" _) (wpAny_pure ?_)
  refine wpAny_bind (m := callSpecial? (.ref a) (Str.ofString "__abs__")) (PySem.W.special_fn I.kIn J h1 (beq_iff_eq.mp h2) (wpAny_mono (h3 [.ref a] [.ref a] _ (.cons rfl .nil) q) (fun r s' z => ?_) fun _ _ e => e))
  exact wpAny_pure ⟨_, rfl, z⟩
/-- {x}: a text, an int, or an own object with __str__ -/
def tFmtO (C : Addr) (sp : Sp) (te : TE) : TE := fun σ H Q => te σ H fun x H1 => ((∃ y : Str, x = .str y ∧ y.length ≤ sizeLine ∧ Q (.str y) H1) ∨ ∃ i : Int, x = .int i ∧ i.natAbs.log2 < 1920 ∧ Q (.str (toString i)) H1) ∨
  (InsV C x H1 ∧ sp [x] H1 (fun v H' => ∃ z, v = .str z ∧ Q (.str z) H') E0)
theorem pe_fmtO {mg : Str → Option Value} {nm : Str} (ic : IsC X.K mg C nm) (c : MethBy X.prog X.w X.K X.mg X.base CX0 k C "__str__" ps sp) (hr : Room (k + 1) X.A) (he : PE X e ta) :
    PE X (.FormattedValue e (-1) none pos) (tFmtO C sp ta) := by
  refine ⟨fun pins s σ H Q I h => ?_⟩
  refine wpAny_FormattedValue_plain (thn (he.run pins s σ H _ I h) fun v s1 hv => ?_)
  obtain ⟨x, H1, I1, r1, q⟩ := hv
  rcases q with (⟨y, rfl, hz, q⟩ | ⟨i, rfl, hz, q⟩) | ⟨⟨a, dx, fs, hx, ha⟩, q⟩
  · obtain ⟨t, rfl⟩ := r1
    exact wpAny_formatField_str ⟨.str y, H1, I1, ⟨t, rfl⟩, q⟩ ⟨.str y, H1, I1.tok _, ⟨_, rfl⟩, q⟩ hz
  · obtain ⟨t, rfl⟩ := r1
    exact wpAny_formatField_int hz ⟨.str (toString i), H1, I1.tok _, ⟨_, rfl⟩, q⟩
  · subst hx
    cases (show v = Value.ref a from r1)
    have I2 := I1.tok (s1.toks + 1)
    obtain ⟨ox, od, J⟩ := ins_look I1 ha
    obtain ⟨f, h1, h2, h3⟩ := run_ownA (A := X.A.in1) c hr.in1 rfl I2
    refine PySem.W.kfo_fieldS hr.in1.units0 I1.kIn J ic.fm ic.hm h1 h2 (wpAny_mono (h3 [.ref a] [.ref a] _ (.cons rfl .nil) q) (fun r s' z => ?_) fun _ _ e => e)
    obtain ⟨v, H', I', rv, z, rfl, q'⟩ := z
    obtain ⟨t, rfl⟩ := (show ∃ t, r = Value.str z t from rv)
    exact ⟨.str z, H', I', ⟨t, rfl⟩, q'⟩
/-- o(..) -/
def tCallW (C : Addr) (sp : Sp) (tf : TE) (t : TA) : TE := fun σ H Q => tf σ H fun y H1 => InsV C y H1 ∧ t σ H1 fun vs H2 => InsV C y H2 ∧ sp (y :: vs) H2 Q E0
theorem pe_callW (hf : PE X fe tf) (c : CallBy X.prog X.w X.K X.mg X.base CX0 k C ps sp) (hr : Room k X.A) (ha : PA X (e :: es) t)
    (ht : eval (.Call fe (e :: es) [] pos) X.env = (do callWith pos (← eval fe X.env) [] (backTo pos (starEach (e :: es) X.env)) (backToKw pos (keywordEach [] X.env))) := by rfl)
    (he : starEach (e :: es) X.env = (false, eval e X.env) :: starEach es X.env := by rfl) (hpl : (backTo pos (starEach es X.env)).any (·.1) = false := by rfl) : PE X (.Call fe (e :: es) [] pos) (tCallW C sp tf t) := by
  refine ⟨fun pins s σ H Q I h => ?_⟩
  obtain ⟨g, fd, c1, c2, c3⟩ := c.ex
  refine Call_ (thn (hf.run pins s σ H _ I h) fun u s1 ⟨y, H1, I1, ry, ⟨a, dx, fs, ey, _⟩, q⟩ => ?_) ht
  subst ey
  obtain rfl : u = Value.ref a := ry
  refine StX.callO_with (thn (ha.run pos pins s1 σ H1 _ I1 q) fun us s2 ⟨vs, H2, I2, r, ⟨a', dx', fs', ea, hi⟩, q2⟩ => ?_) he hpl
  cases ea
  have hi2 : StX.InsC X H2 a C := .inr ⟨_, _, hi⟩
  obtain ⟨ox, od, J, hd⟩ := StX.insC_at I2 hi2
  exact ⟨⟨C, ox, od, J, hd⟩, StX.run_callO c1 (c2.raw c3 .nil) hr pass0 I2 hi2 r (by rw [List.append_nil]; exact q2)⟩
theorem call_isiTK (K : Frag) (hK : X.K = K) : CallR X (.builtin "isinstance") (rIsiT K) := hK ▸ call_isiT
end
section
variable {K : Frag} {w : Wd} {n : Option Nat} {Γ : Env} {α β γ δ ρ A : Type} {t : Ty α} {u : Ty β} {ta tb te : TE} {tr : TA} {ts ts' : TS} {res : ρ → Ent} {nx bk ct : NK} {rt : ρ → Option Nat → Prop}
theorem we_argL {C : Addr} {flds : α → Flds} {k : Int → NK} (h : WpE K w n Γ ta (tArg C flds) (fun x n Γ => ∃ i, x = .inl i ∧ k i n Γ)) : WpE K w n Γ ta tI k := fun σ B H ok Q c =>
  h σ B H ok _ fun x v n' Γ' B' H' ⟨y, hx, q⟩ e o r => by subst hx; exact c y v n' Γ' B' H' q e o r
theorem we_argR {C : Addr} {flds : α → Flds} {k : α → NK} (h : WpE K w n Γ ta (tArg C flds) (fun x n Γ => ∃ i, x = .inr i ∧ k i n Γ)) : WpE K w n Γ ta (tObj C flds) k := fun σ B H ok Q c =>
  h σ B H ok _ fun x v n' Γ' B' H' ⟨y, hx, q⟩ e o r => by subst hx; exact c y v n' Γ' B' H' q e o r
/-- isinstance(x, (int, C)), x an int or an instance -/
theorem we_isIntOwn {mg : Str → Option Value} {nm : Str} {C : Addr} {flds : α → Flds} (ic : IsC K mg C nm) {k : Bool → NK} (h : WpE K w n Γ ta (tArg C flds) (fun x n Γ => k true n Γ)) :
    WpE K w n Γ (tCB (rIsiT K) (tCons ta (tCons (tTup (tCons (tC (.ty "int")) (tCons (tC (.ref C)) tNil))) tNil))) tBo k := fun σ B H ok Q c =>
  h σ B H ok _ fun x v n1 Γ1 B1 H1 q e o r => by
    refine ⟨(by show 2 ≤ sizeLine; rw [sizeLine_eq]; decide), fun p hp => ?_⟩
    have o2 := o.grow (Grow.open (o := .tup [.ty "int", .ref C]) o.ex hp)
    have e2 : Ex H1 (upd H1 p (.tup [.ty "int", .ref C])) := Ex.new hp
    cases x with
    | inl i =>
      have r : v = .int i := r
      subst r
      exact ⟨_, p, _, .type "int", [.type "int", .ref C], true, rfl, upd_same, .cons (.ty _) (.cons (.own C) .nil), .base (.int i), by unfold PySem.W.kitAny; rw [show PySem.W.kitOne K (.type "int") (.type "int") = some true from kit_ty rfl], c _ _ n1 Γ1 B1 _ q e o2 rfl⟩
    | inr y =>
      obtain ⟨a, dx, fs, rfl, hs⟩ := insV_obj r o.ex
      refine ⟨_, p, _, .ref C, [.type "int", .ref C], true, rfl, upd_same, .cons (.ty _) (.cons (.own C) .nil), .base (.ins (e2 _ _ hs) ic.cl ic.ha ic.hn ic.htk ic.hm), ?_, c _ _ n1 Γ1 B1 _ q e o2 rfl⟩
      have h1 : PySem.W.kitOne K (.ref C) (.type "int") = some false := by
        unfold PySem.W.kitOne PySem.W.kitCls
        rw [if_neg (by intro z; cases beq_iff_eq.mp z)]
        show (if _ then _ else _) = _
        rw [if_pos (by decide +kernel)]
        exact ic.si
      have h2 : PySem.W.kitOne K (.ref C) (.ref C) = some true := by unfold PySem.W.kitOne; simp
      unfold PySem.W.kitAny PySem.W.kitAny
      rw [h1]
      dsimp only
      rw [h2]
/-- f(s) -/
theorem we_callW {S : FS K} {sp : Sp} (sub : ∀ vs H Q X, S.sp vs H Q X → sp vs H Q X) {C : Addr} {flds : α → Flds} {s : Ty S.ρ} {R : TyA A} (hres : S.res = fun x => .im s x) (hc : S.cost = 0) (up : α → A → S.A) (hup : ∀ {d B v vs a b}, (tObj C flds).rep B v a → R.rep d B vs b → S.args.rep d B (v :: vs) (up a b)) {k : S.ρ → NK}
    (h : WpE K w n Γ ta (tObj C flds) (fun a n Γ => WpA K w n Γ tr R (fun b n Γ => S.pre (up a b) ∧ ∀ x, S.post (up a b) x → k x n Γ))) : WpE K w n Γ (tCallW C sp ta tr) s k := fun σ B H ok Q c =>
  h σ B H ok _ fun a v1 n1 Γ1 B1 H1 q1 e1 o1 r1 => ⟨insV_obj r1 o1.ex, q1 σ B1 H1 o1 _ fun b vs n2 Γ2 B2 H2 ⟨hp, q⟩ e2 o2 r2 =>
    ⟨insV_obj ((tObj C flds).mono e2 r1) o2.ex, sub _ _ _ _ (own_val (k := k) hres hc o2 (hup ((tObj C flds).mono e2 r1) r2) hp q fun x v B' H' hk e' o' r' => c x v n2 Γ2 B' H' hk ((e1.trans e2).trans e') o' r')⟩⟩
theorem we_absO {S : FS K} {sp : Sp} (sub : ∀ vs H Q X, S.sp vs H Q X → sp vs H Q X) {C : Addr} {flds : α → Flds} {s : Ty S.ρ} (hres : S.res = fun x => .im s x) (hc : S.cost = 0) (up : α → S.A) (hup : ∀ {d B v a}, (tObj C flds).rep B v a → S.args.rep d B [v] (up a)) {k : S.ρ → NK}
    (h : WpE K w n Γ ta (tObj C flds) (fun a n Γ => S.pre (up a) ∧ ∀ x, S.post (up a) x → k x n Γ)) : WpE K w n Γ (tCB (rAbsOwn C sp) (tCons ta tNil)) s k := fun σ B H ok Q c =>
  h σ B H ok _ fun a v1 n1 Γ1 B1 H1 ⟨hp, q⟩ e1 o1 r1 =>
    ⟨v1, rfl, insV_obj r1 o1.ex, sub _ _ _ _ (own_val (k := k) hres hc o1 (hup r1) hp q fun x v B' H' hk e' o' r' => c x v n1 Γ1 B' H' hk (e1.trans e') o' r')⟩
/-- {x}, x an int or an instance -/
theorem we_fmtA {S : FS K} {sp : Sp} (sub : ∀ vs H Q X, S.sp vs H Q X → sp vs H Q X) {C : Addr} {flds : α → Flds} (f : S.ρ → List Nat) (hres : S.res = fun x => .im tX (f x)) (hc : S.cost = 0) (up : α → S.A) (hup : ∀ {d B v a}, (tObj C flds).rep B v a → S.args.rep d B [v] (up a)) {k : List Nat → NK}
    (h : WpE K w n Γ ta (tArg C flds) (fun a n Γ => match a with
      | .inl i => i.natAbs.log2 < 1920 ∧ k (txI i) n Γ
      | .inr a => S.pre (up a) ∧ ∀ x, S.post (up a) x → k (f x) n Γ)) : WpE K w n Γ (tFmtO C sp ta) tX k := fun σ B H ok Q c =>
  h σ B H ok _ fun a v1 n1 Γ1 B1 H1 q e1 o1 r1 => by
    cases a with
    | inl i => exact .inl (.inr ⟨i, r1, q.1, c _ _ n1 Γ1 B1 H1 q.2 e1 o1 (by show V.str _ = V.str _; rw [txI_S])⟩)
    | inr y =>
      obtain ⟨hp, q⟩ := q
      refine .inr ⟨insV_obj r1 o1.ex, sub _ _ _ _ ⟨w.d, w.ca, w.cs, n1, B1, up y, o1.entry, hup r1, hp, .inl hc, fun x v n' B' H' hx hcc e' o' sl => ?_⟩⟩
      rw [hres] at sl
      obtain ⟨v', h1, h2⟩ := sl
      cases h1
      have hn : n' = n1 := by
        rcases hcc with ⟨_, z⟩ | ⟨m, z1, z2⟩
        · exact z
        · rw [z1, z2, hc]; rfl
      subst hn
      cases h2
      exact ⟨_, rfl, c _ _ _ Γ1 B' H' (q x hx) (e1.trans e') (o1.back o') rfl⟩
end
end TL
namespace TL
open PySem L2 PyProof.Rows PySem.Calls
open PySem.W (Frag)
section
variable {X : Cx} {k : Nat} {C : Addr} {m f : Str} {ps : List Str} {sp : Sp} {e o : Expr} {es : List Expr} {to : TE} {t : TA} {pos apos : Pos}
/-- o.f(..), f a field that holds an instance -/
theorem pe_callFld (K : Frag) (hK : X.K = K) {pl : Sem Bool} (ho : PE X o to) (c : CallBy X.prog X.w X.K X.mg X.base CX0 k C ps sp) (hr : Room k X.A) (ha : PA X (e :: es) t)
    (he : starEach (e :: es) X.env = (false, eval e X.env) :: starEach es X.env := by rfl) (hpl : (backTo pos (starEach es X.env)).any (·.1) = false := by rfl)
    (ht : eval (.Call (.Attribute o f apos) (e :: es) [] pos) X.env = (do
      let ov ← eval o X.env
      standAt apos.atName
      let (f, first) ← holding [ov] (getMethod ov f pl)
      callWith pos f first (backTo pos (starEach (e :: es) X.env)) (backToKw pos (keywordEach [] X.env))) := by rfl) : PE X (.Call (.Attribute o f apos) (e :: es) [] pos) (tCallW C sp (tFld K to f) t) := by
  subst hK
  refine ⟨fun pins s σ H Q I h => ?_⟩
  obtain ⟨g, fd, c1, c2, c3⟩ := c.ex
  refine PySem.W.methodCall_KW (pl := pl) (thn (ho.run pins s σ H _ I h) fun u s1 ⟨x, H1, I1, rx, a, D, dx, fs, v, ex, ea, cl, na, hl, ⟨b, dy, gs, ey, _⟩, q⟩ => ?_) ht
  subst ex; subst ey
  obtain rfl : u = Value.ref a := rx
  obtain ⟨ox, od, J⟩ := ins_look I1 ea
  refine PySem.W.method_usual I1.kIn J (PySem.W.plainGet_of (cl.get f)).1 (PySem.W.plainGet_of (cl.get f)).2 na rfl (getattr_ok I1 ea cl na hl fun u2 s2 I2 ru => ?_)
  obtain rfl : u2 = Value.ref b := ru
  refine StX.callO_with (thn (ha.run pos pins s2 σ H1 _ I2 q) fun us s3 ⟨vs, H2, I3, r, ⟨a', dx', fs', ea', hi⟩, q2⟩ => ?_) he hpl
  cases ea'
  have hi2 : StX.InsC X H2 b C := .inr ⟨_, _, hi⟩
  obtain ⟨ox, od, J, hd⟩ := StX.insC_at I3 hi2
  exact ⟨⟨C, ox, od, J, hd⟩, StX.run_callO c1 (c2.raw c3 .nil) hr pass0 I3 hi2 r (by rw [List.append_nil]; exact q2)⟩
end
end TL
namespace TL
open PySem L2 PyProof.Rows PySem.Calls
open PySem.W (Frag)
section
variable {X : Cx}
theorem pg_lstK (K : Frag) (hK : X.K = K) {es : List Expr} {k : Nat} {t : TGs} {n : Nat} {pos : Pos} (hc : X.calm = true) (h : PGs X es t) (hn : (assignEach es X.env).length = n := by rfl) (hst : (assignEach es X.env).findIdx? (·.1) = none := by rfl) : PG X (.Tuple es k pos) (gLst K n t) := by
  subst hK; exact pg_lst hc h hn hst
end
section
variable {K : Frag} {w : Wd} {n : Option Nat} {Γ : Env} {α : Type} {t : Ty α}
theorem wg_lst4 {a b c d : Nat} {x y z u : α} {k : NK} (h : SetE ((((Γ.set a (.im t x)).set b (.im t y)).set c (.im t z)).set d (.im t u)) (k n)) :
    WpG K w n Γ (gLst K 4 (gCons (gName a) (gCons (gName b) (gCons (gName c) (gCons (gName d) gNil))))) (tL t) [x, y, z, u] k := fun σ B H ok v ⟨p, vs, hv, hs, pw⟩ Q q => by
  cases pw with | cons h1 pw => cases pw with | cons h2 pw => cases pw with | cons h3 pw => cases pw with | cons h4 pw =>
  cases pw
  refine ⟨p, _, hv, SqL.of (ok.ex _ _ hs), rfl, _, _, rfl, _, _, rfl, _, _, rfl, _, [], rfl, rfl, ?_⟩
  exact q n _ _ B H h (Ex.refl _) ((((ok.setIm h1).setIm h2).setIm h3).setIm h4)
theorem wg_lst5 {a b c d e : Nat} {x y z u m : α} {k : NK} (h : SetE (((((Γ.set a (.im t x)).set b (.im t y)).set c (.im t z)).set d (.im t u)).set e (.im t m)) (k n)) :
    WpG K w n Γ (gLst K 5 (gCons (gName a) (gCons (gName b) (gCons (gName c) (gCons (gName d) (gCons (gName e) gNil)))))) (tL t) [x, y, z, u, m] k := fun σ B H ok v ⟨p, vs, hv, hs, pw⟩ Q q => by
  cases pw with | cons h1 pw => cases pw with | cons h2 pw => cases pw with | cons h3 pw => cases pw with | cons h4 pw => cases pw with | cons h5 pw =>
  cases pw
  refine ⟨p, _, hv, SqL.of (ok.ex _ _ hs), rfl, _, _, rfl, _, _, rfl, _, _, rfl, _, _, rfl, _, [], rfl, rfl, ?_⟩
  exact q n _ _ B H h (Ex.refl _) (((((ok.setIm h1).setIm h2).setIm h3).setIm h4).setIm h5)
end
end TL

/-! # TL: own errors: made, raised -/
namespace TL
namespace Er
open PySem PySem.W PySem.Calls PyProof.Rows PySem.HandSPX
open L2 (defArgs defBody defScope)

/-- self.f = f; .. -/
inductive Stores : List Stmt → List Str → Prop
  | nil : Stores [] []
  | cons {f : Str} {r : List Stmt} {fs : List Str} {q1 q2 q3 q4 : Pos} : Stores r fs → Stores (.Assign [.Attribute (.Name "self" q1) f q2] (.Name f q3) q4 :: r) (f :: fs)
/-- super().__init__(text), then the fields -/
def Body (b : List Stmt) (fs : List Str) : Prop := ∃ (p0 p1 ap p2 pos pe : Pos) (j : Nat) (m : Str) (r : List Stmt),
  b = .Expr (.Call (.Attribute (.Call (.Name "super" p0) [] [] p1) "__init__" ap) [.Constant (.str m) j p2] [] pos) pe :: r ∧ Stores r fs ∧
  ∀ env : PySem.Env, ∃ pl : Sem Bool, eval (.Call (.Attribute (.Call (.Name "super" p0) [] [] p1) "__init__" ap) [.Constant (.str m) j p2] [] pos) env = (do
      let ov ← attributeBase (.Call (.Name "super" p0) [] [] p1) "__init__" env (eval (.Call (.Name "super" p0) [] [] p1) env)
      standAt ap.atName
      let (f, first) ← holding [ov] (getMethod ov "__init__" pl)
      callWith pos f first (backTo pos (starEach [.Constant (.str m) j p2] env)) [])
def fmap : List (Str × Value) → (Str → Option Value) → Str → Option Value
  | [], m => m
  | (f, v) :: r, m => fmap r (fun y => if y = f then some v else m y)
/-- what the written part says of an own error's class C, named xn, made by st, with the fields fs -/
structure ErrC (P : Program) (K : Frag) (mg : Str → Option Value) (C : Addr) (xn : Str) (st : Stmt) (fs : List Str) : Prop where
  gC : mg xn = some (.ref C)
  cls : ∃ nm q N bs bm sn sub ab col dd k0 k1 k2 k3 k5, K.lookup C = some (excClassObj nm q C N bs bm true sn sub ab col dd k0 k1 k2 k3 k5 "ValueError.__new__") ∧ refsVE bm = true
  sa : findIn K (.ref C) "__setattr__" = some (some (.builtin "object.__setattr__"))
  no : ∀ f ∈ fs, findIn K (.ref C) f = some none
  exC : subIn K (.ref C) (.type "BaseException") = some true
  veC : subIn K (.ref C) (.type "ValueError") = some true
  tyC : typeIn K (.ref C) = some (.type "type")
  kC : keepIn K (.ref C) = true
  ini : ∃ (fI cc cda : Addr) (qual : Str) (oc : Value) (od : Option Addr) (kV doc pm : Value) (an : Option Addr) (ct : Value) (osl : Array (Option Value)) (ccl : Value) (cdd : Option Addr) (vs : Array Value) (ccs : Array (Option Value)) (file : Str) (tf : Tok) (cl : Value) (cld : Option Addr) (csl : Array (Option Value)),
    findIn K (.ref C) "__init__" = some (some (.ref fI)) ∧ typeIn K (.ref fI) = some (.type "function") ∧
    K.lookup fI = some ⟨oc, od, .func (ksFn "__init__" qual (defArgs st) (defBody st) (defScope st) .none kV doc pm an (.ref cda) ct cc), osl⟩ ∧ codeIn K (.ref cda) qual = true ∧
    K.lookup cda = some ⟨ccl, cdd, .fields vs, ccs⟩ ∧ vs[2]? = some (.str file tf) ∧ (P.main.file == file) = true ∧ K.lookup cc = some ⟨cl, cld, .cell (some (.ref C)), csl⟩ ∧
    ∀ (s : Shared) (us : List Value), us.length = (("self" : Str) :: fs).length → BindsTo s (ksFn "__init__" qual (defArgs st) (defBody st) (defScope st) .none kV doc pm an (.ref cda) ct cc) ⟨us, []⟩ ((("self" : Str) :: fs).zip us)
  sup : ks_superIn K C C "__init__" = some (some (.builtin "ValueError.__init__"))
  own : mroIn K C (.ref C) = some true
  any : nsIn K cStatics "thirdparty.any" = some none
  nsup : mg "super" = none
  top : (P.main.scope.names.lookup ("super" : Str)).isSome = false
  body : Body (defBody st) fs
  hd : ∃ ar : Arg, ((defArgs st).posonlyargs ++ (defArgs st).args).head? = some ar ∧ ar.arg = "self"
  cell : ∀ x ∈ (defScope st).names, x.2 ≠ .cell
  loc : ∀ x ∈ (("self" : Str) :: fs), (defScope st).names.lookup x = some .local
  ks : (defScope st).names.lookup ("super" : Str) = some .globalImplicit
  kc : (defScope st).names.lookup ("__class__" : Str) = some .free
  co : (defScope st).isCoroutine = false
  gen : (defScope st).isGenerator = false
  kind : (defScope st).kind = .function
  nd : (("self" : Str) :: fs).Nodup
  dbg : ∀ f ∈ fs, (f == ("__debug__" : Str)) = false
theorem lookup_of_mem : ∀ {l : List (Str × Value)} {f : Str} {u : Value}, (l.map (·.1)).Nodup → (f, u) ∈ l → l.lookup f = some u
  | [], _, _, _, h => by cases h
  | (g, v) :: l, f, u, nd, h => by
    rcases List.mem_cons.mp h with e | h2
    · cases e; simp [List.lookup]
    · have ne : (f == g) = false := by
        have : g ∉ l.map (·.1) := (List.nodup_cons.mp nd).1
        rw [beq_eq_false_iff_ne]
        rintro rfl
        exact this (List.mem_map_of_mem (f := (·.1)) h2)
      simp only [List.lookup, ne]
      exact lookup_of_mem (List.nodup_cons.mp nd).2 h2
theorem map_fst_zip : ∀ {fs : List Str} {us : List Value}, fs.length = us.length → (fs.zip us).map (·.1) = fs
  | [], [], _ => rfl
  | _ :: _, [], h => by simp at h
  | [], _ :: _, h => by simp at h
  | f :: fs, u :: us, h => by simp [map_fst_zip (fs := fs) (us := us) (by simpa using h)]
theorem pairs_zip {m : Str → Option Value} : ∀ {fs : List Str} {us : List Value}, fs.length = us.length → (∀ p ∈ fs.zip us, m p.1 = some p.2) → Paired (fun f u => m f = some u) fs us
  | [], [], _, _ => .nil
  | _ :: _, [], h, _ => by simp at h
  | [], _ :: _, h, _ => by simp at h
  | f :: fs, u :: us, h, q => .cons (q (f, u) (by simp)) (pairs_zip (by simpa using h) fun p hp => q p (by simp [hp]))
section
variable {prog : Program} {w : World} {A : Around} {E : Value → Shared → Prop} {R : Result → Shared → Prop} {K : Frag} {C : Addr} {env : PySem.Env}
theorem set_one {x : Addr} {s : Shared} {f : Str} {u : Value} {q1 q2 q3 q4 : Pos} {L : Addr} {m : Str → Option Value} {Q : Flow → Shared → Prop} (hL : env.locals = L) (hn : s.heap.Ns L m) (hk : env.scope.kind = .function) (hs : env.kindOf "self" = some .local) (hf : env.kindOf f = some .local)
    (hdb : (f == ("__debug__" : Str)) = false) (ms : m "self" = some (.ref x)) (mf : m f = some u)
    (h : wpAny (model prog w) A (setAttr (.ref x) f u) (fun _ => Q .next) E s)
    (hsw : swapsWith (.Name f q3) (some (.Attribute (.Name "self" q1) f q2)) q4.line env = pure false := by rfl) : wpAny (model prog w) A (exec (.Assign [.Attribute (.Name "self" q1) f q2] (.Name f q3) q4) env) Q E s := by
  subst hL
  refine plainObj_wpAny_Assign_Attribute ?_ hsw
  exact wpAny_Name (wpAny_loadName_local hk hf hn mf (wpAny_Name (wpAny_loadName_local hk hs hn ms h) (by decide))) hdb
/-- the fields that follow -/
theorem stores_old {cd : ClassData} {x dx L : Addr} {fv : Array Value} (hcd : clsIn K C = some cd) (hm : refsVE cd.mro = true) (hh : cd.hasDict = true) (sa : findIn K (.ref C) "__setattr__" = some (some (.builtin "object.__setattr__"))) (hL : env.locals = L) (hk : env.scope.kind = .function) (hs : env.kindOf "self" = some .local)
    {m : Str → Option Value} (ms : m "self" = some (.ref x)) (ne : L ≠ x) (nk : K.lookup x = none) (nd : K.lookup dx = none) (nL : L ≠ dx) (nx : x ≠ dx) :
    ∀ {r : List Stmt} {fs : List Str}, Stores r fs → ∀ {us : List Value} {s : Shared} {m0 : Str → Option Value} {nl : List Str} {Q : Flow → Shared → Prop}, K.In s.heap → s.heap.Ns L m → s.heap.get? x = some { cls := .ref C, dict := some dx, data := .fields fv } → s.heap.Ns1 dx m0 → Within m0 nl → nl.length + fs.length ≤ 1000 →
    Paired (fun f u => m f = some u) fs us → (∀ f ∈ fs, env.kindOf f = some .local ∧ findIn K (.ref C) f = some none ∧ (f == ("__debug__" : Str)) = false) →
    (∀ h' tk', (∀ b o, b ≠ dx → s.heap.get? b = some o → h'.get? b = some o) → h'.get? x = some { cls := .ref C, dict := some dx, data := .fields fv } → h'.Ns1 dx (fmap (fs.zip us) m0) → Q .next { s with heap := h', toks := tk' }) →
    wpAny (model prog w) A (execs r env) Q E s := by
  intro r fs S
  induction S with
  | nil =>
    intro us s m0 nl Q X hn hx hns hw hz p hf hq
    cases p
    exact wpAny_execs_nil (hq s.heap s.toks (fun _ _ _ e => e) hx hns)
  | @cons f r fs q1 q2 q3 q4 S ih =>
    intro us s m0 nl Q X hn hx hns hw hz p hf hq
    cases p with
    | @cons _ u _ us hu p =>
      obtain ⟨f1, f2, f3⟩ := hf f List.mem_cons_self
      obtain ⟨oD, esD, epD, hoD, hdD, _⟩ := hns.count hw
      refine wpAny_execs_cons (set_one hL hn hk hs f1 f3 ms hu ?_ ?_)
      · refine set_plain X (x := x) (C := C) (ox := { cls := .ref C, dict := some dx, data := .fields fv }) (od := some oD) ⟨hx, rfl, rfl, hoD⟩ sa ?_
        obtain ⟨hp, g, d, t, os⟩ := s
        refine PySem.OEX.osa_old X hx hns hw (by simp at hz; omega) hcd hm hh f2 fun h' tk' k hn' => ?_
        have hx' : h'.get? x = some { cls := .ref C, dict := some dx, data := .fields fv } := k _ _ nx hx
        refine ih (nl := f :: nl) (s := ⟨h', g, d, tk', os⟩) (fun a o e => k a o (fun z => by rw [z, nd] at e; cases e) (X a o e)) ?_ hx' hn' (Within.cons f u hw) (by simp at hz ⊢; omega) p (fun g hg => hf g (List.mem_cons_of_mem _ hg)) fun h2 tk2 k2 hx2 hn2 => ?_
        · obtain ⟨oL, es, ep, e, rest⟩ := hn
          exact ⟨oL, es, ep, k _ _ nL e, rest⟩
        · exact hq h2 tk2 (fun b o hb e => k2 b o hb (k b o hb e)) hx2 hn2
      · first | rfl | with_unfolding_all rfl

/-- what __init__ leaves -/
def Left (h h' : Heap) (x C : Addr) (fus : List (Str × Value)) : Prop := (∀ b o, b ≠ x → h.get? b = some o → h'.get? b = some o) ∧ ∃ (t1 : Addr) (dd : Option Addr),
  h'.get? x = some { cls := .ref C, dict := dd, data := .fields #[.ref t1, .none, .none, .none, .bool false, .none] } ∧
  (fus = [] ∧ dd = none ∨ ∃ dx, fus ≠ [] ∧ dd = some dx ∧ h.objs.size ≤ dx ∧ dx ≠ x ∧ h'.Ns1 dx (fmap fus fun _ => none))
theorem stores_new {cd : ClassData} {x t1 L : Addr} (hcd : clsIn K C = some cd) (hm : refsVE cd.mro = true) (hh : cd.hasDict = true) (sa : findIn K (.ref C) "__setattr__" = some (some (.builtin "object.__setattr__"))) (hL : env.locals = L) (hk : env.scope.kind = .function) (hs : env.kindOf "self" = some .local)
    {m : Str → Option Value} (ms : m "self" = some (.ref x)) (ne : L ≠ x) (nk : K.lookup x = none) {r : List Stmt} {fs : List Str} (S : Stores r fs) {us : List Value} {s : Shared} {Q : Flow → Shared → Prop} (X : K.In s.heap) (hn : s.heap.Ns L m)
    (hx : s.heap.get? x = some (excO C t1)) (hz : fs.length < 1000) (p : Paired (fun f u => m f = some u) fs us) (hf : ∀ f ∈ fs, env.kindOf f = some .local ∧ findIn K (.ref C) f = some none ∧ (f == ("__debug__" : Str)) = false)
    (hq : ∀ h' tk', Left s.heap h' x C (fs.zip us) → Q .next { s with heap := h', toks := tk' }) : wpAny (model prog w) A (execs r env) Q E s := by
  cases S with
  | nil =>
    cases p
    exact wpAny_execs_nil (hq s.heap s.toks ⟨fun _ _ _ e => e, t1, none, hx, .inl ⟨rfl, rfl⟩⟩)
  | @cons f r fs q1 q2 q3 q4 S =>
    cases p with
    | @cons _ u _ us hu p =>
      obtain ⟨f1, f2, f3⟩ := hf f List.mem_cons_self
      refine wpAny_execs_cons (set_one hL hn hk hs f1 f3 ms hu ?_ ?_)
      · refine set_plain X (x := x) (C := C) (ox := excO C t1) (od := none) ⟨hx, rfl, rfl, trivial⟩ sa ?_
        obtain ⟨hp, g, d, t, os⟩ := s
        refine exc_osa X hx hcd hm hh f2 fun h' tk' dx k dn dne hx' hn' => ?_
        have kL : L < hp.objs.size := hn.lt
        have nL : L ≠ dx := Nat.ne_of_lt (Nat.lt_of_lt_of_le kL dn)
        have X' : K.In h' := fun a o e => k a o (fun z => by rw [z, nk] at e; cases e) (X a o e)
        have nd : K.lookup dx = none := by
          cases e : K.lookup dx with
          | none => rfl
          | some o => exact absurd (Nat.lt_of_lt_of_le (Heap.lt_size (X dx o e)) dn) (Nat.lt_irrefl _)
        refine stores_old (fv := #[.ref t1, .none, .none, .none, .bool false, .none]) hcd hm hh sa hL hk hs ms ne nk nd nL (Ne.symm dne) S (nl := [f]) (s := ⟨h', g, d, tk', os⟩) X' ?_ hx' hn' ?_ (by simp at hz ⊢; omega) p (fun g hg => hf g (List.mem_cons_of_mem _ hg)) fun h2 tk2 k2 hx2 hn2 => ?_
        · obtain ⟨oL, es, ep, e, rest⟩ := hn
          exact ⟨oL, es, ep, k _ _ ne e, rest⟩
        · exact Within.cons f u Within.nil
        · exact hq h2 tk2 ⟨fun b o hb e => k2 b o (fun z => by rw [z] at e; exact absurd (Nat.lt_of_lt_of_le (Heap.lt_size e) dn) (Nat.lt_irrefl _)) (k b o hb e), t1, some dx, hx2, .inr ⟨dx, by simp, rfl, dn, dne, hn2⟩⟩
      · first | rfl | with_unfolding_all rfl

def Blt (h : Heap) : Prop := ∃ mb, h.Ns builtinsNs mb ∧ ∀ x : Str, x ≠ "__name__" → mb x = bootBuiltins x
variable {mg : Str → Option Value} {xn : Str} {st : Stmt} {fs : List Str}
theorem err_init (T : ErrC prog K mg C xn st fs) : ∃ fI : Addr, findIn K (.ref C) "__init__" = some (some (.ref fI)) ∧ typeIn K (.ref fI) = some (.type "function") ∧ ∀ (A : Around) (R : Result → Shared → Prop) (s : Shared) (x t0 : Addr) (us : List Value),
    K.In s.heap → s.heap.Ns mainGlobals mg → Blt s.heap → s.heap.NoLimit → s.heap.get? x = some (excO C t0) → K.lookup x = none → A.depth < recursionLimit → us.length = fs.length → fs.length < 1000 →
    (∀ h' tk, Left s.heap h' x C (fs.zip us) → R (.ok (.ret .none)) { s with heap := h', toks := tk }) → codeAny (model prog w) A (.call (.ref fI) ⟨.ref x :: us, []⟩) R s := by
  obtain ⟨fI, cc, cda, qual, oc, od, kV, doc, pm, an, ct, osl, ccl, cdd, vs, ccs, file, tf, cl, cld, csl, hi, ht, lk, hcd, lcd, hvs, hfile, lcc, hb⟩ := T.ini
  obtain ⟨nm, q, N, bs, bm, sn, sub, ab, col, dd, k0, k1, k2, k3, k5, lC, hbm⟩ := T.cls
  have hcl : clsIn K C = some { name := nm, bases := bs, mro := .ref C :: bm, ns := N, qualname := q, hasDict := true, slotNames := sn, subclasses := sub, abstract := ab, collection := col, hasDel := false } := by unfold clsIn; rw [lC] <;> rfl
  refine ⟨fI, hi, ht, fun A R s x t0 us X G Bt lim hx hnx hroom hl hz hq => ?_⟩
  refine ks_codeAny_call_defAt (fd := ksFn "__init__" qual (defArgs st) (defBody st) (defScope st) .none kV doc pm an (.ref cda) ct cc) (body := defBody st) (binds := (("self" : Str) :: fs).zip (.ref x :: us)) hroom (X _ _ lk) rfl lim (codeRec_of X hcd) rfl (hb s (.ref x :: us) (by simp [hl])) T.cell (fun y hy => T.loc y.1 (List.of_mem_zip hy).1) (fun h₀ hns k => ?_) T.co T.gen T.kind
  obtain ⟨p0, p1, ap, p2, pos, pe, j, msg, r, hbody, S, hev⟩ := T.body
  obtain ⟨hp, g, d, t, os⟩ := s
  have nd : (((("self" : Str) :: fs).zip (.ref x :: us)).reverse.map (·.1)).Nodup := by
    rw [List.map_reverse, map_fst_zip (by simp [hl])]
    exact List.pairwise_reverse.mpr (T.nd.imp fun h e => h e.symm)
  have ms : ∀ f u, (f, u) ∈ (("self" : Str) :: fs).zip (.ref x :: us) → (((("self" : Str) :: fs).zip (.ref x :: us)).reverse.lookup f) = some u := fun f u h => lookup_of_mem nd (List.mem_reverse.mpr h)
  have X₀ : K.In h₀ := X.keeps k
  have hx₀ := k _ _ hx
  have nLx : hp.objs.size ≠ x := Nat.ne_of_gt (Heap.lt_size hx)
  refine (congrArg (fun b => PySem.wpAt _ _ _ (execs b _) _ _ _) hbody).mpr ?_
  obtain ⟨pl, hpl⟩ := hev (callEnv (ksFn "__init__" qual (defArgs st) (defBody st) (defScope st) .none kV doc pm an (.ref cda) ct cc) hp.objs.size fI)
  refine ks_wpAt_execs_cons (ks_wpAt_Expr_any (ks_wpAt_MethodCall ?_ hpl) (by show (((defScope st).kind == .module) && _) = false; rw [T.kind]; rfl) rfl)
  obtain ⟨ar, har, hself⟩ := T.hd
  refine ks_wpAt_super_base T.ks T.kc (by decide) rfl (X₀ _ _ lk) rfl har rfl (X₀ _ _ lcd) rfl hvs hfile T.top ?_
  obtain ⟨mb, hmb, hbb⟩ := Bt
  refine ks_loadName_global T.kind T.ks (loadGlobal_builtin (G.keeps k) T.nsup (hmb.keeps k) (v := .type "super") ((hbb "super" (by decide)).trans (by first | rfl | kernel_rfl | decide +kernel)) ⟨rfl, ?_⟩)
  refine wpAny_loadName_free T.kind T.kc rfl ⟨_, X₀ _ _ lcc, rfl⟩ ?_
  rw [hself]
  refine wpAny_loadName_local T.kind (T.loc _ List.mem_cons_self) hns (ms "self" (.ref x) (by simp)) ?_
  refine ks_wpAny_isType_cls (X₀ _ _ lC) rfl ⟨rfl, ?_⟩
  refine ks_wpAny_call_super (X₀ _ _ lC) rfl hx₀ rfl (fun c e => by cases e) (looks_mroIn X₀ T.own) (fun h2 e2 k2 => ?_)
  have X₂ : K.In h2 := X₀.keeps k2
  have I2 : InstAt h2 x (excO C t0) C none := ⟨k2 _ _ hx₀, rfl, rfl, trivial⟩
  have hf := T.sup
  unfold ks_superIn at hf
  rw [hcl] at hf
  refine kxs_getMethod kxs_ValueError e2 (looks_opaque X₂ T.any) (l₀ := .ref C :: bm) ((looks_clsIn X₂ hcl).andThen .now) rfl X₂ hf (I2.type.andThen (looks_subIn X₂ T.veC)) (ks_ne X₂ I2 hcl) (by decide) ?_
  have k3 : ∀ b o, h2.get? b = some o → (h2.push (kxs_mw "ValueError.__init__" x)).get? b = some o := fun b o e => Heap.get?_push_of_some _ e
  have hu : (h2.push (kxs_mw "ValueError.__init__" x)).get? h2.objs.size = some (kxs_mw "ValueError.__init__" x) := Heap.get?_push_at rfl rfl
  have hse : ∀ env : PySem.Env, starEach [.Constant (.str msg) j p2] env = (false, eval (.Constant (.str msg) j p2) env) :: starEach [] env := fun _ => rfl
  rw [hse]
  refine kxs_callWith (i := "ValueError.__init__") (x := x) rfl (evalArgs_plain (x := eval (.Constant (.str msg) j p2) _) (spliced_cons (x := eval (.Constant (.str msg) j p2) _) ?_))
  refine wpAny_Constant_str (spliced_nil ⟨hu, ?_⟩)
  have hC3 := k3 _ _ (X₂ _ _ lC)
  have he3 := k3 _ _ (k2 _ _ hx₀)
  refine wpAny_call (codeAny_of_tree ?_)
  show wpAny _ _ (callAny (.ref h2.objs.size) ⟨_, []⟩) _ _ _
  simp only [callAny]
  refine wpAny_bind (wpAny_load hu ?_)
  simp only [kxs_mw, show (Value.type "method-wrapper" == Value.type "method" || Value.type "method-wrapper" == Value.type "builtin_function_or_method" || Value.type "method-wrapper" == Value.type "method-wrapper") = true by decide, if_true]
  refine KFB.if_so (by decide) ?_
  refine wpAny_bind (check_bound_init PySem.F.excBase_ValueError.toExcCallFacts hC3 he3 rfl ?_)
  refine wpAny_bind (wpAny_pure (wpAny_pure ?_))
  refine ⟨plainId_quiet PySem.F.excBase_ValueError.init.plain _, codeAny_builtin PySem.F.excBase_ValueError.initEntry ?_⟩
  refine exc_init_tree (cls := .ref C) (t0 := t0) (dv := none) (c2 := .none) (c3 := .none) (b4 := .bool false) he3 (by show 1 ≤ sizeLine; rw [sizeLine_eq]; omega) fun h4 k4 e4 _ => ?_
  have kx : ∀ b o, b ≠ x → h₀.get? b = some o → h4.get? b = some o := fun b o hb e => k4 b o hb (k3 b o (k2 b o e))
  have X₄ : K.In h4 := fun a o e => kx a o (fun z => by rw [z, hnx] at e; cases e) (X₀ a o e)
  have hns4 : h4.Ns hp.objs.size (fun y => ((("self" : Str) :: fs).zip (.ref x :: us)).reverse.lookup y) := by
    obtain ⟨oL, es, ep, e, rest⟩ := hns
    exact ⟨oL, es, ep, kx _ _ nLx e, rest⟩
  show PySem.wpAt _ _ _ (execs r _) _ _ _
  refine wpAt_of_wpAny (stores_new (env := callEnv (ksFn "__init__" qual (defArgs st) (defBody st) (defScope st) .none kV doc pm an (.ref cda) ct cc) hp.objs.size fI) (t1 := (h2.push (kxs_mw "ValueError.__init__" x)).objs.size) hcl (show refsVE (.ref C :: bm) = true from hbm) rfl T.sa rfl T.kind (T.loc _ List.mem_cons_self) (ms "self" (.ref x) (by simp)) nLx hnx S X₄ hns4 e4 hz
    (pairs_zip hl.symm fun p hp => ms p.1 p.2 (by simp [hp])) (fun f hf => ⟨T.loc f (List.mem_cons_of_mem _ hf), T.no f hf, T.dbg f hf⟩) fun h' tk' L => ?_)
  refine hq h' tk' ?_
  obtain ⟨l1, t1, dd, l2, l3⟩ := L
  refine ⟨fun b o hb e => l1 b o hb (kx b o hb (k b o e)), t1, dd, l2, l3.imp_right fun ⟨dx, a, b, c, e⟩ => ⟨dx, a, b, ?_, e⟩⟩
  exact Nat.le_trans (Nat.le_of_lt hns4.lt) c

/-- a made error -/
def Made (h h' : Heap) (e C : Addr) (fus : List (Str × Value)) : Prop := (∀ b o, h.get? b = some o → h'.get? b = some o) ∧ h.objs.size ≤ e ∧ ∃ (oe : Obj) (vs : Array Value) (dd : Option Addr),
  h'.get? e = some oe ∧ oe.cls = .ref C ∧ oe.dict = dd ∧ oe.data = .fields vs ∧ vs[1]? = some .none ∧ (fus = [] ∧ dd = none ∨ ∃ dx, fus ≠ [] ∧ dd = some dx ∧ h.objs.size ≤ dx ∧ dx ≠ e ∧ h'.Ns1 dx (fmap fus fun _ => none))
theorem err_made (T : ErrC prog K mg C xn st fs) {s : Shared} {us : List Value} (X : K.In s.heap) (G : s.heap.Ns mainGlobals mg) (Bt : Blt s.heap) (lim : s.heap.NoLimit) (hroom : A.depth + 1 < recursionLimit) (hl : us.length = fs.length) (hz : fs.length < 1000)
    (hq : ∀ h' tk e, Made s.heap h' e C (fs.zip us) → R (.ok (.ret (.ref e))) { s with heap := h', toks := tk }) : codeAny (model prog w) A (.call (.ref C) ⟨us, []⟩) R s := by
  obtain ⟨fI, hi, ht, hinit⟩ := err_init (w := w) T
  obtain ⟨nm, q, N, bs, bm, sn, sub, ab, col, dd, k0, k1, k2, k3, k5, hC, hbm⟩ := T.cls
  obtain ⟨hp, g, dr, tk, os⟩ := s
  have k : ∀ b o, hp.get? b = some o → ((hp.push (kdv_tup us)).push (excO C hp.objs.size)).get? b = some o := fun b o e => Heap.get?_push_of_some _ (Heap.get?_push_of_some _ e)
  have hget : ((hp.push (kdv_tup us)).push (excO C hp.objs.size)).get? (hp.objs.size + 1) = some (excO C hp.objs.size) := by heap_get
  have hnx : K.lookup (hp.objs.size + 1) = none := by
    cases e : K.lookup (hp.objs.size + 1) with
    | none => rfl
    | some o =>
      have z : hp.get? (hp.objs.size + 1) = some o := X _ _ e
      exact absurd (Nat.lt_of_succ_lt (Heap.lt_size z)) (Nat.lt_irrefl _)
  obtain ⟨mb, hmb, hbb⟩ := Bt
  refine call_own PySem.F.excBase_ValueError (fun X => refsVE_contains X bm hbm) (X _ _ hC) (looks_findIn X hi) (fun self => bind_fn X self ht) (by rw [sizeLine_eq]; omega) ?_
  refine hinit _ _ ⟨(hp.push (kdv_tup us)).push (excO C hp.objs.size), g, dr, tk, os⟩ (hp.objs.size + 1) hp.objs.size us (X.keeps k) (G.keeps k) ⟨mb, hmb.keeps k, hbb⟩ (lim.keeps k) hget hnx ?_ hl hz fun h' tk' L => ?_
  · show A.depth + 1 < recursionLimit
    exact hroom
  · obtain ⟨l1, t1, dd, l2, l3⟩ := L
    have old : ∀ b o, hp.get? b = some o → h'.get? b = some o := fun b o e => l1 b o (Nat.ne_of_lt (Nat.lt_succ_of_lt (Heap.lt_size e))) (k b o e)
    refine ⟨rfl, hq h' tk' (hp.objs.size + 1) ⟨old, Nat.le_succ _, _, _, dd, l2, rfl, rfl, rfl, rfl, l3.imp_right fun ⟨dx, a, b, c, e⟩ => ⟨dx, a, b, ?_, e⟩⟩⟩
    have dn := c
    rw [Heap.size_push, Heap.size_push] at dn
    exact Nat.le_trans (Nat.le_trans (Nat.le_succ _) (Nat.le_succ _)) dn
end
theorem fmap_get : ∀ (l : List (Str × Value)) (m : Str → Option Value) (f : Str), (l.map (·.1)).Nodup → fmap l m f = (match l.lookup f with | some u => some u | none => m f)
  | [], m, f, _ => rfl
  | (g, v) :: l, m, f, nd => by
    have nd' := List.nodup_cons.mp nd
    show fmap l (fun y => if y = g then some v else m y) f = _
    rw [fmap_get l _ f nd'.2]
    by_cases e : f = g
    · subst e
      have hn : l.lookup f = none := by
        cases q : l.lookup f with
        | none => rfl
        | some u => exact absurd (List.mem_map_of_mem (f := (·.1)) (PySem.mem_of_lookup q)) nd'.1
      simp [List.lookup, hn]
    · have hb : (f == g) = false := beq_eq_false_iff_ne.mpr e
      simp only [List.lookup, hb, if_neg e]
end Er

/-! ### own errors as expressions and statements -/
section
open PySem L2
open PySem.W (Frag)
open Er
/-- an error C(..) with the fields fs is made -/
def tMkE (C : Addr) (fs : List Str) (ta : TA) : L2.St → Hp → XK → Prop := fun σ H Q => ta σ H fun vs H1 => vs.length = fs.length ∧ (fs = [] → Q (.ref C) none H1) ∧ (fs ≠ [] → ∀ d, H1 d = none → Q (.ref C) (some d) (upd H1 d (.xd (fs.zip vs))))
theorem lookup_zip : ∀ {fs : List Str} {vs : List V} {us : List Value}, Vals vs us → ∀ f, RelO ((fs.zip vs).lookup f) ((fs.zip us).lookup f)
  | [], _, _, _, _ => trivial
  | _ :: _, _, _, .nil, _ => trivial
  | g :: fs, _, _, .cons r rs, f => by
    simp only [List.zip_cons_cons, List.lookup]
    by_cases h : (f == g) = true
    · rw [h]; exact r
    · rw [Bool.eq_false_iff.mpr h]; exact lookup_zip rs f
section
variable {X : Cx} {C : Addr} {xn : Str} {st : Stmt} {fs : List Str} {k : Nat}
theorem run_err {pins : List (Addr × Obj)} {σ : L2.St} {H : Hp} {s : Shared} {Q : XK} {us : List Value} {vs : List V} (T : ErrC X.prog X.K X.mg C xn st fs) (hr : Room k X.A) (hz : fs.length < 1000) (I : Inv X pins σ H s) (r : Vals vs us) (hl : vs.length = fs.length)
    (h0 : fs = [] → Q (.ref C) none H) (h1 : fs ≠ [] → ∀ d, H d = none → Q (.ref C) (some d) (upd H d (.xd (fs.zip vs)))) : wpAny (model X.prog X.w) X.A (call (.ref C) us) (MkP X pins σ Q) X.xe s := by
  have hlim := I.nolimit
  have hlu : us.length = fs.length := by rw [← r.length]; exact hl
  have bt : Blt s.heap := by
    obtain ⟨mb, h1, h2⟩ := I.mod.blt
    exact ⟨mb, h1.keeps I.bk, h2⟩
  have hkin := I.kIn
  have hG := I.mod.glob.keeps I.bk
  obtain ⟨hp, g, dr, tk, os⟩ := s
  refine wpAny_call (err_made T hkin hG bt hlim (by have := hr.dp; omega) hlu hz fun h' tk' e M => ?_)
  show MkP X pins σ Q (.ref e) ⟨h', g, dr, tk', os⟩
  obtain ⟨keep, big, oe, fv, dd, hoe, hc, hd, hdat, hf1, hcase⟩ := M
  obtain ⟨G', g1, g2⟩ := restrict h' fun b => decide (b ≠ e)
  have gk : ∀ b, b ≠ e → G'.get? b = h'.get? b := fun b hb => g1 b (decide_eq_true hb)
  have ge : G'.get? e = none := g2 e (by simp)
  have old : ∀ b o, hp.get? b = some o → G'.get? b = some o := fun b o q => (gk b (Nat.ne_of_lt (Nat.lt_of_lt_of_le (Heap.lt_size q) big))).trans (keep b o q)
  have up : ∀ b o, G'.get? b = some o → h'.get? b = some o := fun b o q => by
    by_cases hb : b = e
    · rw [hb, ge] at q; cases q
    · exact (gk b hb).symm.trans q
  have fe : H e = none := I.hok.fresh big
  rcases hcase with ⟨hn, rfl⟩ | ⟨d, hn, rfl, dbig, dne, hns⟩
  · have e0 : fs = [] := by
      cases fs with
      | nil => rfl
      | cons f fs =>
        cases us with
        | nil => simp at hlu
        | cons u us => simp at hn
    exact ⟨e, oe, fv, ⟨G', g, dr, tk', os⟩, H, .ref C, none, rfl, I.kept (h' := G') (t' := tk') old, up, ge, hoe, ⟨hc, hd⟩, hdat, hf1, fe, rfl, I.bare, raises_own T.exC T.tyC, h0 e0⟩
  · have e0 : fs ≠ [] := by
      rintro rfl
      exact hn rfl
    have ob : ObjOk X.prog X.w (upd H d (.xd (fs.zip vs))) G' d (.xd (fs.zip vs)) := ⟨_, hns.at (fun o q => (gk d dne).trans q), fun f => by
      rw [fmap_get _ _ _ (by rw [map_fst_zip hlu.symm]; exact (List.nodup_cons.mp T.nd).2)]
      have z := lookup_zip (fs := fs) r f
      cases q : (fs.zip us).lookup f with
      | none => rw [q] at z; exact z
      | some u => rw [q] at z; exact z⟩
    have J : Inv X pins σ (upd H d (.xd (fs.zip vs))) ⟨G', g, dr, tk', os⟩ := I.laid (t' := tk') old dbig ob
    refine ⟨e, oe, fv, ⟨G', g, dr, tk', os⟩, _, .ref C, some d, rfl, J, up, ge, hoe, ⟨hc, hd⟩, hdat, hf1, ?_, rfl, I.bare, raises_own T.exC T.tyC, h1 e0 d (I.hok.fresh dbig)⟩
    rw [upd_ne (Ne.symm dne)]
    exact fe
theorem pmk_err {a : Expr} {as : List Expr} {ta : TA} {p pos : Pos} (T : ErrC X.prog X.K X.mg C xn st fs) (hr : Room k X.A) (hz : fs.length < 1000) (hg : Gl X xn) (ha : PA X (a :: as) ta) (hdb : (xn == ("__debug__" : Str)) = false := by decide)
    (he : starEach (a :: as) X.env = (false, eval a X.env) :: starEach as X.env := by rfl) (hpl : (backTo pos (starEach as X.env)).any (·.1) = false := by rfl) : PMk X (.Call (.Name xn p) (a :: as) [] pos) (tMkE C fs ta) := by
  intro pins s σ H Q I h
  refine wpAny_Call_Name_kw (ld_glob I hg T.gC ?_ hdb)
  refine PySem.W.callWith_K (h₀ := X.base) I.ok.mod.kin T.kC (thn (ha.run pos pins s σ H _ I h) fun us s1 hh => ?_) he hpl
  obtain ⟨vs, H1, I1, r1, e1, e2, e3⟩ := hh
  exact ⟨I1.kIn, run_err T hr hz I1 r1 e1 e2 e3⟩
theorem pmk_err0 {p pos : Pos} (T : ErrC X.prog X.K X.mg C xn st fs) (hr : Room k X.A) (hz : fs.length < 1000) (hg : Gl X xn) (hdb : (xn == ("__debug__" : Str)) = false := by decide) : PMk X (.Call (.Name xn p) [] [] pos) (tMkE C fs tNil) := by
  intro pins s σ H Q I h
  refine wpAny_Call_Name_kw (ld_glob I hg T.gC ?_ hdb)
  obtain ⟨e1, e2, e3⟩ := h
  exact PySem.W.callWith_K0 I.kIn T.kC (run_err T hr hz I .nil e1 e2 e3)
/-- raise C(..) -/
def tRaiseE (C : Addr) (fs : List Str) (W : WX) (ta : TA) : TS := fun _ σ H => tMkE C fs ta σ H fun cls d H' => W cls d σ H'
theorem ps_raiseE {a : Expr} {as : List Expr} {ta : TA} {W : WX} {p pos pos2 : Pos} (hc : X.calm = true) (T : ErrC X.prog X.K X.mg C xn st fs) (hr : Room k X.A) (hz : fs.length < 1000) (tk : Takes X W) (hg : Gl X xn) (ha : PA X (a :: as) ta) (hdb : (xn == ("__debug__" : Str)) = false := by decide)
    (he : starEach (a :: as) X.env = (false, eval a X.env) :: starEach as X.env := by rfl) (hpl : (backTo pos (starEach as X.env)).any (·.1) = false := by rfl) :
    PS X (.Raise (some (.Call (.Name xn p) (a :: as) [] pos)) none pos2) (tRaiseE C fs W ta) := ps_raise hc tk (pmk_err T hr hz hg ha hdb he hpl)
theorem ps_raiseE0 {W : WX} {p pos pos2 : Pos} (hc : X.calm = true) (T : ErrC X.prog X.K X.mg C xn st fs) (hr : Room k X.A) (hz : fs.length < 1000) (tk : Takes X W) (hg : Gl X xn) (hdb : (xn == ("__debug__" : Str)) = false := by decide) :
    PS X (.Raise (some (.Call (.Name xn p) [] [] pos)) none pos2) (tRaiseE C fs W tNil) := ps_raise hc tk (pmk_err0 T hr hz hg hdb)
end
end

/-! ### calls of defs that may raise -/
section
open PySem L2
open PySem.W (Frag)
variable {X : Cx} {k : Nat} {x : Str} {ps : List Str} {sp : Sp} {p pos : Pos} {e : Expr} {es : List Expr} {t : TA} {W : WX}
theorem pe_callX (c : Callee X.prog X.w X.K X.mg X.base (L2.CX X.prog X.w) k x ps sp) (hr : Room k X.A) (tk : Takes X W) (hg : Gl X x) (ha : PA X (e :: es) t) (hdb : (x == ("__debug__" : Str)) = false := by decide)
    (he : starEach (e :: es) X.env = (false, eval e X.env) :: starEach es X.env := by rfl) (hpl : (backTo pos (starEach es X.env)).any (·.1) = false := by rfl) : PE X (.Call (.Name x p) (e :: es) [] pos) (tCallS sp (WE W) t) := by
  obtain ⟨f, fd, h1, h2, h3, h4⟩ := c.ex
  exact pe_callS h3 hr hg h1 h2 h4 (fun σ => passAt tk σ) ha hdb he hpl
/-- .. where it does not raise -/
theorem pe_callX0 (c : Callee X.prog X.w X.K X.mg X.base (L2.CX X.prog X.w) k x ps sp) (hr : Room k X.A) (hg : Gl X x) (ha : PA X (e :: es) t) (hdb : (x == ("__debug__" : Str)) = false := by decide)
    (he : starEach (e :: es) X.env = (false, eval e X.env) :: starEach es X.env := by rfl) (hpl : (backTo pos (starEach es X.env)).any (·.1) = false := by rfl) : PE X (.Call (.Name x p) (e :: es) [] pos) (tCall sp [] E0 t) := by
  obtain ⟨f, fd, h1, h2, h3, h4⟩ := c.ex
  exact pe_call h3 hr hg h1 h2 h4 .nil passL ha hdb he hpl
end

/-! ### errors as data -/
section
open PySem L2
open PySem.W (Frag)
structure Err : Type 1 where
  C : Addr
  fl : Flds
def ERep (B : Hp) (cls : Value) (d : Option Addr) (er : Err) : Prop := cls = .ref er.C ∧ ((er.fl = [] ∧ d = none) ∨ ∃ dd fs, er.fl ≠ [] ∧ d = some dd ∧ B dd = some (.xd fs) ∧ FRep B (fun f => fs.lookup f) er.fl)
theorem ERep.mono {B B' : Hp} {cls : Value} {d : Option Addr} {er : Err} (e : Ex B B') (h : ERep B cls d er) : ERep B' cls d er :=
  ⟨h.1, h.2.imp_right fun ⟨dd, fs, a, b, c, q⟩ => ⟨dd, fs, a, b, e _ _ c, q.mono e⟩⟩
/-- the error that a suite holds at a -/
def tXc (a : Addr) (cls : Value) (d : Option Addr) (er : Err) : Ty Unit := ⟨fun B v _ => v = .ref a ∧ ERep B cls d er, fun e ⟨h1, h2⟩ => ⟨h1, h2.mono e⟩⟩
/-- an error of xp reaches W -/
def Wish (K : Frag) (w : Wd) (xp : Err → NK) (W : WX) : Prop := ∀ cls d er n Γ σ B H, xp er n Γ → Ok K w n Γ σ B H → ERep B cls d er → W cls d σ H
inductive FVals (B : Hp) : Flds → List V → Prop
  | nil : FVals B [] []
  | cons {f : Str} {e : Dt} {v : V} {fl : Flds} {vs : List V} : e.t.rep B v e.x → FVals B fl vs → FVals B ((f, e) :: fl) (v :: vs)
theorem FVals.len {B : Hp} {fl : Flds} {vs : List V} (h : FVals B fl vs) : fl.length = vs.length := by
  induction h with
  | nil => rfl
  | cons _ _ ih => simp [ih]
theorem FVals.mono {B B' : Hp} {fl : Flds} {vs : List V} (e : Ex B B') (h : FVals B fl vs) : FVals B' fl vs := by
  induction h with
  | nil => exact .nil
  | @cons f d v fl vs r _ ih => exact .cons (d.t.mono e r) ih
/-- the written fields of an error -/
def WpFs (K : Frag) (w : Wd) (n : Option Nat) (Γ : Env) (fs : List Str) (ta : TA) (k : Flds → NK) : Prop := ∀ σ B H, Ok K w n Γ σ B H → ∀ Q : List V → Hp → Prop,
  (∀ fl vs n' Γ' B' H', k fl n' Γ' → Ex B B' → Ok K w n' Γ' σ B' H' → fl.map (·.1) = fs → FVals B' fl vs → Q vs H') → ta σ H Q
section
variable {K : Frag} {w : Wd} {n : Option Nat} {Γ Γ' : Env} {α β γ δ ρ A : Type} {t : Ty α} {u : Ty β} {ta tb te : TE} {tr : TA} {ts ts' : TS} {res : ρ → Ent} {nx bk ct : NK} {rt : ρ → Option Nat → Prop} {xp xo : Err → NK} {W : WX} {C : Addr} {fs : List Str}
theorem wf_nil {k : Flds → NK} (h : k [] n Γ) : WpFs K w n Γ [] tNil k := fun σ B H ok Q c => c [] [] n Γ B H h (Ex.refl _) ok rfl .nil
theorem wf_cons {f : Str} {k : Flds → NK} (h : WpE K w n Γ te t (fun x n Γ => WpFs K w n Γ fs tr (fun fl n Γ => k ((f, ⟨t, x⟩) :: fl) n Γ))) : WpFs K w n Γ (f :: fs) (tCons te tr) k := fun σ B H ok Q c =>
  h σ B H ok _ fun x v n1 Γ1 B1 H1 h1 e1 o1 r1 => h1 σ B1 H1 o1 _ fun fl vs n2 Γ2 B2 H2 h2 e2 o2 l2 p2 => c _ (v :: vs) n2 Γ2 B2 H2 h2 (e1.trans e2) o2 (by simp [l2]) (.cons (t.mono e2 r1) p2)
theorem frep_zip {B : Hp} : ∀ {fl : Flds} {vs : List V}, FVals B fl vs → FRep B (fun f => ((fl.map (·.1)).zip vs).lookup f) fl
  | _, _, .nil => FRep.nil fun _ => rfl
  | _, _, .cons (f := g) (e := e) (v := v) h r => (frep_zip r).cons h fun f => by
    by_cases z : f = g
    · subst z; simp [List.lookup]
    · have hb : (f == g) = false := beq_eq_false_iff_ne.mpr z
      simp only [List.map_cons, List.zip_cons_cons, List.lookup, hb, if_neg z]
theorem ws_raiseE (hW : Wish K w xp W) (h : WpFs K w n Γ fs tr (fun fl n Γ => xp ⟨C, fl⟩ n Γ)) : WpS K w n Γ (tRaiseE C fs W tr) res nx bk ct rt := fun σ B H ok D _ _ _ _ =>
  h σ B H ok _ fun fl vs n1 Γ1 B1 H1 h1 e1 o1 l1 p1 => by
    subst l1
    refine ⟨by rw [← p1.len]; simp, fun e => ?_, fun e d hd => ?_⟩
    · have hn : fl = [] := List.map_eq_nil_iff.mp e
      subst hn
      exact hW _ _ ⟨C, []⟩ n1 Γ1 σ B1 H1 h1 o1 ⟨rfl, .inl ⟨rfl, rfl⟩⟩
    · have hn : fl ≠ [] := fun z => e (by rw [z]; rfl)
      have g := Grow.new (o := .xd ((fl.map (·.1)).zip vs)) o1.ex hd
      exact hW _ _ ⟨C, fl⟩ n1 Γ1 σ _ _ h1 (o1.grow g) ⟨rfl, .inr ⟨d, _, hn, rfl, upd_same, (frep_zip (p1.mono g.b))⟩⟩
end

/-! ### what a def promises that may raise -/
structure FX (K : Frag) where
  A : Type
  args : TyA A
  ρ : Type
  res : ρ → Ent
  cost : Nat
  pre : A → Prop
  post : A → ρ → Prop
  xpost : A → Err → Prop
def FX.sp {K : Frag} (S : FX K) : Sp := fun vs H Q E => ∃ (d ca : Addr) (cs : List Int) (n : Option Nat) (B : Hp) (a : S.A), Ok K ⟨d, ca, cs, B, H⟩ n [] [] B H ∧ S.args.rep d B vs a ∧ S.pre a ∧ May S.cost n ∧
  (∀ x v n' B' H', S.post a x → Costs S.cost n n' → Ex B B' → Ok K ⟨d, ca, cs, B, H⟩ n' [] [] B' H' → SlotOk ⟨d, ca, cs, B, H⟩ B' H' (S.res x) (some (some v)) → Q v H') ∧
  ∀ er cls dd n' B' H', S.xpost a er → Costs S.cost n n' → Ex B B' → Ok K ⟨d, ca, cs, B, H⟩ n' [] [] B' H' → ERep B' cls dd er → E cls dd H'
section
variable {K : Frag} {w : Wd} {n : Option Nat} {Γ Γ' : Env} {α β γ δ ρ A : Type} {t : Ty α} {u : Ty β} {ta tb te : TE} {tr : TA} {ts ts' : TS} {res : ρ → Ent} {nx bk ct : NK} {rt : ρ → Option Nat → Prop} {xp xo : Err → NK} {W : WX} {C : Addr} {fs : List Str}
theorem fx_len {S : FX K} [E : Ents S.args] {vs : List V} {H : Hp} {Q : VK} {X : XK} (h : S.sp vs H Q X) : vs.length = E.len := by
  obtain ⟨d, ca, cs, n, B, a, _, r, _⟩ := h
  exact (E.ok r).2.1
theorem fx_body {S : FX K} [E : Ents S.args] {N : List Str} {vs : List V} {H : Hp} {Q : VK} {X : XK} {t : TS} (hN : E.len ≤ N.length) (hsp : S.sp vs H Q X)
    (body : ∀ (w : Wd) (n : Option Nat) (a : S.A), S.pre a → May S.cost n → Wish K w (fun er n' _ => S.xpost a er ∧ CLe S.cost n n') (fun cls d _ H => X cls d H) →
      WpS K w n (E.ents a ++ List.replicate (N.length - E.len) .no) t S.res
      (fun n' _ => ∃ x, S.post a x ∧ S.res x = .im tN () ∧ CLe S.cost n n') (fun _ _ => False) (fun _ _ => False) (fun x n' => S.post a x ∧ CLe S.cost n n')) :
    t { nx := fun _ H' => Q .non H', rt := Q } (L2.start N vs) H := by
  obtain ⟨d, ca, cs, n, B, a, o, r, hp, hm, q, qx⟩ := hsp
  obtain ⟨l1, l2, l3⟩ := E.ok r
  have ok0 : Ok K ⟨d, ca, cs, B, H⟩ n (E.ents a ++ List.replicate (N.length - E.len) .no) (L2.start N vs) B H := by
    have noown : ∀ (i : Nat) e, (E.ents a ++ List.replicate (N.length - E.len) Ent.no)[i]? = some e → ∀ s a, ¬ e.owns s a := fun i e z => by
      by_cases hi : i < (E.ents a).length
      · rw [List.getElem?_append_left hi] at z
        exact (l3 H ⟨d, ca, cs, B, H⟩ rfl i _ z).1
      · rw [List.getElem?_append_right (by omega), List.getElem?_replicate] at z
        split at z
        · cases z; exact fun _ _ y => y
        · cases z
    refine ⟨o.ex, o.ex0, o.nw, o.kp, o.hd, o.hh, o.pn, ?_, fun i e z => ?_, fun i j e e' a _ z _ oi => absurd oi (noown i e z _ a)⟩
    · unfold L2.start; simp [l1, l2]
    · by_cases hi : i < (E.ents a).length
      · rw [List.getElem?_append_left hi] at z
        have := (l3 H ⟨d, ca, cs, B, H⟩ rfl i _ z).2
        unfold L2.start
        rw [List.getElem?_append_left (by simpa [← l1] using hi)]
        exact this
      · rw [List.getElem?_append_right (by omega), List.getElem?_replicate] at z
        split at z
        · cases z; trivial
        · cases z
  have fin : ∀ {n' : Option Nat} {B' H' : Hp}, CLe S.cost n n' → Ok K ⟨d, ca, cs, B, H⟩ n' [] [] B' H' → ∃ n2, Costs S.cost n n2 ∧ Ok K ⟨d, ca, cs, B, H⟩ n2 [] [] B' H' := fun {n' B' H'} c o1 => by
    rcases c with ⟨c0, rfl⟩ | ⟨m, m', rfl, rfl, hle⟩
    · exact ⟨n', .inl ⟨c0, rfl⟩, o1⟩
    · exact ⟨some (m + S.cost), .inr ⟨m, rfl, rfl⟩, o1.le hle⟩
  refine body ⟨d, ca, cs, B, H⟩ n a hp hm (fun cls dd er n' Γ' σ' B' H' ⟨hx, hc⟩ o' r' => ?_) (L2.start N vs) B H ok0 _ (fun n' Γ' σ' B' H' ⟨x, hx, hr, hc⟩ e o' => ?_) (fun _ _ _ _ _ h _ _ => h.elim) (fun _ _ _ _ _ h _ _ => h.elim) (fun x v n' B' H' ⟨hx, hc⟩ e o' s => ?_)
  · obtain ⟨n2, c2, o2⟩ := fin hc o'.nil
    exact qx er cls dd n2 B' H' hx c2 o'.ex0 o2 r'
  · obtain ⟨n2, c2, o2⟩ := fin hc o'.nil
    exact q x .non n2 B' H' hx c2 e o2 (by rw [hr]; exact ⟨.non, rfl, rfl⟩)
  · obtain ⟨n2, c2, o2⟩ := fin hc o'
    exact q x v n2 B' H' hx c2 e o2 s
/-- a call that gives a datum, or raises -/
theorem we_callE {S : FX K} {t : Ty S.ρ} {k : S.ρ → NK} (hW : Wish K w xp W) (hres : S.res = fun x => .im t x)
    (h : WpA K w n Γ tr S.args (fun a n Γ => S.pre a ∧ May S.cost n ∧ (∀ x n', S.post a x → Costs S.cost n n' → k x n' Γ) ∧ ∀ er n', S.xpost a er → Costs S.cost n n' → xp er n' Γ)) : WpE K w n Γ (tCallS S.sp (WE W) tr) t k := fun σ B H ok Q c =>
  h σ B H ok _ fun a vs n1 Γ1 B1 H1 ⟨hp, hm, q, qx⟩ e o r => by
    refine ⟨w.d, w.ca, w.cs, n1, B1, a, o.entry, r, hp, hm, fun x v n' B' H' hx hc e' o' s => ?_, fun er cls dd n' B' H' hx hc e' o' r' => hW cls dd er n' Γ1 σ B' H' (qx er n' hx hc) (o.back o') r'⟩
    rw [hres] at s
    obtain ⟨v', h1, h2⟩ := s
    cases h1
    exact c x v n' Γ1 B' H' (q x n' hx hc) (e.trans e') (o.back o') h2
/-- a call that gives a datum and does not raise here -/
theorem we_callE0 {S : FX K} {E : XK} {t : Ty S.ρ} {k : S.ρ → NK} (hres : S.res = fun x => .im t x)
    (h : WpA K w n Γ tr S.args (fun a n Γ => S.pre a ∧ May S.cost n ∧ (∀ x n', S.post a x → Costs S.cost n n' → k x n' Γ) ∧ ∀ er, ¬ S.xpost a er)) : WpE K w n Γ (tCall S.sp [] E tr) t k := fun σ B H ok Q c =>
  h σ B H ok _ fun a vs n1 Γ1 B1 H1 ⟨hp, hm, q, qx⟩ e o r => by
    rw [List.append_nil]
    refine ⟨w.d, w.ca, w.cs, n1, B1, a, o.entry, r, hp, hm, fun x v n' B' H' hx hc e' o' s => ?_, fun er cls dd n' B' H' hx hc e' o' r' => absurd hx (qx er)⟩
    rw [hres] at s
    obtain ⟨v', h1, h2⟩ := s
    cases h1
    exact c x v n' Γ1 B' H' (q x n' hx hc) (e.trans e') (o.back o') h2

/-! ### try -/
/-- the world as seen from a later base -/
theorem Ok.late {σ : L2.St} {B H : Hp} (o : Ok K w n Γ σ B H) : Ok K { w with B0 := B } n Γ σ B H := ⟨o.ex, Ex.refl _, fun a u q => .inl q, o.kp, o.hd, o.hh, fun k e => (o.pn k e).cast rfl rfl rfl, o.ln, fun i e q => (o.sl i e q).keep (Ex.refl _) rfl fun a ha => by
  obtain ⟨u, h1, h2, h3⟩ := (o.sl i e q).owned ha
  exact ⟨rfl, h2, h3⟩, o.ds⟩
theorem Ok.early {σ σ' : L2.St} {B H B' H' : Hp} {n' : Option Nat} (o : Ok K w n Γ σ B H) (o' : Ok K { w with B0 := B } n' Γ' σ' B' H') : Ok K w n' Γ' σ' B' H' :=
  ⟨o'.ex, o.ex0.trans o'.ex0, fun a u q => by
    rcases o'.nw a u q with z | z
    · exact o.nw a u z
    · exact .inr z, o'.kp, o'.hd, o'.hh, fun k e => (o'.pn k e).cast rfl rfl rfl, o'.ln, fun i e q => (o'.sl i e q).keep (Ex.refl _) rfl fun a ha => by
    obtain ⟨u, h1, h2, h3⟩ := (o'.sl i e q).owned ha
    exact ⟨rfl, h2, h3⟩, o'.ds⟩
theorem Ok.unset {σ : L2.St} {B H : Hp} {i : Nat} (k : Ok K w n Γ σ B H) : Ok K w n (Γ.set i .no) (σ.set i none) B H := by
  refine ⟨k.ex, k.ex0, k.nw, k.kp, k.hd, k.hh, k.pn, by rw [List.length_set, List.length_set]; exact k.ln, fun j e he => ?_, k.ds_of fun x e hx => ?_⟩
  · rw [List.getElem?_set] at he
    by_cases z : i = j
    · subst z
      rw [if_pos rfl] at he
      split at he
      · cases he; trivial
      · cases he
    · rw [if_neg z] at he
      rw [List.getElem?_set, if_neg z]
      exact k.sl j e he
  · rw [List.getElem?_set] at hx
    by_cases z : i = x
    · subst z
      rw [if_pos rfl] at hx
      split at hx
      · cases hx; exact .inl fun a z => z
      · cases hx
    · rw [if_neg z] at hx
      rw [List.getElem?_set, if_neg z]
      exact .inr ⟨e, hx, fun a ha => ha⟩
/-- what a clause does with an error: takes it, or lets it by -/
def Clause (K : Frag) (c : Value) (er : Err) (P Q : Prop) : Prop := ∃ b, PySem.W.exmOne K (.ref er.C) c = some b ∧ (b = true → P) ∧ (b = false → Q)
theorem ws_tryAs {c : Value} {i : Nat} {tb : WX → TS} {tu : Addr → Value → Option Addr → TS} {Wout : WX} (hWo : Wish K w xo Wout)
    (hb : ∀ w' W, Wish K w' xp W → WpS K w' n Γ (tb W) res nx bk ct rt)
    (hx : ∀ er n Γ, xp er n Γ → Clause K c er (∀ w' a cls d, cls = .ref er.C → SetE (Γ.set i (.im (tXc a cls d er) ())) fun Γ => WpS K w' n Γ (tu a cls d) res (fun n Γ => SetE (Γ.set i .no) (nx n)) (fun n Γ => SetE (Γ.set i .no) (bk n)) (fun n Γ => SetE (Γ.set i .no) (ct n)) rt) (xo er n Γ)) :
    WpS K w n Γ (fun D σ H => tb (wAs K c i tu Wout D) D σ H) res nx bk ct rt := fun σ B H ok D a b c' d => by
  refine hb { w with B0 := B } _ (fun cls dd er n1 Γ1 σ1 B1 H1 hxp o1 r1 => ?_) σ B H ok.late D (fun n' Γ' σ' B' H' q e o' => a n' Γ' σ' B' H' q e (ok.early o')) (fun n' Γ' σ' B' H' q e o' => b n' Γ' σ' B' H' q e (ok.early o')) (fun n' Γ' σ' B' H' q e o' => c' n' Γ' σ' B' H' q e (ok.early o'))
    (fun x v n' B' H' q e o' s => d x v n' B' H' q e (ok.early o') ?_)
  · obtain ⟨bb, h1, h2, h3⟩ := hx er n1 Γ1 hxp
    have hc := r1.1
    refine ⟨bb, by rw [hc]; exact h1, fun hb1 ad had => ?_, fun hb1 => hWo cls dd er n1 Γ1 σ1 B1 H1 (h3 hb1) (ok.early o1) r1⟩
    have o2 := o1.setIm (i := i) (t := tXc ad cls dd er) (x := ()) (v := .ref ad) ⟨rfl, r1⟩
    refine h2 hb1 { w with B0 := B } ad cls dd hc (σ1.set i (some (.ref ad))) B1 H1 o2 _ (fun n' Γ' σ' B' H' q e o' => ?_) (fun n' Γ' σ' B' H' q e o' => ?_) (fun n' Γ' σ' B' H' q e o' => ?_) (fun x v n' B' H' q e o' s => ?_)
    · exact a n' _ _ B' H' q o'.ex0 (ok.early o').unset
    · exact b n' _ _ B' H' q o'.ex0 (ok.early o').unset
    · exact c' n' _ _ B' H' q o'.ex0 (ok.early o').unset
    · refine d x v n' B' H' q o'.ex0 (ok.early o') (s.keep (Ex.refl _) rfl fun a ha => ?_)
      obtain ⟨u, h1, h2, h3⟩ := s.owned ha
      exact ⟨rfl, h2, h3⟩
  · refine s.keep (Ex.refl _) rfl fun a ha => ?_
    obtain ⟨u, h1, h2, h3⟩ := s.owned ha
    exact ⟨rfl, h2, h3⟩
theorem ws_tryOnly {c : Value} {tb : WX → TS} {tu : Addr → Value → Option Addr → TS} {Wout : WX} (hWo : Wish K w xo Wout)
    (hb : ∀ w' W, Wish K w' xp W → WpS K w' n Γ (tb W) res nx bk ct rt)
    (hx : ∀ er n Γ, xp er n Γ → Clause K c er (∀ w' a cls d, cls = .ref er.C → WpS K w' n Γ (tu a cls d) res nx bk ct rt) (xo er n Γ)) :
    WpS K w n Γ (fun D σ H => tb (wOnly K c tu Wout D) D σ H) res nx bk ct rt := fun σ B H ok D a b c' d => by
  refine hb { w with B0 := B } _ (fun cls dd er n1 Γ1 σ1 B1 H1 hxp o1 r1 => ?_) σ B H ok.late D (fun n' Γ' σ' B' H' q e o' => a n' Γ' σ' B' H' q e (ok.early o')) (fun n' Γ' σ' B' H' q e o' => b n' Γ' σ' B' H' q e (ok.early o')) (fun n' Γ' σ' B' H' q e o' => c' n' Γ' σ' B' H' q e (ok.early o'))
    (fun x v n' B' H' q e o' s => d x v n' B' H' q e (ok.early o') ?_)
  · obtain ⟨bb, h1, h2, h3⟩ := hx er n1 Γ1 hxp
    have hc := r1.1
    refine ⟨bb, by rw [hc]; exact h1, fun hb1 ad had => ?_, fun hb1 => hWo cls dd er n1 Γ1 σ1 B1 H1 (h3 hb1) (ok.early o1) r1⟩
    refine h2 hb1 { w with B0 := B } ad cls dd hc σ1 B1 H1 o1 _ (fun n' Γ' σ' B' H' q e o' => ?_) (fun n' Γ' σ' B' H' q e o' => ?_) (fun n' Γ' σ' B' H' q e o' => ?_) (fun x v n' B' H' q e o' s => ?_)
    · exact a n' _ _ B' H' q o'.ex0 (ok.early o')
    · exact b n' _ _ B' H' q o'.ex0 (ok.early o')
    · exact c' n' _ _ B' H' q o'.ex0 (ok.early o')
    · refine d x v n' B' H' q o'.ex0 (ok.early o') (s.keep (Ex.refl _) rfl fun a ha => ?_)
      obtain ⟨u, h1, h2, h3⟩ := s.owned ha
      exact ⟨rfl, h2, h3⟩
  · refine s.keep (Ex.refl _) rfl fun a ha => ?_
    obtain ⟨u, h1, h2, h3⟩ := s.owned ha
    exact ⟨rfl, h2, h3⟩
/-- a field of the error that a suite holds -/
theorem we_xf {a : Addr} {cls : Value} {d : Option Addr} {er : Err} {f : Str} {i : Nat} {x : α} {k : α → NK} (hi : Γ[i]? = some (.im (tXc a cls d er) ())) (hC : er.C = C) (hl : er.fl.lookup f = some ⟨t, x⟩) (q : k x n Γ) : WpE K w n Γ (tXf a cls d C f (tVar i)) t k := fun σ B H ok Q c => by
  obtain ⟨v, h1, rfl, hc, hcase⟩ := ok.sl i _ hi
  refine ⟨_, h1, rfl, by rw [hc, hC], ?_⟩
  rcases hcase with ⟨hn, _⟩ | ⟨dd, fs, hn, hd, hB, hr⟩
  · rw [hn] at hl; cases hl
  · obtain ⟨v, h2, h3⟩ := (hr f).2 _ hl
    exact ⟨dd, fs, v, hd, ok.ex _ _ hB, h2, c x v n Γ B H q (Ex.refl _) ok h3⟩
end
end
end TL

/-! # TL: a + b.replace(y, z) of written texts; isinstance of a caught error; own methods that raise -/
namespace TL
open PySem L2
open PySem.W (Frag)
/-! ### a + x.replace(y, z) -/
theorem replace_S {a c : List Nat} {d : Nat} (hd : d < 256) (ha : a ≠ []) : Txt.replace (SX.S a) (SX.S [d]) (SX.S c) = SX.S (joinL c (spl [d] 0 [] a)) := by
  have e1 : Txt.join (SX.S c) (Txt.split (SX.S a) (SX.S [d])) = SX.S (joinL c (spl [d] 0 [] a)) := by
    rw [SX.split_S (by simp) (by simpa using hd), SX.join_S]
  rw [← e1]
  unfold Txt.replace Txt.split Txt.join
  have hk : Builtin.Str.strKind (SX.S [d]) = 1 := by
    unfold Builtin.Str.strKind
    have : ((SX.S [d]).cps.all (· < 256)) = true := by simp [SX.S, hd]
    rw [if_pos this]
  have hk2 : 1 ≤ Builtin.Str.strKind (SX.S a) := by
    unfold Builtin.Str.strKind
    repeat (first | (split) | omega)
  have hz : ((SX.S [d]).length == 0 && (SX.S c).length == 0) = false := by rw [SX.S_len]; rfl
  cases a with
  | nil => exact absurd rfl ha
  | cons x r =>
    have h1 : ¬ (decide ((SX.S (x :: r)).length < (SX.S [d]).length) || decide (Builtin.Str.strKind (SX.S (x :: r)) < Builtin.Str.strKind (SX.S [d]))) = true := by
      rw [SX.S_len, SX.S_len, hk]
      simp only [List.length_cons, List.length_nil, Bool.or_eq_true, decide_eq_true_eq]
      omega
    rw [if_neg h1, hz, Bool.or_false]
    split
    · rfl
    · rfl
section
variable {X : Cx} {pins : List (Addr × Obj)} {σ : L2.St} {H : Hp} {s : Shared}
open PyProof.Rows
def tCatRepl (i : Nat) (a y z : Str) : TE := fun σ H Q => ∃ x, σ[i]? = some (some (.str x)) ∧ (y == z) = false ∧ x.length + (x.length + 1) * z.length ≤ 16777216 ∧ a.length + (Txt.replace x y z).length ≤ sizeLine ∧ Q (.str (a ++ Txt.replace x y z)) H
theorem pe_catRepl {i : Nat} {kx a y z : Str} {j0 j1 j2 : Nat} {p1 c0 c1 c2 apos pos pos2 : Pos} (hNk : X.N[i]? = some kx) (hvk : Vis X.env.scope kx) (hdk : (kx == ("__debug__" : Str)) = false := by decide) (hck : (kx == ("__classdict__" : Str)) = false := by decide)
    (hst : starEach [.Constant (.str y) j1 c1, .Constant (.str z) j2 c2] X.env = [(false, eval (.Constant (.str y) j1 c1) X.env), (false, eval (.Constant (.str z) j2 c2) X.env)] := by rfl)
    (hbase : attributeBase (.Name kx p1) "replace" X.env (eval (.Name kx p1) X.env) = eval (.Name kx p1) X.env := by rfl) (hline : (apos.endLine == pos.line) = true := by rfl) :
    PE X (.BinOp (.Constant (.str a) j0 c0) .Add (.Call (.Attribute (.Name kx p1) "replace" apos) [.Constant (.str y) j1 c1, .Constant (.str z) j2 c2] [] pos) pos2) (tCatRepl i a y z) := by
  refine ⟨fun pins s σ H Q I h => ?_⟩
  obtain ⟨x, hx, hyz, hb, hl, q⟩ := h
  refine wpAny_BinOp (wpAny_Constant_str ?_)
  have I1 := I.tok (s.toks + 1)
  refine PySem.Call_method2 hbase hst hline (raw_name hNk hvk I1 hx (fun v r => ?_) hdk hck)
  obtain ⟨tx, e⟩ := r
  subst e
  refine ⟨"str", _, F.plainAttrs_str, F.slot_str_replace, F.type_str_replace, typeIs_str _ _ _, (fun _ e => nomatch e), Calls.callWith_builtin rfl (Calls.evalArgs_plain (Calls.spliced_cons ?_))⟩
  refine wpAny_Constant_str (Calls.spliced_cons (wpAny_Constant_str (Calls.spliced_nil ?_)))
  refine PySem.SC.replace (by show s.toks + 1 ≠ 0; omega) (by show s.toks + 1 + 1 ≠ 0; omega) (by show s.toks + 1 ≠ s.toks + 1 + 1; omega) hyz hb fun t' k => ?_
  have I2 := I.tok k
  exact op_add_str pins _ σ H (.str a) (.str (Txt.replace x y z)) _ _ Q I2 ⟨_, rfl⟩ ⟨t', rfl⟩ ⟨a, _, rfl, rfl, hl, q⟩
end
section
variable {K : Frag} {w : Wd} {n : Option Nat} {Γ : Env} {α β γ δ ρ A : Type}
theorem we_catRepl {i : Nat} {x : List Nat} {sa sy sz : Str} {a c : List Nat} {d : Nat} {k : List Nat → NK} (ha : sa = SX.S a) (hy : sy = SX.S [d]) (hz : sz = SX.S c) (hd : d < 256) (hne : c ≠ [d]) (hx0 : x ≠ []) (hi : Γ[i]? = some (.im tX x)) (hx : x.length ≤ 1000) (hc : c.length ≤ 100) (hl : a.length + (joinL c (spl [d] 0 [] x)).length ≤ 100000)
    (q : k (a ++ joinL c (spl [d] 0 [] x)) n Γ) : WpE K w n Γ (tCatRepl i sa sy sz) tX k := fun σ B H ok Q cc => by
  obtain ⟨v, h1, h2⟩ := ok.sl i _ hi
  subst ha hy hz
  refine ⟨SX.S x, by rw [h1, h2], ?_, ?_, ?_, ?_⟩
  · rw [beq_eq_false_iff_ne]
    intro z
    exact hne (SX.S_inj z).symm
  · rw [SX.S_len, SX.S_len]
    have := Nat.mul_le_mul (show x.length + 1 ≤ 1001 by omega) hc
    omega
  · rw [replace_S hd hx0, SX.S_len, SX.S_len]; exact sz hl
  · rw [replace_S hd hx0, SX.S_cat]; exact cc _ _ n Γ B H q (Ex.refl _) ok rfl
end
/-! ### isinstance(e, T) of a caught error -/
def rIsX (K : Frag) (a : Addr) (cls : Value) (d : Option Addr) : List V → Hp → VK → Prop := fun xs H Q => ∃ (c : V) (cv : Value) (D : Addr) (b : Bool), xs = [.ref a, c] ∧ (∀ u, RelV c u → u = cv) ∧ cls = .ref D ∧ ExcC K D ∧ PySem.W.kitOne K (.ref D) cv = some b ∧
  (d = none ∨ ∃ dd fs, d = some dd ∧ H dd = some (.xd fs)) ∧ Q (.bl b) H
theorem call_isX {X : Cx} {a : Addr} {oe : Obj} {cls : Value} {d : Option Addr} {pn : List (Addr × Obj)} (hz : Zc cls d oe) (hf : ∃ vs, oe.data = .fields vs) : CallR (X.suite a ((a, oe) :: pn)) (.builtin "isinstance") (rIsX X.K a cls d) := by
  intro pins s σ H xs us Q I r h
  obtain ⟨c, cv, D, b, rfl, hcv, rfl, C, e, hd, q⟩ := h
  cases r with
  | cons rx rr =>
    cases rr with
    | cons rt rr =>
      cases rr
      cases rx
      have ec := hcv _ rt
      subst ec
      obtain ⟨hget, _⟩ := I.pin (a, oe) (List.mem_append.mpr (.inl List.mem_cons_self))
      obtain ⟨vs, hv⟩ := hf
      obtain ⟨od, J⟩ : ∃ od, PySem.W.InstAt s.heap a oe D od := by
        obtain ⟨oc, odd, oda, osl⟩ := oe
        obtain ⟨h1, h2⟩ := hz
        dsimp only at h1 h2 hv
        subst h1 h2 hv
        rcases hd with rfl | ⟨dd, fs, rfl, hx⟩
        · exact ⟨none, hget, rfl, rfl, trivial⟩
        · have ho : ObjOk X.prog X.w H s.heap dd (.xd fs) := I.hok dd _ hx
          obtain ⟨mA, ⟨o, _, _, ho, _⟩, _⟩ := ho
          exact ⟨some o, hget, rfl, rfl, ho⟩
      have hcl : (PySem.W.clsIn X.K D).isSome = true := by
        obtain ⟨cd, hc, _⟩ := PySem.W.any_some C.hd
        rw [hc]; rfl
      exact PySem.W.kia_one (PySem.W.kitx_exc hcl C.hg C.hk C.hs C.ha C.hn C.ht C.hm) I.kIn J e (fun z => nomatch z) fun tk => ⟨.bl b, H, I.kept (t' := tk) fun _ _ z => z, rfl, q⟩
/-- a class value, by its name -/
def tCls (c : Addr) : Ty Unit := ⟨fun _ v _ => v = .ref c, fun _ h => h⟩
section
variable {K : Frag} {w : Wd} {n : Option Nat} {Γ : Env} {α β γ δ ρ A : Type}
theorem kit_sub {D c : Addr} {b : Bool} (hD : PySem.W.typeIn K (.ref c) = some (.type "type")) (hc : (PySem.W.clsIn K c).isSome = true) (h : PySem.W.subIn K (.ref D) (.ref c) = some b) (hs : D = c → b = true) : PySem.W.kitOne K (.ref D) (.ref c) = some b := by
  unfold PySem.W.kitOne
  by_cases e : D = c
  · subst e
    rw [hs rfl, if_pos (by simp)]
  · rw [if_neg (by simpa using e)]
    unfold PySem.W.kitCls
    first
      | (rw [hD, hc]; exact h)
      | (simp [hD, hc, h])
end
end TL
namespace TL
open PySem L2
open PySem.W (Frag)
/-! ### try, by name -/
def tTryAs (K : Frag) (c : Value) (i : Nat) (tb : WX → TS) (ts : Addr → Value → Option Addr → TS) (Wout : WX) : TS := fun D σ H => tb (wAs K c i ts Wout D) D σ H
def tTryOnly (K : Frag) (c : Value) (tb : WX → TS) (ts : Addr → Value → Option Addr → TS) (Wout : WX) : TS := fun D σ H => tb (wOnly K c ts Wout D) D σ H
section
variable {X : Cx} {x n : Str} {c : Value} {i : Nat} {body suite : List Stmt} {b₀ : Stmt} {np pos pos' : Pos} {tb : WX → TS} {ts : Addr → Value → Option Addr → TS} {Wout : WX}
theorem ps_tryAsK (K : Frag) (hK : X.K = K) (hs : X.stack = X.env :: X.outer) (hf : X.env.frame = some X.env.locals) (hN : X.N.Nodup) (hi : X.N[i]? = some n) (hln : X.env.kindOf n = some .local) (hc : Names X x c) (tk : Takes X Wout)
    (hb : ∀ (W : WX) (pn : List (Addr × Obj)) (xe : Value → Shared → Prop), Takes (X.tr pn xe) W → PassesOwn (model X.prog X.w) X.A X.env xe → PSs (X.tr pn xe) body (tb W))
    (hsu : ∀ (a : Addr) (oe : Obj) (cls : Value) (d : Option Addr) (pn : List (Addr × Obj)), Zc cls d oe → (∃ vs, oe.data = .fields vs) → PSs (X.suite a ((a, oe) :: pn)) (b₀ :: suite) (ts a cls d)) :
    PS X (.Try body [.ExceptHandler (some (.Name x np)) (some n) (b₀ :: suite) pos'] [] [] pos) (tTryAs K c i tb ts Wout) := hK ▸ ps_try_as hs hf hN hi hln hc tk hb hsu
theorem ps_tryOnlyK (K : Frag) (hK : X.K = K) (hs : X.stack = X.env :: X.outer) (hf : X.env.frame = some X.env.locals) (hc : Names X x c) (tk : Takes X Wout)
    (hb : ∀ (W : WX) (pn : List (Addr × Obj)) (xe : Value → Shared → Prop), Takes (X.tr pn xe) W → PassesOwn (model X.prog X.w) X.A X.env xe → PSs (X.tr pn xe) body (tb W))
    (hsu : ∀ (a : Addr) (oe : Obj) (cls : Value) (d : Option Addr) (pn : List (Addr × Obj)), Zc cls d oe → (∃ vs, oe.data = .fields vs) → PSs (X.suite a ((a, oe) :: pn)) (b₀ :: suite) (ts a cls d)) :
    PS X (.Try body [.ExceptHandler (some (.Name x np)) none (b₀ :: suite) pos'] [] [] pos) (tTryOnly K c tb ts Wout) := hK ▸ ps_try_only hs hf hc tk hb hsu
end
section
variable {K : Frag} {w : Wd} {n : Option Nat} {Γ Γ' : Env} {α β γ δ ρ A : Type} {t : Ty α} {u : Ty β} {ta tb te : TE} {tr : TA} {ts ts' : TS} {res : ρ → Ent} {nx bk ct : NK} {rt : ρ → Option Nat → Prop} {xp xo : Err → NK} {W : WX} {C : Addr} {fs : List Str}
theorem Wish.none : Wish K w (fun _ _ _ => False) W := fun _ _ _ _ _ _ _ _ h => h.elim
theorem ws_tryA {c : Value} {i : Nat} {tb : WX → TS} {tu : Addr → Value → Option Addr → TS} {Wout : WX} (xp xo : Err → NK) (hWo : Wish K w xo Wout)
    (hb : ∀ w' W, Wish K w' xp W → WpS K w' n Γ (tb W) res nx bk ct rt)
    (hx : ∀ er n Γ, xp er n Γ → Clause K c er (∀ w' a cls d, cls = .ref er.C → SetE (Γ.set i (.im (tXc a cls d er) ())) fun Γ => WpS K w' n Γ (tu a cls d) res (fun n Γ => SetE (Γ.set i .no) (nx n)) (fun n Γ => SetE (Γ.set i .no) (bk n)) (fun n Γ => SetE (Γ.set i .no) (ct n)) rt) (xo er n Γ)) :
    WpS K w n Γ (tTryAs K c i tb tu Wout) res nx bk ct rt := ws_tryAs hWo hb hx
theorem ws_tryO {c : Value} {tb : WX → TS} {tu : Addr → Value → Option Addr → TS} {Wout : WX} (xp xo : Err → NK) (hWo : Wish K w xo Wout)
    (hb : ∀ w' W, Wish K w' xp W → WpS K w' n Γ (tb W) res nx bk ct rt)
    (hx : ∀ er n Γ, xp er n Γ → Clause K c er (∀ w' a cls d, cls = .ref er.C → WpS K w' n Γ (tu a cls d) res nx bk ct rt) (xo er n Γ)) :
    WpS K w n Γ (tTryOnly K c tb tu Wout) res nx bk ct rt := ws_tryOnly hWo hb hx
/-- the clause's class takes the error -/
theorem Clause.yes {c : Addr} {er : Err} {P Q : Prop} (x : XfC K c) (ht : PySem.W.typeIn K (.ref c) = some (.type "type")) (h : PySem.W.subIn K (.ref er.C) (.ref c) = some true) (p : P) : Clause K (.ref c) er P Q :=
  ⟨true, PySem.W.exm_ref x.exC x.hdC ht h, fun _ => p, fun z => Bool.noConfusion z⟩
theorem Clause.no {c : Addr} {er : Err} {P Q : Prop} (x : XfC K c) (ht : PySem.W.typeIn K (.ref c) = some (.type "type")) (h : PySem.W.subIn K (.ref er.C) (.ref c) = some false) (q : Q) : Clause K (.ref c) er P Q :=
  ⟨false, PySem.W.exm_ref x.exC x.hdC ht h, fun z => Bool.noConfusion z, fun _ => q⟩
/-- isinstance(e, T): e in slot i -/
theorem we_isX {a c D : Addr} {cls : Value} {d : Option Addr} {er : Err} {i : Nat} {b : Bool} {k : Bool → NK} (hi : Γ[i]? = some (.im (tXc a cls d er) ())) (hC : er.C = D) (x : ExcC K D) (hb : PySem.W.kitOne K (.ref D) (.ref c) = some b) (q : k b n Γ) :
    WpE K w n Γ (tCB (rIsX K a cls d) (tCons (tVar i) (tCons (tC (.ref c)) tNil))) tBo k := fun σ B H ok Q cc => by
  obtain ⟨v, h1, rfl, hc, hcase⟩ := ok.sl i _ hi
  refine ⟨_, h1, .ref c, .ref c, D, b, rfl, fun u hu => hu, by rw [hc, hC], x, hb, ?_, cc b _ n Γ B H q (Ex.refl _) ok rfl⟩
  rcases hcase with ⟨_, hd⟩ | ⟨dd, fs, _, hd, hB, _⟩
  · exact .inl hd
  · exact .inr ⟨dd, fs, hd, ok.ex _ _ hB⟩
end
theorem Costs.zero {n n' : Option Nat} (h : Costs 0 n n') : n' = n := by
  rcases h with ⟨_, h⟩ | ⟨m, h1, h2⟩
  · exact h
  · rw [h1, h2]; rfl
theorem call_isXK {X : Cx} (K : Frag) (hK : X.K = K) {a : Addr} {oe : Obj} {cls : Value} {d : Option Addr} {pn : List (Addr × Obj)} (hz : Zc cls d oe) (hf : ∃ vs, oe.data = .fields vs) : CallR (X.suite a ((a, oe) :: pn)) (.builtin "isinstance") (rIsX K a cls d) := hK ▸ call_isX hz hf
section
variable {K : Frag} {w : Wd} {n : Option Nat} {Γ Γ' : Env} {ta tb : TE}
/-- a sign, many times -/
theorem we_mulL1 {k : List Nat → NK} (h : WpE K w n Γ ta tX (fun a n Γ => ∃ c, a = [c] ∧ WpE K w n Γ tb tI (fun i n Γ => (-(2 ^ 63) ≤ i ∧ i ≤ 100000) ∧ k (List.replicate i.toNat c) n Γ))) : WpE K w n Γ (tOp rMulS ta tb) tX k := fun σ B H ok Q cc =>
  h σ B H ok _ fun a v n1 Γ1 B1 H1 ⟨c, ha, q1⟩ e1 o1 r1 => q1 σ B1 H1 o1 _ fun i v2 n2 Γ2 B2 H2 ⟨hz, q⟩ e2 o2 r2 => by
    subst ha
    exact ⟨SX.S [c], i, r1, r2, by rw [SX.S_len]; exact (Nat.le_of_ble_eq_true rfl : 1 ≤ 16), hz.1, by omega, by rw [mul_one]; exact cc _ _ n2 Γ2 B2 H2 q (e1.trans e2) o2 rfl⟩
end
/-! ### == of data of unlike kinds -/
/-- what stands for a datum of the kind t is data of the library's == -/
structure IsP (K : Frag) {α : Type} (t : Ty α) where
  enc : α → PyData
  dp : ∀ {B v x}, t.rep B v x → Dp K B v (enc x)
  dep : Nat
  dp_le : ∀ x, (enc x).depth ≤ dep
def IsD.p {K : Frag} {α : Type} {t : Ty α} (D : IsD K t) : IsP K t := ⟨D.enc, D.dp, D.dep, D.dp_le⟩
section
variable {K : Frag} {w : Wd} {n : Option Nat} {Γ Γ' : Env} {α β : Type} {t : Ty α} {u : Ty β} {ta tb : TE}
def pO (D : IsP K t) : IsP K (tO t) := ⟨fun x => match x with | none => .none | some y => D.enc y, fun {B v x} h => by
  cases x with
  | none => cases (show v = .non from h); exact .non
  | some y => exact D.dp h, D.dep, fun x => by
  cases x with
  | none => exact Nat.zero_le _
  | some y => exact D.dp_le y⟩
theorem IsP.sh (D : IsP K t) (hd : D.dep ≤ 64) {x : α} (h : (D.enc x).canLay0 = true) : SeqAt.shaped (D.enc x) = true := by
  unfold SeqAt.shaped
  rw [h, Bool.true_and]
  exact decide_eq_true (Nat.le_trans (D.dp_le x) hd)
theorem we_eqP {k : Bool → NK} (D : IsP K t) (E : IsP K u) (hd : D.dep ≤ 64 ∧ E.dep ≤ 64) (h : WpE K w n Γ ta t (fun a n Γ => WpE K w n Γ tb u (fun b n Γ => ((D.enc a).canLay0 = true ∧ (E.enc b).canLay0 = true) ∧ k (PyData.eqv (D.enc a) (E.enc b)) n Γ))) : WpE K w n Γ (tOp (rEqU K) ta tb) tBo k :=
  we_op2 (s := tBo) (fun a b => PyData.eqv (D.enc a) (E.enc b)) (fun a b => (D.enc a).canLay0 = true ∧ (E.enc b).canLay0 = true) (fun B x y a b H Q h1 h2 e hc q =>
    .inr ⟨_, _, D.dp (t.mono e h1), E.dp (u.mono e h2), D.sh hd.1 hc.1, E.sh hd.2 hc.2, q _ rfl⟩) h
theorem we_neP {k : Bool → NK} (D : IsP K t) (E : IsP K u) (hd : D.dep ≤ 64 ∧ E.dep ≤ 64) (h : WpE K w n Γ ta t (fun a n Γ => WpE K w n Γ tb u (fun b n Γ => ((D.enc a).canLay0 = true ∧ (E.enc b).canLay0 = true) ∧ k (!PyData.eqv (D.enc a) (E.enc b)) n Γ))) : WpE K w n Γ (tOp (rNeU K) ta tb) tBo k :=
  we_op2 (s := tBo) (fun a b => !PyData.eqv (D.enc a) (E.enc b)) (fun a b => (D.enc a).canLay0 = true ∧ (E.enc b).canLay0 = true) (fun B x y a b H Q h1 h2 e hc q =>
    .inr ⟨_, _, D.dp (t.mono e h1), E.dp (u.mono e h2), D.sh hd.1 hc.1, E.sh hd.2 hc.2, q _ rfl⟩) h
end
end TL

/-! # TL: own methods that raise; own lists locked while a call reads them; a datum of one kind or another -/
namespace TL
open PySem L2 PyProof.Rows PySem.Calls
open PySem.W (Frag)
section
variable {X : Cx} {k : Nat} {C : Addr} {m : Str} {ps : List Str} {sp : Sp} {pins : List (Addr × Obj)} {σ : L2.St} {H : Hp} {s : Shared} {W : WX} {a b : Expr} {ta tb : TE} {pos : Pos}
theorem run_ownX (c : MethBy X.prog X.w X.K X.mg X.base (L2.CX X.prog X.w) k C m ps sp) (hr : Room k X.A) (tk : Takes X W) (I : Inv X pins σ H s) : ∃ f : Addr, PySem.W.findIn X.K (.ref C) m = some (some (.ref f)) ∧ PySem.W.isFn X.K (.ref f) = true ∧
    ∀ (vs : List V) (us : List Value) (Q : VK), Vals vs us → sp vs H Q (WE W σ) → wpAny (model X.prog X.w) X.A (call (.ref f) us) (EP X pins σ Q) X.xe s := by
  obtain ⟨f, fd, h1, h2, h3⟩ := c.ex
  exact ⟨f, h1.at_, h1.fn, fun vs us Q r q => run_fnS h2 hr h3 (passAt tk σ) I r q⟩
theorem run_ownL (c : MethBy X.prog X.w X.K X.mg X.base (L2.CX X.prog X.w) k C m ps sp) (hr : Room k X.A) (I : Inv X pins σ H s) : ∃ f : Addr, PySem.W.findIn X.K (.ref C) m = some (some (.ref f)) ∧ PySem.W.isFn X.K (.ref f) = true ∧
    ∀ (vs : List V) (us : List Value) (Q : VK), Vals vs us → sp vs H Q E0 → wpAny (model X.prog X.w) X.A (call (.ref f) us) (EP X pins σ Q) X.xe s := by
  obtain ⟨f, fd, h1, h2, h3⟩ := c.ex
  exact ⟨f, h1.at_, h1.fn, fun vs us Q r q => run_fn h2 hr h3 .nil passL I r (by rw [List.append_nil]; exact q)⟩
/-- an operator that may raise -/
def OpRS (X : Cx) (f : Value → Value → Sem Value) (r : L2.St → R2) : Prop :=
  ∀ (pins : List (Addr × Obj)) (s : Shared) (σ : L2.St) (H : Hp) (x y : V) (v u : Value) (Q : VK), Inv X pins σ H s → RelV x v → RelV y u → r σ x y H Q → wpAny (model X.prog X.w) X.A (f v u) (EP X pins σ Q) X.xe s
def tOpS (r : L2.St → R2) (ta tb : TE) : TE := fun σ H Q => ta σ H fun x H1 => tb σ H1 fun y H2 => r σ x y H2 Q
theorem pe_opS {op : Operator} {r : L2.St → R2} (ho : OpRS X (binaryOp op) r) (ha : PE X a ta) (hb : PE X b tb) : PE X (.BinOp a op b pos) (tOpS r ta tb) := by
  refine ⟨fun pins s σ H Q I h => ?_⟩
  exact wpAny_BinOp (binT ha hb I h fun v u s2 x y H2 I2 rx ry q => ho pins s2 σ H2 x y v u Q I2 rx ry q)
theorem pe_cmpS {op : CmpOp} {r : L2.St → R2} (ho : OpRS X (compareOp op) r) (ha : PE X a ta) (hb : PE X b tb) (hm : behindInMarks op b = false) : PE X (.Compare a [op] [b] pos) (tOpS r ta tb) := by
  refine ⟨fun pins s σ H Q I h => ?_⟩
  exact wpAny_Compare1 (binT ha hb I h fun v u s2 x y H2 I2 rx ry q => ho pins s2 σ H2 x y v u Q I2 rx ry q) hm
def rCmpX (K : Frag) (C : Addr) (sp : Sp) (W : WX) : L2.St → R2 := fun σ x y H Q => InsV C x H ∧ (∃ t, TyL K H y t ∧ PySem.W.notFirst K C t = true) ∧ sp [x, y] H Q (WE W σ)
theorem op_cmpX {op : CmpOp} (K : Frag) (hK : X.K = K) (ho : compareOp op = richCompare op) (hm : (cmpInfo op).2.1 = m) (c : MethBy X.prog X.w X.K X.mg X.base (L2.CX X.prog X.w) k C m ps sp) (hr : Room k X.A) (tk : Takes X W) : OpRS X (compareOp op) (rCmpX K C sp W) := by
  subst hK
  intro pins s σ H x y v u Q I rx ry ⟨⟨a, dx, fs, hx, ha⟩, ⟨t, ht, hn⟩, q⟩
  subst hx
  cases (show v = Value.ref a from rx)
  obtain ⟨ox, od, J⟩ := ins_look I ha
  obtain ⟨mm, hF⟩ := I.fr
  obtain ⟨f, h1, h2, h3⟩ := run_ownX c hr tk I
  rw [ho]
  refine PySem.W.cmp_K hr.units0 hF I.ok.mod.kin J (ht.looks I ry) hn (by rw [hm]; exact h1) h2 (wpAny_mono (h3 [.ref a, y] [.ref a, u] _ (.cons rfl (.cons ry .nil)) q) (fun r s' z => back_of z) fun _ _ e => e)
def rBinX (C : Addr) (sp : Sp) (W : WX) : L2.St → R2 := fun σ x y H Q => InsV C x H ∧ InsV C y H ∧ sp [x, y] H Q (WE W σ)
theorem op_binX {op : Operator} (hm : PySem.dunder op.info.2 = m) (hc : PySem.W.selfFirst X.K C = true) (c : MethBy X.prog X.w X.K X.mg X.base (L2.CX X.prog X.w) k C m ps sp) (hr : Room k X.A) (tk : Takes X W) : OpRS X (binaryOp op) (rBinX C sp W) := by
  intro pins s σ H x y v u Q I rx ry ⟨⟨a, dx, fs, hx, ha⟩, ⟨b, dy, gs, hy, hb⟩, q⟩
  subst hx; subst hy
  cases (show v = Value.ref a from rx)
  cases (show u = Value.ref b from ry)
  obtain ⟨ox, od, J⟩ := ins_look I ha
  obtain ⟨oy, oe, J'⟩ := ins_look I hb
  obtain ⟨mm, hF⟩ := I.fr
  obtain ⟨f, h1, h2, h3⟩ := run_ownX c hr tk I
  exact PySem.W.binop_K hF I.ok.mod.kin J J'.type hc (by rw [hm]; exact h1) h2 (wpAny_mono (h3 [.ref a, .ref b] [.ref a, .ref b] _ (.cons rfl (.cons rfl .nil)) q) (fun r s' z => back_of z) fun _ _ e => e)
end
section
variable {K : Frag} {w : Wd} {n : Option Nat} {Γ Γ' : Env} {α β γ δ ρ A : Type} {t : Ty α} {u : Ty β} {ta tb te : TE} {tr : TA} {ts ts' : TS} {res : ρ → Ent} {nx bk ct : NK} {rt : ρ → Option Nat → Prop} {xp xo : Err → NK} {W : WX} {C : Addr} {fs : List Str}
/-- x <= y by the left one's own method, which may raise -/
theorem we_cmpX {S : FX K} {C : Addr} {flds : α → Flds} {s : Ty S.ρ} (hW : Wish K w xp W) (hres : S.res = fun x => .im s x) (up : α → β → S.A)
    (hup : ∀ {d B v1 v2 a b}, (tObj C flds).rep B v1 a → u.rep B v2 b → S.args.rep d B [v1, v2] (up a b)) (hy : ∀ {B v b H}, u.rep B v b → Ex B H → ∃ t, TyL K H v t ∧ PySem.W.notFirst K C t = true) {kk : S.ρ → NK}
    (h : WpE K w n Γ ta (tObj C flds) (fun a n Γ => WpE K w n Γ tb u (fun b n Γ => S.pre (up a b) ∧ May S.cost n ∧ (∀ x n', S.post (up a b) x → Costs S.cost n n' → kk x n' Γ) ∧ ∀ er n', S.xpost (up a b) er → Costs S.cost n n' → xp er n' Γ))) :
    WpE K w n Γ (tOpS (rCmpX K C S.sp W) ta tb) s kk := fun σ B H ok Q c =>
  h σ B H ok _ fun a v1 n1 Γ1 B1 H1 q1 e1 o1 r1 => q1 σ B1 H1 o1 _ fun b v2 n2 Γ2 B2 H2 ⟨hp, hm, q, qx⟩ e2 o2 r2 => by
    refine ⟨insV_obj ((tObj C flds).mono e2 r1) o2.ex, hy r2 o2.ex, w.d, w.ca, w.cs, n2, B2, up a b, o2.entry, hup ((tObj C flds).mono e2 r1) r2, hp, hm, fun x v n' B' H' hx hcc e' o' sl => ?_, fun er cls dd n' B' H' hx hc e' o' r' => hW cls dd er n' Γ2 σ B' H' (qx er n' hx hc) (o2.back o') r'⟩
    rw [hres] at sl
    obtain ⟨v', h1, h2⟩ := sl
    cases h1
    exact c _ _ n' Γ2 B' H' (q x n' hx hcc) ((e1.trans e2).trans e') (o2.back o') h2
theorem we_binX {S : FX K} {C : Addr} {flds : α → Flds} {s : Ty S.ρ} (hW : Wish K w xp W) (hres : S.res = fun x => .im s x) (up : α → α → S.A)
    (hup : ∀ {d B v1 v2 a b}, (tObj C flds).rep B v1 a → (tObj C flds).rep B v2 b → S.args.rep d B [v1, v2] (up a b)) {kk : S.ρ → NK}
    (h : WpE K w n Γ ta (tObj C flds) (fun a n Γ => WpE K w n Γ tb (tObj C flds) (fun b n Γ => S.pre (up a b) ∧ May S.cost n ∧ (∀ x n', S.post (up a b) x → Costs S.cost n n' → kk x n' Γ) ∧ ∀ er n', S.xpost (up a b) er → Costs S.cost n n' → xp er n' Γ))) :
    WpE K w n Γ (tOpS (rBinX C S.sp W) ta tb) s kk := fun σ B H ok Q c =>
  h σ B H ok _ fun a v1 n1 Γ1 B1 H1 q1 e1 o1 r1 => q1 σ B1 H1 o1 _ fun b v2 n2 Γ2 B2 H2 ⟨hp, hm, q, qx⟩ e2 o2 r2 => by
    refine ⟨insV_obj ((tObj C flds).mono e2 r1) o2.ex, insV_obj r2 o2.ex, w.d, w.ca, w.cs, n2, B2, up a b, o2.entry, hup ((tObj C flds).mono e2 r1) r2, hp, hm, fun x v n' B' H' hx hcc e' o' sl => ?_, fun er cls dd n' B' H' hx hc e' o' r' => hW cls dd er n' Γ2 σ B' H' (qx er n' hx hc) (o2.back o') r'⟩
    rw [hres] at sl
    obtain ⟨v', h1, h2⟩ := sl
    cases h1
    exact c _ _ n' Γ2 B' H' (q x n' hx hcc) ((e1.trans e2).trans e') (o2.back o') h2
/-- a, b = (datum), (own thing) -/
theorem ws_par2EM {i j : Nat} (h : WpE K w n Γ ta t (fun x n1 Γ1 => WpM K w n1 Γ1 tb (fun r n2 Γ2 => SetE ((Γ2.set i (.im t x)).set j (.mu r)) (nx n2)))) :
    WpS K w n Γ (tPar i j (tCons ta (tCons tb tNil))) res nx bk ct rt := fun σ B H ok D a b c d =>
  h σ B H ok _ fun x v n1 Γ1 B1 H1 q1 e1 o1 r1 => q1 σ B1 H1 o1 _ fun r l n2 Γ2 B2 H2 q e2 o2 ow => by
    refine ⟨v, .ref l, rfl, a n2 _ _ B2 H2 q (e1.trans e2) ?_⟩
    refine (o2.setIm (i := i) (t.mono e2 r1)).setMu (i := j) ⟨ow.ob, ow.b, ow.h0, fun i' e' hi z => ?_⟩
    rcases get_set hi with ⟨rfl, rfl, il⟩ | ⟨nm, hm⟩
    · exact z
    · rw [List.getElem?_set, if_neg nm] at z
      exact ow.df i' e' hm z
/-! ### own lists, locked -/
/-- a list that stands locked -/
def rLF (t : Ty α) (l : Addr) (od : Obj) (xs : List α) : Rs := ⟨fun l' B o => l' = l ∧ ∃ vs, o = .frz od (.lst vs) ∧ Paired (t.rep B) vs xs, fun e ⟨h0, vs, h1, h2⟩ => ⟨h0, vs, h1, pw_mono (fun _ _ => t.mono e) h2⟩⟩
/-- one's own list locked: it stands in a slot as a datum that is read -/
theorem Ok.lockL {xs : List α} {σ : L2.St} {B H : Hp} {i : Nat} (ok : Ok K w n Γ σ B H) (hi : Γ[i]? = some (.ml t xs)) : ∃ l vs, H l = some (.lst vs) ∧ B l = none ∧ w.H0 l = none ∧
    ∀ od, Ok K w n (Γ.set i (.im (tR t) xs)) σ (upd B l (.frz od (.lst vs))) (upd H l (.frz od (.lst vs))) := by
  obtain ⟨l, o, h1, h2, h3, h4, vs, rfl, p⟩ := ok.sl i _ hi
  refine ⟨l, vs, h2, h3, h4, fun od => ?_⟩
  have ok1 : Ok K w n (Γ.set i (.mu (rLF t l od xs))) σ B (upd H l (.frz od (.lst vs))) := ok.put (r' := rLF t l od xs) hi h1 ⟨rfl, vs, rfl, p⟩
  have il : i < Γ.length := (List.getElem?_eq_some_iff.mp hi).1
  have hi2 : (Γ.set i (.mu (rLF t l od xs)))[i]? = some (.mu (rLF t l od xs)) := by rw [List.getElem?_set, if_pos rfl, if_pos il]
  obtain ⟨o', g1, g2, g3, g4⟩ := ok1.freeze hi2 h1
  rw [upd_same] at g1; cases g1
  have rp : (tR t).rep (upd B l (.frz od (.lst vs))) (.ref l) xs := ⟨l, vs, rfl, .inr ⟨od, upd_same⟩, pw_mono (fun _ _ => t.mono g3) p⟩
  have ok2 := g4.setIm (i := i) rp
  rw [List.set_set, List.set_set, slot_same h1] at ok2
  exact ok2
theorem we_lockL {xs : List α} {k : β → NK} (i : Nat) (hi : Γ[i]? = some (.ml t xs)) (hb : Blind PFrz u) (h : ∀ w' : Wd, SetE (hideE (Γ.set i (.im (tR t) xs)) []) fun Γ' => WpE K w' n Γ' te u (fun x n' _ => k x n' Γ)) : WpE K w n Γ (tLockE te) u k := fun σ B H ok Q c => by
  obtain ⟨l, vs, h2, h3, h4, lk⟩ := ok.lockL hi
  refine ⟨l, .lst vs, h2, trivial, fun od => ?_⟩
  refine h _ σ _ _ ((lk od).inner []) _ fun x v n' Γ' B' H' q e o2 r => ?_
  obtain ⟨o3, hl3, mv⟩ := ok.unlendX h2 h3 h4 (P := PFrz) ⟨od, _, rfl⟩ (fun xs ⟨_, _, z⟩ => by cases z) o2.nil
  exact ⟨hl3, c x v n' Γ _ _ q (fun a q e' => by
    have z : a ≠ l := ne_of_none e' h3
    rw [del_ne z]; exact e a q (by rw [upd_ne z]; exact e')) o3 (hb _ _ _ _ mv r)⟩
/-- two of them -/
theorem we_lockL2 {γ : Type} {s : Ty γ} {xs : List α} {ys : List γ} {k : β → NK} (i j : Nat) (hij : i ≠ j) (hi : Γ[i]? = some (.ml t xs)) (hj : Γ[j]? = some (.ml s ys)) (hb : Blind PFrz u)
    (h : ∀ w' : Wd, SetE (hideE ((Γ.set i (.im (tR t) xs)).set j (.im (tR s) ys)) []) fun Γ' => WpE K w' n Γ' te u (fun x n' _ => k x n' Γ)) : WpE K w n Γ (tLockE (tLockE te)) u k := fun σ B H ok Q c => by
  obtain ⟨l, vs, h2, h3, h4, lk⟩ := ok.lockL hi
  refine ⟨l, .lst vs, h2, trivial, fun od => ?_⟩
  have o1 := lk od
  have hj1 : (Γ.set i (.im (tR t) xs))[j]? = some (.ml s ys) := by rw [List.getElem?_set, if_neg hij]; exact hj
  obtain ⟨l2, us, g2, g3, g4, lk2⟩ := o1.lockL hj1
  refine ⟨l2, .lst us, g2, trivial, fun od2 => ?_⟩
  have hne : l2 ≠ l := fun z => by rw [z, upd_same] at g3; cases g3
  have hd2 : l2 ≠ w.d := fun z => noS g4 (z ▸ ok.hd)
  refine h _ σ _ _ ((lk2 od2).inner []) _ fun x v n' Γ' B' H' q e o2 r => ?_
  -- the second one back
  have oa : Ok K ⟨w.d, w.ca, w.cs, upd B l (.frz od (.lst vs)), del (upd H l (.frz od (.lst vs))) l2⟩ n [] [] (upd B l (.frz od (.lst vs))) (upd H l (.frz od (.lst vs))) :=
    ⟨o1.ex, Ex.refl _, fun a o q => .inl q, fun a o q _ => (del_some q).2, by show (del _ l2 w.d).isSome = true; rw [del_ne (Ne.symm hd2)]; exact o1.hh, o1.hh, fun m q => (o1.pn m q).cast rfl rfl rfl, rfl, fun i e z => by simp at z, fun i j e e' a _ z _ _ => by simp at z⟩
  obtain ⟨ob, hl2, mv2⟩ := oa.unlendX g2 g3 del_same (P := PFrz) ⟨od2, _, rfl⟩ (fun xs ⟨_, _, z⟩ => by cases z) o2.nil
  have oc : Ok K ⟨w.d, w.ca, w.cs, upd B l (.frz od (.lst vs)), upd H l (.frz od (.lst vs))⟩ n' [] [] (del B' l2) (upd H' l2 (.lst us)) := by
    refine ⟨ob.ex, ob.ex0, fun a o q => ?_, fun a o q na => ?_, o1.hh, ob.hh, fun m q => (ob.pn m q).cast rfl rfl rfl, rfl, fun i e z => by simp at z, fun i j e e' a _ z _ _ => by simp at z⟩
    · have z : a ≠ l2 := fun z => by rw [z, del_same] at q; cases q
      rcases ob.nw a o q with y | y
      · exact .inl y
      · have y : del (upd H l (.frz od (.lst vs))) l2 a = none := y
        rw [del_ne z] at y
        exact .inr y
    · by_cases z : a = l2
      · subst z
        have q : upd H l (.frz od (.lst vs)) a = some o := q
        rw [g2] at q; cases q
        exact upd_same
      · exact ob.kp a o (by show del _ l2 a = some o; rw [del_ne z]; exact q) na
  obtain ⟨o3, hl3, mv⟩ := ok.unlendX h2 h3 h4 (P := PFrz) ⟨od, _, rfl⟩ (fun xs ⟨_, _, z⟩ => by cases z) oc
  refine ⟨hl2, hl3, c x v n' Γ _ _ q (fun a q e' => ?_) o3 (hb _ _ _ _ mv (hb _ _ _ _ mv2 r))⟩
  have z : a ≠ l := ne_of_none e' h3
  have z2 : a ≠ l2 := fun y => by rw [y] at e'; rw [upd_ne hne, e'] at g3; cases g3
  rw [del_ne z, del_ne z2]
  exact e a q (by rw [upd_ne z2, upd_ne z]; exact e')
/-! ### a datum of one kind or another -/
def tE (t : Ty α) (u : Ty β) : Ty (α ⊕ β) := ⟨fun B v x => match x with
    | .inl y => t.rep B v y
    | .inr y => u.rep B v y, fun {B B' v x} e h => by
  cases x with
  | inl y => exact t.mono e h
  | inr y => exact u.mono e h⟩
theorem we_inl {k : (α ⊕ β) → NK} (h : WpE K w n Γ te t (fun x n Γ => k (.inl x) n Γ)) : WpE K w n Γ te (tE t u) k := fun σ B H ok Q c => h σ B H ok Q fun x v n' Γ' B' H' q e o r => c (.inl x) v n' Γ' B' H' q e o r
theorem we_inr {k : (α ⊕ β) → NK} (h : WpE K w n Γ te u (fun x n Γ => k (.inr x) n Γ)) : WpE K w n Γ te (tE t u) k := fun σ B H ok Q c => h σ B H ok Q fun x v n' Γ' B' H' q e o r => c (.inr x) v n' Γ' B' H' q e o r
def pE (D : IsP K t) (E : IsP K u) : IsP K (tE t u) := ⟨fun x => match x with | .inl y => D.enc y | .inr y => E.enc y, fun {B v x} h => by
  cases x with
  | inl y => exact D.dp h
  | inr y => exact E.dp h, max D.dep E.dep, fun x => by
  cases x with
  | inl y => exact Nat.le_trans (D.dp_le y) (Nat.le_max_left _ _)
  | inr y => exact Nat.le_trans (E.dp_le y) (Nat.le_max_right _ _)⟩
def pP (D : IsP K t) (E : IsP K u) : IsP K (tP t u) := ⟨fun x => .tuple [D.enc x.1, E.enc x.2], fun ⟨a, p, q, h, s, h1, h2⟩ => by subst h; exact .tup (SqT.of s) (.cons (D.dp h1) (.cons (E.dp h2) .nil)), max D.dep E.dep + 1,
  fun x => by
    have h1 := D.dp_le x.1
    have h2 := E.dp_le x.2
    simp only [PyData.depth, PyData.depthAll]; omega⟩
def pP3 {s : Ty γ} (D : IsP K t) (E : IsP K u) (F : IsP K s) : IsP K (tP3 t u s) := ⟨fun x => .tuple [D.enc x.1, E.enc x.2.1, F.enc x.2.2], fun ⟨a, p, q, z, h, s, h1, h2, h3⟩ => by subst h; exact .tup (SqT.of s) (.cons (D.dp h1) (.cons (E.dp h2) (.cons (F.dp h3) .nil))), max D.dep (max E.dep F.dep) + 1,
  fun x => by
    have h1 := D.dp_le x.1
    have h2 := E.dp_le x.2.1
    have h3 := F.dp_le x.2.2
    simp only [PyData.depth, PyData.depthAll]; omega⟩
/-! ### an instance, or a list -/
def tOtL (C : Addr) (flds : α → Flds) : Ty (Option α) := ⟨fun B v x => match x with
    | some y => (tObj C flds).rep B v y
    | none => ∃ a xs, v = .ref a ∧ B a = some (.lst xs), fun {B B' v x} e h => by
  cases x with
  | some y => exact (tObj C flds).mono e h
  | none =>
    obtain ⟨a, xs, h1, h2⟩ := h
    exact ⟨a, xs, h1, e _ _ h2⟩⟩
theorem sub_list {C : Addr} : PySem.W.subIn K (.type "list") (.ref C) = some false := by
  have e : fastBuiltinMro "list" = some [.type "list", .type "object"] := by decide +kernel
  show (fastBuiltinMro "list").map (·.contains (.ref C)) = some false
  rw [e]
  first
    | rfl
    | simp
theorem otL_ty {C : Addr} {flds : α → Flds} {B H : Hp} {v : V} (h : (tOtL C flds).rep B v none) (e : Ex B H) : TyX K H v (.type "list") := by
  obtain ⟨a, xs, rfl, h2⟩ := h
  exact .base (.lst (e _ _ h2))
theorem tyL_otL {C : Addr} {flds : α → Flds} {B H : Hp} {v : V} {x : Option α} (h : (tOtL C flds).rep B v x) (e : Ex B H) : ∃ t, TyL K H v t ∧ PySem.W.notFirst K C t = true := by
  cases x with
  | some y => exact tyL_obj h e
  | none =>
    refine ⟨_, .kit (otL_ty h e), ?_⟩
    unfold PySem.W.notFirst
    rw [sub_list]
    simp
theorem we_isOwnL {mg : Str → Option Value} {x : Str} {C : Addr} {flds : α → Flds} (ic : IsC K mg C x) {k : Bool → NK}
    (h : WpE K w n Γ ta (tOtL C flds) (fun x n Γ => k x.isSome n Γ)) : WpE K w n Γ (tCB (rIsi K) (tCons ta (tCons (tC (.ref C)) tNil))) tBo k := fun σ B H ok Q c =>
  h σ B H ok _ fun x v n1 Γ1 B1 H1 q e o r => by
    cases x with
    | some y =>
      obtain ⟨a, dx, fs, rfl, hs⟩ := insV_obj r o.ex
      exact ⟨_, .ref C, .ref C, .ref C, true, rfl, .own C, .base (.ins hs ic.cl ic.ha ic.hn ic.htk ic.hm), by unfold PySem.W.kitOne; simp, c _ _ n1 Γ1 B1 H1 q e o rfl⟩
    | none =>
      refine ⟨_, .ref C, .type "list", .ref C, false, rfl, .own C, otL_ty r o.ex, ?_, c _ _ n1 Γ1 B1 H1 q e o rfl⟩
      have hc : (PySem.W.clsIn K C).isSome = true := by
        obtain ⟨cd, hc, _⟩ := PySem.W.any_some ic.cl.hd
        rw [hc]
        rfl
      unfold PySem.W.kitOne PySem.W.kitCls
      rw [if_neg (by intro z; cases beq_iff_eq.mp z)]
      show (if _ then _ else _) = _
      rw [if_pos (by rw [hc, ic.ty]; simp)]
      exact sub_list
theorem viewSomeL {C : Addr} {flds : α → Flds} {i : Nat} {x : α} (h : Γ[i]? = Option.some (.im (tOtL C flds) (Option.some x))) : View K w n Γ n (Γ.set i (.im (tObj C flds) x)) := fun σ B H ok => by
  obtain ⟨v, h1, h2⟩ := ok.sl i _ h
  have o2 := ok.setIm (i := i) (t := tObj C flds) (x := x) (v := v) h2
  rw [slot_same h1] at o2
  exact ⟨B, Ex.refl _, o2⟩
theorem we_otLO {C : Addr} {flds : α → Flds} {k : Option α → NK} (h : WpE K w n Γ te (tObj C flds) (fun x n Γ => k (some x) n Γ)) : WpE K w n Γ te (tOtL C flds) k := fun σ B H ok Q c => h σ B H ok Q fun x v n' Γ' B' H' q e o r => c (some x) v n' Γ' B' H' q e o r
theorem we_otLL {C : Addr} {flds : γ → Flds} {k : Option γ → NK} (h : WpE K w n Γ te (tL t) (fun x n Γ => k none n Γ)) : WpE K w n Γ te (tOtL C flds) k := fun σ B H ok Q c => h σ B H ok Q fun x v n' Γ' B' H' q e o ⟨a, xs, hv, hs, _⟩ => c none v n' Γ' B' H' q e o ⟨a, _, hv, hs⟩
end
end TL

/-! # TL: methods that raise, methods of data instances, kinds narrowed -/
namespace TL
open PySem L2 PyProof.Rows PySem.Calls
open PySem.W (Frag)
def tMethS (C : Addr) (m : Str) (sp : Sp) (E : L2.St → XK) (ta : TE) (t : TA) : TE := fun σ H Q => ta σ H fun x H1 => ∃ a dx fs, x = .ref a ∧ H1 a = some (.ins C dx fs) ∧ fs.lookup m = none ∧
  t σ H1 fun vs H2 => sp (x :: vs) H2 Q (E σ)
section
variable {X : Cx} {k : Nat} {C : Addr} {m : Str} {ps : List Str} {sp : Sp} {W : WX} {o e : Expr} {es : List Expr} {ta : TE} {t : TA} {pos apos : Pos}
theorem pe_methX {pl : Sem Bool} (he : PE X o ta) (c : MethBy X.prog X.w X.K X.mg X.base (L2.CX X.prog X.w) k C m ps sp) (hr : Room k X.A) (tk : Takes X W) (ha : PA X (e :: es) t)
    (hst : starEach (e :: es) X.env = (false, eval e X.env) :: starEach es X.env := by rfl) (hpl : (backTo pos (starEach es X.env)).any (·.1) = false := by rfl)
    (ht : eval (.Call (.Attribute o m apos) (e :: es) [] pos) X.env = (do
      let ov ← eval o X.env
      standAt apos.atName
      let (f, first) ← holding [ov] (getMethod ov m pl)
      callWith pos f first (backTo pos (starEach (e :: es) X.env)) (backToKw pos (keywordEach [] X.env))) := by rfl) :
    PE X (.Call (.Attribute o m apos) (e :: es) [] pos) (tMethS C m sp (WE W) ta t) := by
  obtain ⟨f, fd, hm, F, hb⟩ := c.ex
  refine ⟨fun pins s σ H Q I h => ?_⟩
  refine PySem.W.methodCall_KW (pl := pl) (thn (he.run pins s σ H _ I h) fun u s1 ⟨x, H1, I1, rx, a, dx, fs, ex, ea, l, q⟩ => ?_) ht
  subst ex
  obtain rfl : u = Value.ref a := rx
  refine getmeth_ok I1 ea c.cl hm l ?_
  refine PySem.W.callWith_K (first := [.ref a]) (h₀ := X.base) I.ok.mod.kin hm.kp (thn (ha.run pos pins s1 σ H1 _ I1 q) fun us s2 ⟨vs, H2, I2, r, q2⟩ => ⟨I2.kIn, ?_⟩) hst hpl
  exact run_fnS (us := .ref a :: us) (vs := .ref a :: vs) F hr hb (passAt tk σ) I2 (.cons rfl r) q2
end
section
variable {K : Frag} {w : Wd} {n : Option Nat} {Γ Γ' : Env} {α β γ δ ρ A : Type} {t : Ty α} {u : Ty β} {ta tb te : TE} {tr : TA} {ts ts' : TS} {res : ρ → Ent} {nx bk ct : NK} {rt : ρ → Option Nat → Prop} {xp xo : Err → NK} {W : WX} {C : Addr} {fs : List Str}
/-- x.m(..), x a datum; nothing is drawn -/
theorem we_methT {S : FS K} {sp : Sp} (sub : ∀ vs H Q X, S.sp vs H Q X → sp vs H Q X) {C : Addr} {flds : α → Flds} {m : Str} {R : TyA A} {E : XK} {s : Ty S.ρ} {k : S.ρ → NK} (up : α → A → S.A)
    (hup : ∀ {d B v vs x a}, (tObj C flds).rep B v x → R.rep d B vs a → S.args.rep d B (v :: vs) (up x a)) (hno : ∀ x, (flds x).lookup m = none) (hres : S.res = fun x => .im s x) (hc : S.cost = 0)
    (h : WpE K w n Γ ta (tObj C flds) (fun x n Γ => WpA K w n Γ tr R (fun a n Γ => S.pre (up x a) ∧ ∀ r, S.post (up x a) r → k r n Γ))) : WpE K w n Γ (tMeth C m sp [] E ta tr) s k := fun σ B H ok Q c =>
  h σ B H ok _ fun x v n1 Γ1 B1 H1 q1 e1 o1 r1 => by
    obtain ⟨a, dx, fs, h1, h2, h3⟩ := id r1
    subst h1
    refine ⟨a, dx, fs, rfl, o1.ex _ _ h2, (h3 m).1 (hno x), q1 σ B1 H1 o1 _ fun y vs n2 Γ2 B2 H2 ⟨hp, q⟩ e2 o2 r2 => ?_⟩
    rw [List.append_nil]
    exact sub _ _ _ _ (own_val (k := k) hres hc o2 (hup ((tObj C flds).mono e2 r1) r2) hp q fun r v' B' H' hk e' o' r' => c r v' n2 Γ2 B' H' hk ((e1.trans e2).trans e') o' r')
/-- .. which may raise -/
theorem we_methX {S : FX K} {C : Addr} {flds : α → Flds} {m : Str} {R : TyA A} {s : Ty S.ρ} {k : S.ρ → NK} (hW : Wish K w xp W) (up : α → A → S.A)
    (hup : ∀ {d B v vs x a}, (tObj C flds).rep B v x → R.rep d B vs a → S.args.rep d B (v :: vs) (up x a)) (hno : ∀ x, (flds x).lookup m = none) (hres : S.res = fun x => .im s x)
    (h : WpE K w n Γ ta (tObj C flds) (fun x n Γ => WpA K w n Γ tr R (fun a n Γ => S.pre (up x a) ∧ May S.cost n ∧ (∀ r n', S.post (up x a) r → Costs S.cost n n' → k r n' Γ) ∧ ∀ er n', S.xpost (up x a) er → Costs S.cost n n' → xp er n' Γ))) : WpE K w n Γ (tMethS C m S.sp (WE W) ta tr) s k := fun σ B H ok Q c =>
  h σ B H ok _ fun x v n1 Γ1 B1 H1 q1 e1 o1 r1 => by
    obtain ⟨a, dx, fs, h1, h2, h3⟩ := id r1
    subst h1
    refine ⟨a, dx, fs, rfl, o1.ex _ _ h2, (h3 m).1 (hno x), q1 σ B1 H1 o1 _ fun y vs n2 Γ2 B2 H2 ⟨hp, hm, q, qx⟩ e2 o2 r2 => ?_⟩
    refine ⟨w.d, w.ca, w.cs, n2, B2, up x y, o2.entry, hup ((tObj C flds).mono e2 r1) r2, hp, hm, fun r v' n' B' H' hx hcc e' o' sl => ?_, fun er cls dd n' B' H' hx hc e' o' r' => hW cls dd er n' Γ2 σ B' H' (qx er n' hx hc) (o2.back o') r'⟩
    rw [hres] at sl
    obtain ⟨v2, g1, g2⟩ := sl
    cases g1
    exact c r v' n' Γ2 B' H' (q r n' hx hcc) ((e1.trans e2).trans e') (o2.back o') g2
/-! kinds narrowed -/
theorem we_ofInl {k : α → NK} (h : WpE K w n Γ te (tE t u) (fun x n Γ => ∃ y, x = .inl y ∧ k y n Γ)) : WpE K w n Γ te t k := fun σ B H ok Q c => h σ B H ok Q fun x v n' Γ' B' H' ⟨y, hx, q⟩ e o r => by
  subst hx
  exact c y v n' Γ' B' H' q e o r
theorem we_ofInr {k : β → NK} (h : WpE K w n Γ te (tE t u) (fun x n Γ => ∃ y, x = .inr y ∧ k y n Γ)) : WpE K w n Γ te u k := fun σ B H ok Q c => h σ B H ok Q fun x v n' Γ' B' H' ⟨y, hx, q⟩ e o r => by
  subst hx
  exact c y v n' Γ' B' H' q e o r
theorem tR_of {B : Hp} {v : V} {xs : List α} (h : (tL t).rep B v xs) : (tR t).rep B v xs := by
  obtain ⟨a, vs, h1, h2, h3⟩ := h
  exact ⟨a, vs, h1, .inl h2, h3⟩
end
end TL

/-! # TL: == and != of tuples whose items answer by their own methods, with either answer -/
namespace GQB
open PySem PySem.SeqAt
open AutoSeq1 (wpAny_loadPart')
open MeetsSeq MeetsSeq2 MeetsSeq3 SeqRoads2
section
variable {prog : Program} {w : World} {A : Around} {R : Result → Shared → Prop}
abbrev FinOf (prog : Program) (w : World) (A : Around) (R : Result → Shared → Prop) : Fin → Shared → Prop := GQ.FinOf prog w A R
theorem tuple_eqG (l b : Addr) (items items2 : Array Value) (n n2 : Nat) (dd dd2 : Option Addr) (sl sl2 : Array (Option Value)) (e : Nat → Bool) (I : Nat → Shared → Prop)
    (turn : ∀ i (h1 : i < items.size) (h2 : i < items2.size) s, I i s → wpAny (model prog w) A.in1 (eqBool items[i] items2[i]) (fun r s' => r = e i ∧ I (i + 1) s') (fun e s' => R (.error e) s') s)
    (fin : ∀ i s, I i s → R (.ok (.ret (.bool ((List.range (min items.size items2.size)).all e && items.size == items2.size)))) s) {s : Shared} (hl1 : s.heap.get? l = some { cls := .type "tuple", dict := dd, data := .seq items n, slots := sl }) (hb1 : s.heap.get? b = some { cls := .type "tuple", dict := dd2, data := .seq items2 n2, slots := sl2 }) (h : I 0 s) :
    wpAny (model prog w) A.in1 (Builtin.«tuple.__eq__» ⟨[.ref l, .ref b], []⟩) (FinOf prog w A R) (fun e s' => R (.error e) s') s := by
  have f2 := AutoSeq1.sub_tuple_tuple
  have hZ : (items.toList.zip items2.toList).length = min items.size items2.size := by simp
  have h0 := h
  obtain ⟨hp, g, d, tk, os⟩ := s
  wp_walk using wpAny_loadPart' hl1, wpAny_loadPart' hb1, wpAny_forIn_list _ (fun rest b s' => b.1 = none ∧ ∃ i, rest = (items.toList.zip items2.toList).drop i ∧ i ≤ min items.size items2.size ∧ ((List.range i).all e = true) ∧ I i s') _
  case turn =>
    rintro ⟨y, x⟩ rest b s' ⟨hb', i, hz, hi, hall, hI⟩
    have hlt : i < (items.toList.zip items2.toList).length := by
      rcases Nat.lt_or_ge i (items.toList.zip items2.toList).length with h' | h'
      · exact h'
      · rw [List.drop_of_length_le h'] at hz; cases hz
    have hm : i < min items.size items2.size := hZ ▸ hlt
    have h1 : i < items.size := Nat.lt_of_lt_of_le hm (Nat.min_le_left _ _)
    have h2 : i < items2.size := Nat.lt_of_lt_of_le hm (Nat.min_le_right _ _)
    rw [List.drop_eq_getElem_cons hlt] at hz
    injection hz with hyx hrest
    have hy : y = items[i] := by have := congrArg Prod.fst hyx; simpa using this
    have hx : x = items2[i] := by have := congrArg Prod.snd hyx; simpa using this
    subst hy hx
    refine wpAny_bind (wpAny_mono (turn i h1 h2 s' hI) (fun r s2 q2 => ?_) fun _ _ x => x)
    obtain ⟨hr, q2⟩ := q2
    subst hr
    cases he : e i with
    | true =>
      wp_walk
      exact ⟨rfl, i + 1, hrest, hm, by rw [List.range_succ, List.all_append, hall]; simp [he], q2⟩
    | false =>
      have hf : (List.range (min items.size items2.size)).all e = false := by
        cases z : (List.range (min items.size items2.size)).all e with
        | false => rfl
        | true => rw [List.all_eq_true.mp z i (List.mem_range.mpr hm)] at he; cases he
      have hR := fin _ _ q2
      rw [hf] at hR
      wp_walk
      simpa using hR
  case fin =>
    rintro ⟨b1, b2⟩ s' ⟨hb', i, hz, hi, hall, hI⟩
    simp only at hb'
    subst hb'
    have hge : min items.size items2.size ≤ i := by
      rcases Nat.lt_or_ge i (items.toList.zip items2.toList).length with h' | h'
      · rw [List.drop_eq_getElem_cons h'] at hz; cases hz
      · exact hZ ▸ h'
    have hi' : i = min items.size items2.size := by omega
    rw [hi'] at hall
    have hR := fin _ _ hI
    rw [hall] at hR
    wp_walk
    simpa [Builtin.Tuple.tupleCompareSizes] using hR
  case h =>
    exact ⟨rfl, 0, rfl, Nat.zero_le _, rfl, h0⟩
theorem tuple_neG (l b : Addr) (items items2 : Array Value) (n n2 : Nat) (dd dd2 : Option Addr) (sl sl2 : Array (Option Value)) (e : Nat → Bool) (I : Nat → Shared → Prop)
    (turn : ∀ i (h1 : i < items.size) (h2 : i < items2.size) s, I i s → wpAny (model prog w) A.in1 (eqBool items[i] items2[i]) (fun r s' => r = e i ∧ I (i + 1) s') (fun e s' => R (.error e) s') s)
    (fin : ∀ i s, I i s → R (.ok (.ret (.bool (!((List.range (min items.size items2.size)).all e && items.size == items2.size))))) s) {s : Shared} (hl1 : s.heap.get? l = some { cls := .type "tuple", dict := dd, data := .seq items n, slots := sl }) (hb1 : s.heap.get? b = some { cls := .type "tuple", dict := dd2, data := .seq items2 n2, slots := sl2 }) (h : I 0 s) :
    wpAny (model prog w) A.in1 (Builtin.«tuple.__ne__» ⟨[.ref l, .ref b], []⟩) (FinOf prog w A R) (fun e s' => R (.error e) s') s := by
  have f2 := AutoSeq1.sub_tuple_tuple
  have hZ : (items.toList.zip items2.toList).length = min items.size items2.size := by simp
  have h0 := h
  obtain ⟨hp, g, d, tk, os⟩ := s
  wp_walk using wpAny_loadPart' hl1, wpAny_loadPart' hb1, wpAny_forIn_list _ (fun rest b s' => b.1 = none ∧ ∃ i, rest = (items.toList.zip items2.toList).drop i ∧ i ≤ min items.size items2.size ∧ ((List.range i).all e = true) ∧ I i s') _
  case turn =>
    rintro ⟨y, x⟩ rest b s' ⟨hb', i, hz, hi, hall, hI⟩
    have hlt : i < (items.toList.zip items2.toList).length := by
      rcases Nat.lt_or_ge i (items.toList.zip items2.toList).length with h' | h'
      · exact h'
      · rw [List.drop_of_length_le h'] at hz; cases hz
    have hm : i < min items.size items2.size := hZ ▸ hlt
    have h1 : i < items.size := Nat.lt_of_lt_of_le hm (Nat.min_le_left _ _)
    have h2 : i < items2.size := Nat.lt_of_lt_of_le hm (Nat.min_le_right _ _)
    rw [List.drop_eq_getElem_cons hlt] at hz
    injection hz with hyx hrest
    have hy : y = items[i] := by have := congrArg Prod.fst hyx; simpa using this
    have hx : x = items2[i] := by have := congrArg Prod.snd hyx; simpa using this
    subst hy hx
    refine wpAny_bind (wpAny_mono (turn i h1 h2 s' hI) (fun r s2 q2 => ?_) fun _ _ x => x)
    obtain ⟨hr, q2⟩ := q2
    subst hr
    cases he : e i with
    | true =>
      wp_walk
      exact ⟨rfl, i + 1, hrest, hm, by rw [List.range_succ, List.all_append, hall]; simp [he], q2⟩
    | false =>
      have hf : (List.range (min items.size items2.size)).all e = false := by
        cases z : (List.range (min items.size items2.size)).all e with
        | false => rfl
        | true => rw [List.all_eq_true.mp z i (List.mem_range.mpr hm)] at he; cases he
      have hR := fin _ _ q2
      rw [hf] at hR
      wp_walk
      simpa using hR
  case fin =>
    rintro ⟨b1, b2⟩ s' ⟨hb', i, hz, hi, hall, hI⟩
    simp only at hb'
    subst hb'
    have hge : min items.size items2.size ≤ i := by
      rcases Nat.lt_or_ge i (items.toList.zip items2.toList).length with h' | h'
      · rw [List.drop_eq_getElem_cons h'] at hz; cases hz
      · exact hZ ▸ h'
    have hi' : i = min items.size items2.size := by omega
    rw [hi'] at hall
    have hR := fin _ _ hI
    rw [hall] at hR
    wp_walk
    simpa [Builtin.Tuple.tupleCompareSizes, bne] using hR
  case h =>
    exact ⟨rfl, 0, rfl, Nat.zero_le _, rfl, h0⟩
end
section
variable {prog : Program} {w : World} {A : Around} {E : Value → Shared → Prop} {s : Shared}
theorem rc_tupG {l b : Addr} {items items2 : Array Value} {Q : Value → Shared → Prop} (hu : A.units < cLine) (e : Nat → Bool) (I : Nat → Shared → Prop)
    (hl : s.heap.IsTuple l items) (hb : s.heap.IsTuple b items2)
    (turn : ∀ i (h1 : i < items.size) (h2 : i < items2.size) s, I i s → wpAny (model prog w) A.in1 (eqBool items[i] items2[i]) (fun r s' => r = e i ∧ I (i + 1) s') E s)
    (fin : ∀ i s, I i s → Q (.bool ((List.range (min items.size items2.size)).all e && items.size == items2.size)) s) (h : I 0 s) : wpAny (model prog w) A (richCompare .Eq (.ref l) (.ref b)) Q E s := by
  obtain ⟨⟨cls, dd, data, sl⟩, ho, hc, n, hd⟩ := id hl
  obtain ⟨⟨cls2, dd2, data2, sl2⟩, ho2, hc2, n2, hd2⟩ := id hb
  simp only at hc hd hc2 hd2
  subst hc hd hc2 hd2
  refine wpAny_richCompare_same_room (op := .Eq) ⟨_, ho, rfl⟩ ⟨_, ho2, rfl⟩ F.slot_tuple_eq (GQ.call_here F.slot_tuple_eq ⟨_, ho, rfl⟩ F.entry_tuple_eq (F.args_tuple_eq_2 _ _) ?_) hu
  exact tuple_eqG (R := wants (fun v s' => v ≠ .notImplemented ∧ Q v s') E) l b items items2 n n2 dd dd2 sl sl2 e I turn (fun i s' q => ⟨(fun x => nomatch x), fin i s' q⟩) ho ho2 h
theorem rc_tupNeG {l b : Addr} {items items2 : Array Value} {Q : Value → Shared → Prop} (hu : A.units < cLine) (e : Nat → Bool) (I : Nat → Shared → Prop)
    (hl : s.heap.IsTuple l items) (hb : s.heap.IsTuple b items2)
    (turn : ∀ i (h1 : i < items.size) (h2 : i < items2.size) s, I i s → wpAny (model prog w) A.in1 (eqBool items[i] items2[i]) (fun r s' => r = e i ∧ I (i + 1) s') E s)
    (fin : ∀ i s, I i s → Q (.bool (!((List.range (min items.size items2.size)).all e && items.size == items2.size))) s) (h : I 0 s) : wpAny (model prog w) A (richCompare .NotEq (.ref l) (.ref b)) Q E s := by
  obtain ⟨⟨cls, dd, data, sl⟩, ho, hc, n, hd⟩ := id hl
  obtain ⟨⟨cls2, dd2, data2, sl2⟩, ho2, hc2, n2, hd2⟩ := id hb
  simp only at hc hd hc2 hd2
  subst hc hd hc2 hd2
  refine wpAny_richCompare_same_room (op := .NotEq) ⟨_, ho, rfl⟩ ⟨_, ho2, rfl⟩ F.slot_tuple_ne (GQ.call_here F.slot_tuple_ne ⟨_, ho, rfl⟩ F.entry_tuple_ne (F.args_tuple_ne_2 _ _) ?_) hu
  exact tuple_neG (R := wants (fun v s' => v ≠ .notImplemented ∧ Q v s') E) l b items items2 n n2 dd dd2 sl sl2 e I turn (fun i s' q => ⟨(fun x => nomatch x), fin i s' q⟩) ho ho2 h
end
end GQB
namespace TL
open PySem L2 PyProof.Rows PySem.Calls
open PySem.W (Frag)
/-- how two values compare, by the abstract heap -/
abbrev EqvB := V → V → Hp → Bool → Prop
def MonB (D : EqvB) : Prop := ∀ x y H H' b, Ext H H' → D x y H b → D x y H' b
/-- == gives what D says, and only makes objects -/
def EqB (X : Cx) (n : Nat) (D : EqvB) : Prop :=
  ∀ (A : Around) (pins : List (Addr × Obj)) (s : Shared) (σ : L2.St) (H : Hp) (x y : V) (u v : Value) (b : Bool), Sub X n A → Inv X pins σ H s → RelV x u → RelV y v → D x y H b →
    wpAny (model X.prog X.w) A (eqBool u v) (fun r s' => r = b ∧ ∃ H', Inv X pins σ H' s' ∧ Ext H H') X.xe s
def RcB (op : CmpOp) (X : Cx) (n : Nat) (D : EqvB) : Prop :=
  ∀ (A : Around) (pins : List (Addr × Obj)) (s : Shared) (σ : L2.St) (H : Hp) (x y : V) (u v : Value) (b : Bool), Sub X n A → Inv X pins σ H s → RelV x u → RelV y v → D x y H b →
    wpAny (model X.prog X.w) A (richCompare op u v) (fun r s' => r = .bool b ∧ ∃ H', Inv X pins σ H' s' ∧ Ext H H') X.xe s
section
variable {X : Cx} {n m : Nat} {D D' : EqvB}
theorem EqB.mono (h : EqB X n D) (hn : n ≤ m) : EqB X m D := fun A pins s σ H x y u v b sb => h A pins s σ H x y u v b (sb.mono hn)
theorem EqB.or (h : EqB X n D) (h' : EqB X n D') : EqB X n (fun x y H b => D x y H b ∨ D' x y H b) := fun A pins s σ H x y u v b sb I rx ry d => by
  rcases d with d | d
  · exact h A pins s σ H x y u v b sb I rx ry d
  · exact h' A pins s σ H x y u v b sb I rx ry d
theorem EqB.imp (h : EqB X n D) (hd : ∀ x y H b, D' x y H b → D x y H b) : EqB X n D' := fun A pins s σ H x y u v b sb I rx ry d => h A pins s σ H x y u v b sb I rx ry (hd x y H b d)
def DFlatB : EqvB := fun x y _ b => flatV x = true ∧ flatV y = true ∧ eqV x y = b
theorem mon_flatB : MonB DFlatB := fun _ _ _ _ _ _ d => d
theorem eqB_flat : EqB X 0 DFlatB := by
  intro A pins s σ H x y u v b sb I rx ry d
  obtain ⟨fx, fy, e⟩ := d
  have q := eqAt_V (A := A) (s := s) rx ry fx fy
  rw [e] at q
  exact q X.prog X.w X.xe _ ⟨rfl, H, I, Ext.rfl'⟩
/-- item by item -/
def PrsB (D : EqvB) (xs ys : List V) (e : Nat → Bool) (H : Hp) : Prop := ∀ (i : Nat) x y, xs[i]? = some x → ys[i]? = some y → D x y H (e i)
theorem turnB (hD : MonB D) (h : EqB X n D) {A : Around} (sb : Sub X (n + 1) A) {pins : List (Addr × Obj)} {σ : L2.St} {H : Hp} {xs ys : List V} {e : Nat → Bool} {its its2 : List Value} (p : PrsB D xs ys e H) (r : Vals xs its) (r2 : Vals ys its2)
    (i : Nat) (h1 : i < its.toArray.size) (h2 : i < its2.toArray.size) (s' : Shared) (l : LoopI X pins σ H s') :
    wpAny (model X.prog X.w) A.in1 (eqBool its.toArray[i] its2.toArray[i]) (fun r s2 => r = e i ∧ LoopI X pins σ H s2) X.xe s' := by
  obtain ⟨H1, I1, e1⟩ := l
  have g1 : its[i]? = some its.toArray[i] := by
    have h1' : i < its.length := by simpa using h1
    rw [List.getElem?_eq_getElem h1'] <;> simp
  have g2 : its2[i]? = some its2.toArray[i] := by
    have h2' : i < its2.length := by simpa using h2
    rw [List.getElem?_eq_getElem h2'] <;> simp
  have k1 : i < xs.length := by rw [r.length]; simpa using h1
  have k2 : i < ys.length := by rw [r2.length]; simpa using h2
  obtain ⟨u, hu, ru⟩ := r.get (List.getElem?_eq_getElem k1)
  obtain ⟨v, hv, rv⟩ := r2.get (List.getElem?_eq_getElem k2)
  rw [g1] at hu
  rw [g2] at hv
  rw [Option.some.inj hu, Option.some.inj hv]
  refine wpAny_mono (h A.in1 pins s' σ H1 _ _ u v _ sb.in1 I1 ru rv (hD _ _ _ _ _ e1 (p i _ _ (List.getElem?_eq_getElem k1) (List.getElem?_eq_getElem k2)))) (fun r s2 q => ?_) fun _ _ x => x
  obtain ⟨hr, H2, I2, e2⟩ := q
  exact ⟨hr, H2, I2, e1.trans e2⟩
def allB (e : Nat → Bool) (m n : Nat) : Bool := (List.range (min m n)).all e && m == n
def DTupB (K : Frag) (D : EqvB) : EqvB := fun x y H b => ∃ a c xs ys e, x = .ref a ∧ y = .ref c ∧ SqT K H a xs ∧ SqT K H c ys ∧ PrsB D xs ys e H ∧ b = allB e xs.length ys.length ∧ (a = c → b = true)
theorem mon_tupB {K : Frag} (hD : MonB D) : MonB (DTupB K D) := fun x y H H' b e d => by
  obtain ⟨a, c, xs, ys, f, hx, hy, h1, h2, p, hb⟩ := d
  exact ⟨a, c, xs, ys, f, hx, hy, h1.ext e, h2.ext e, fun i x y k1 k2 => hD _ _ _ _ _ e (p i x y k1 k2), hb⟩
theorem rcB_tup (hD : MonB D) (h : EqB X n D) : RcB .Eq X (n + 1) (DTupB X.K D) := by
  intro A pins s σ H x y u v b sb I rx ry d
  obtain ⟨a, c, xs, ys, f, rfl, rfl, ha, hb, p, hbb, _⟩ := d
  cases rx
  cases ry
  obtain ⟨its, r, e, z⟩ := I.tuple ha
  obtain ⟨its2, r2, e2, z2⟩ := I.tuple hb
  refine GQB.rc_tupG sb.room.units0 f (fun _ s' => LoopI X pins σ H s') e e2 (fun i h1 h2 s' q => turnB hD h sb p r r2 i h1 h2 s' q) (fun i s' q => ⟨?_, q⟩) ⟨H, I, Ext.rfl'⟩
  rw [hbb]
  unfold allB
  rw [List.size_toArray, List.size_toArray, ← r.length, ← r2.length]
theorem rcB_tupNe (hD : MonB D) (h : EqB X n D) : RcB .NotEq X (n + 1) (fun x y H b => DTupB X.K D x y H (!b)) := by
  intro A pins s σ H x y u v b sb I rx ry d
  obtain ⟨a, c, xs, ys, f, rfl, rfl, ha, hb, p, hbb, _⟩ := d
  cases rx
  cases ry
  obtain ⟨its, r, e, z⟩ := I.tuple ha
  obtain ⟨its2, r2, e2, z2⟩ := I.tuple hb
  refine GQB.rc_tupNeG sb.room.units0 f (fun _ s' => LoopI X pins σ H s') e e2 (fun i h1 h2 s' q => turnB hD h sb p r r2 i h1 h2 s' q) (fun i s' q => ⟨?_, q⟩) ⟨H, I, Ext.rfl'⟩
  have hb2 : b = !(allB f xs.length ys.length) := by rw [← hbb]; simp
  rw [hb2]
  unfold allB
  rw [List.size_toArray, List.size_toArray, ← r.length, ← r2.length]
/-- from a rich comparison of references to == inside a tuple: the same object is equal to itself -/
theorem RcB.eqB (h : RcB .Eq X n D) (hr : ∀ x y H b, D x y H b → ∃ a c, x = .ref a ∧ y = .ref c ∧ (a = c → b = true)) : EqB X n D := by
  intro A pins s σ H x y u v b sb I rx ry d
  obtain ⟨a, c, rfl, rfl, hs⟩ := hr _ _ _ _ d
  cases rx
  cases ry
  by_cases hab : a = c
  · have := hs hab
    subst hab; subst this
    exact SeqAt.EqAt.same (A := A) (s := s) (.ref a) X.prog X.w X.xe _ ⟨rfl, H, I, Ext.rfl'⟩
  · refine GQ.eqBool_refG hab (wpAny_mono (h A pins s σ H (.ref a) (.ref c) _ _ b sb I rfl rfl d) (fun r s' q => ?_) fun _ _ x => x)
    obtain ⟨hr', q⟩ := q
    exact ⟨b, hr', rfl, q⟩
theorem eqB_tup (hD : MonB D) (h : EqB X n D) : EqB X (n + 1) (DTupB X.K D) := (rcB_tup hD h).eqB fun _ _ _ _ d => let ⟨a, c, _, _, _, hx, hy, _, _, _, _, hz⟩ := d; ⟨a, c, hx, hy, hz⟩
/-- two instances of the class at C: what R says of them -/
def DInsB (C : Addr) (R : V → V → Hp → Bool → Prop) : EqvB := fun x y H b => ∃ a c dx dy fs gs, x = .ref a ∧ y = .ref c ∧ H a = some (.ins C dx fs) ∧ H c = some (.ins C dy gs) ∧ R x y H b ∧ (a = c → b = true)
theorem mon_insB {C : Addr} {R : V → V → Hp → Bool → Prop} (hR : MonB R) : MonB (DInsB C R) := fun x y H H' b e d => by
  obtain ⟨a, c, dx, dy, fs, gs, hx, hy, h1, h2, r, z⟩ := d
  exact ⟨a, c, dx, dy, fs, gs, hx, hy, e _ _ h1, e _ _ h2, hR _ _ _ _ _ e r, z⟩
def spEqB (R : V → V → Hp → Bool → Prop) : Sp := fun vs H Q _ => ∃ x y b, vs = [x, y] ∧ R x y H b ∧ ∀ H', Ext H H' → Q (.bl b) H'
theorem rcB_ins {C f : Addr} {fd : FuncData} {ps : List Str} {R : V → V → Hp → Bool → Prop} (F : FnOk X.prog X.w X.K X.mg X.base CX0 n f fd ps (spEqB R))
    (hs : PySem.W.findIn X.K (.ref C) "__eq__" = some (some (.ref f))) (hf : PySem.W.isFn X.K (.ref f) = true) (hb : Binds X.K fd ps []) : RcB .Eq X n (DInsB C R) := by
  intro A pins s σ H x y u v b sb I rx ry d
  obtain ⟨a, c, dx, dy, fs, gs, rfl, rfl, ha, hc, hr, _⟩ := d
  cases rx
  cases ry
  obtain ⟨mA, J, _⟩ := ins_get I.hok ha
  obtain ⟨mB, J', _⟩ := ins_get I.hok hc
  obtain ⟨od, J, _⟩ := J.look
  obtain ⟨od', J', _⟩ := J'.look
  obtain ⟨m, hF⟩ := I.fr
  refine PySem.W.cmp_K (op := .Eq) (tb := .ref C) sb.room.units0 hF I.ok.mod.kin J J'.type (by simp [PySem.W.notFirst]) hs hf ?_
  have hsp : spEqB R [.ref a, .ref c] H (fun v H' => v = .bl b ∧ Ext H H') E0 := ⟨_, _, b, rfl, hr, fun H' e => ⟨rfl, e⟩⟩
  have e0 : Env0 X.prog X.w X.K X.mg X.base A X.stack s H := by
    have e := I.env0
    exact ⟨by rw [sb.fr]; exact e.frames, e.mod, e.bs, e.bsz, e.funs, e.frf, e.hok, e.bare⟩
  have hl := F.len _ _ _ _ hsp
  have r2 : Vals [V.ref a, V.ref c] [Value.ref a, Value.ref c] := .cons rfl (.cons rfl .nil)
  refine wpAny_call (codeAny_mono (F.run A X.stack s H ⟨[.ref a, .ref c], []⟩ [.ref a, .ref c] [.ref a, .ref c] _ E0 sb.room e0 (by
    have := hb s [.ref a, .ref c] I.kIn (by simpa using hl)
    simpa using this) r2 hsp) fun r s' hq => ?_)
  cases r with
  | error e => exact hq.elim
  | ok fl =>
    cases fl with
    | ret w =>
      obtain ⟨z, H', I', rz, ez, ex⟩ := I.after hq
      subst ez
      cases rz
      exact ⟨rfl, H', I', ex⟩
    | next => exact False.elim hq
    | brk => exact False.elim hq
    | cont => exact False.elim hq
theorem eqB_ins {C : Addr} {k : Nat} {ps : List Str} {sp : Sp} {R : V → V → Hp → Bool → Prop} (c : MethBy X.prog X.w X.K X.mg X.base CX0 k C "__eq__" ps sp) (hsp : ∀ vs H Q E, spEqB R vs H Q E → sp vs H Q E) (hn : k ≤ n) : EqB X n (DInsB C R) := by
  obtain ⟨f, fd, h1, F, hb⟩ := c.ex
  exact (rcB_ins ((F.imp hsp).mono hn) h1.at_ h1.fn hb).eqB fun _ _ _ _ d => let ⟨a, c, _, _, _, _, hx, hy, _, _, _, hz⟩ := d; ⟨a, c, hx, hy, hz⟩
/-- x == y, x != y as expressions -/
def rEqB (D : EqvB) : R2 := fun x y H Q => ∃ b, D x y H b ∧ ∀ H', Ext H H' → Q (.bl b) H'
theorem op_rcB {op : CmpOp} (ho : compareOp op = richCompare op) (h : RcB op X n D) (hr : Room n X.A) : OpR X (compareOp op) (rEqB D) := by
  intro pins s σ H x y v u Q I rx ry hq
  obtain ⟨b, d, q⟩ := hq
  rw [ho]
  refine wpAny_mono (h X.A pins s σ H x y v u b ⟨hr, rfl⟩ I rx ry d) (fun r s' z => ?_) fun _ _ x => x
  obtain ⟨hr', H', I', e⟩ := z
  subst hr'
  exact ⟨.bl b, H', I', rfl, q H' e⟩
end
section
variable {K : Frag} {w : Wd} {n : Option Nat} {Γ : Env} {α β γ : Type} {t : Ty α} {u : Ty β} {ta tb te : TE}
/-- how data of two kinds compare -/
structure Cmp (K : Frag) (t : Ty α) (u : Ty β) (D : EqvB) where
  eq : α → β → Bool
  pre : α → β → Prop
  ok : ∀ {B H v1 v2 a b}, t.rep B v1 a → u.rep B v2 b → pre a b → Ex B H → D v1 v2 H (eq a b)
theorem ext_ex {H H' : Hp} (e : Ext H H') : Ex H H' := fun a o h => e a o h
theorem Ok.ext {σ : L2.St} {B H H' : Hp} (o : Ok K w n Γ σ B H) (e : Ext H H') : Ok K w n Γ σ B H' := o.grow ⟨fun a q h => e a q (o.ex a q h), Ex.refl _, ext_ex e, fun _ _ h => .inl h⟩
theorem we_cmpB {D : EqvB} (c : Cmp K t u D) {k : Bool → NK} (h : WpE K w n Γ ta t (fun a n Γ => WpE K w n Γ tb u (fun b n Γ => c.pre a b ∧ k (c.eq a b) n Γ))) : WpE K w n Γ (tOp (rEqB D) ta tb) tBo k := fun σ B H ok Q cc =>
  h σ B H ok _ fun a v1 n1 Γ1 B1 H1 q1 e1 o1 r1 => q1 σ B1 H1 o1 _ fun b v2 n2 Γ2 B2 H2 ⟨hp, q⟩ e2 o2 r2 =>
    ⟨_, c.ok (t.mono e2 r1) r2 hp o2.ex, fun H' e => cc _ _ n2 Γ2 B2 H' q (e1.trans e2) (o2.ext e) rfl⟩
theorem we_cmpNeB {D : EqvB} (c : Cmp K t u D) {k : Bool → NK} (h : WpE K w n Γ ta t (fun a n Γ => WpE K w n Γ tb u (fun b n Γ => c.pre a b ∧ k (!c.eq a b) n Γ))) : WpE K w n Γ (tOp (rEqB fun x y H b => D x y H (!b)) ta tb) tBo k := fun σ B H ok Q cc =>
  h σ B H ok _ fun a v1 n1 Γ1 B1 H1 q1 e1 o1 r1 => q1 σ B1 H1 o1 _ fun b v2 n2 Γ2 B2 H2 ⟨hp, q⟩ e2 o2 r2 =>
    ⟨!c.eq a b, by show D v1 v2 H2 (!(!c.eq a b)); rw [Bool.not_not]; exact c.ok (t.mono e2 r1) r2 hp o2.ex, fun H' e => cc _ _ n2 Γ2 B2 H' q (e1.trans e2) (o2.ext e) rfl⟩
/-- a value stands for one datum alone -/
def Det (t : Ty α) : Prop := ∀ (B : Hp) v x y, t.rep B v x → t.rep B v y → x = y
theorem detI : Det tI := fun B v x y h1 h2 => by
  have h1 : v = V.int x := h1
  have h2 : v = V.int y := h2
  rw [h1] at h2; cases h2; rfl
theorem pw_det {R : V → α → Prop} (hR : ∀ v x y, R v x → R v y → x = y) {vs : List V} {xs ys : List α} (p : Paired R vs xs) (q : Paired R vs ys) : xs = ys := by
  induction p generalizing ys with
  | nil => cases q; rfl
  | cons h _ ih =>
    cases q with
    | cons h' q' => rw [hR _ _ _ h h', ih q']
theorem detU (h : Det t) : Det (tU t) := fun B v x y ⟨a, vs, h1, h2, p⟩ ⟨a', vs', h1', h2', p'⟩ => by
  rw [h1] at h1'; cases h1'
  rw [h2] at h2'; cases h2'
  exact pw_det (fun v x y => h B v x y) p p'
theorem detP (h : Det t) (h' : Det u) : Det (tP t u) := fun B v x y ⟨a, p, q, h1, h2, h3, h4⟩ ⟨a', p', q', h1', h2', h3', h4'⟩ => by
  rw [h1] at h1'; cases h1'
  rw [h2] at h2'; cases h2'
  exact Prod.ext (h _ _ _ _ h3 h3') (h' _ _ _ _ h4 h4')
def cmpI : Cmp K tI tI DFlatB := ⟨fun a b => decide (a = b), fun _ _ => True, fun {B H v1 v2 a b} h1 h2 _ _ => by
  cases (show v1 = V.int a from h1)
  cases (show v2 = V.int b from h2)
  exact ⟨rfl, rfl, by show eqV (.int a) (.int b) = _; simp only [eqV]; rw [Bool.eq_iff_iff]; simp⟩⟩
def eqL (eq : α → β → Bool) : List α → List β → Bool
  | [], [] => true
  | a :: as, b :: bs => eq a b && eqL eq as bs
  | _, _ => false
def preL (pre : α → β → Prop) : List α → List β → Prop
  | a :: as, b :: bs => pre a b ∧ preL pre as bs
  | _, _ => True
theorem eqL_all {eq : α → β → Bool} {as : List α} : ∀ {bs : List β}, eqL eq as bs = allB (fun i => match as[i]?, bs[i]? with | some a, some b => eq a b | _, _ => true) as.length bs.length := by
  induction as with
  | nil =>
    intro bs
    cases bs with
    | nil => simp [eqL, allB]
    | cons b bs => simp [eqL, allB]
  | cons a as ih =>
    intro bs
    cases bs with
    | nil => simp [eqL, allB]
    | cons b bs =>
      rw [eqL, ih]
      unfold allB
      rw [List.length_cons, List.length_cons, Nat.succ_min_succ, List.range_succ_eq_map, List.all_cons, List.all_map]
      have hl : (as.length + 1 == bs.length + 1) = (as.length == bs.length) := by
        rw [Bool.eq_iff_iff, beq_iff_eq, beq_iff_eq]; omega
      rw [hl, ← Bool.and_assoc]
      rfl
theorem preL_get {pre : α → β → Prop} : ∀ {as : List α} {bs : List β} {i : Nat} {a : α} {b : β}, preL pre as bs → as[i]? = some a → bs[i]? = some b → pre a b
  | [], _, i, _, _, _, h, _ => by simp at h
  | _ :: _, [], i, _, _, _, _, h => by simp at h
  | x :: as, y :: bs, 0, a, b, p, h1, h2 => by
    simp at h1 h2
    subst h1; subst h2
    exact p.1
  | x :: as, y :: bs, i + 1, a, b, p, h1, h2 => preL_get (as := as) (bs := bs) p.2 (by simpa using h1) (by simpa using h2)
theorem prsB_of {D : EqvB} (c : Cmp K t u D) {B H : Hp} {vs vs' : List V} {as : List α} {bs : List β} (p : Paired (t.rep B) vs as) (p' : Paired (u.rep B) vs' bs) (hp : preL c.pre as bs) (e : Ex B H) :
    PrsB D vs vs' (fun i => match as[i]?, bs[i]? with | some a, some b => c.eq a b | _, _ => true) H := fun i x y h1 h2 => by
  obtain ⟨a, ha, ra⟩ := pw_getL p h1
  obtain ⟨b, hb, rb⟩ := pw_getL p' h2
  dsimp only
  rw [ha, hb]
  exact c.ok ra rb (preL_get hp ha hb) e
def cmpU {D : EqvB} (c : Cmp K t u D) (refl : ∀ {B : Hp} {v : V} {as : List α} {bs : List β}, (tU t).rep B v as → (tU u).rep B v bs → preL c.pre as bs → eqL c.eq as bs = true) : Cmp K (tU t) (tU u) (DTupB K D) :=
  ⟨eqL c.eq, preL c.pre, fun {B H v1 v2 as bs} h1 h2 hp e => by
    obtain ⟨a, vs, e1, s1, p1⟩ := id h1
    obtain ⟨a', vs', e2, s2, p2⟩ := id h2
    refine ⟨a, a', vs, vs', _, e1, e2, SqT.of (e _ _ s1), SqT.of (e _ _ s2), prsB_of c p1 p2 hp e, ?_, fun z => ?_⟩
    · rw [pw_len p1, pw_len p2]; exact eqL_all
    · subst e1; subst e2; subst z
      exact refl h1 h2 hp⟩
def cmpP {D D' : EqvB} {r : Ty γ} {s : Ty δ} (c : Cmp K t u D) (c' : Cmp K r s D') (refl : ∀ {B : Hp} {v : V} {a : α × γ} {b : β × δ}, (tP t r).rep B v a → (tP u s).rep B v b → c.pre a.1 b.1 → c'.pre a.2 b.2 → (c.eq a.1 b.1 && c'.eq a.2 b.2) = true) :
    Cmp K (tP t r) (tP u s) (DTupB K fun x y H b => D x y H b ∨ D' x y H b) :=
  ⟨fun a b => c.eq a.1 b.1 && c'.eq a.2 b.2, fun a b => c.pre a.1 b.1 ∧ c'.pre a.2 b.2, fun {B H v1 v2 x y} h1 h2 hp e => by
    obtain ⟨a, p, q, e1, s1, r1, r2⟩ := id h1
    obtain ⟨a', p', q', e2, s2, r1', r2'⟩ := id h2
    refine ⟨a, a', [p, q], [p', q'], fun i => if i = 0 then c.eq x.1 y.1 else c'.eq x.2 y.2, e1, e2, SqT.of (e _ _ s1), SqT.of (e _ _ s2), fun i u v g1 g2 => ?_, ?_, fun z => ?_⟩
    · match i with
      | 0 =>
        simp at g1 g2
        subst g1; subst g2
        exact .inl (c.ok r1 r1' hp.1 e)
      | 1 =>
        simp at g1 g2
        subst g1; subst g2
        exact .inr (c'.ok r2 r2' hp.2 e)
      | i + 2 => simp at g1
    · simp [allB, List.range_succ]
    · subst e1; subst e2; subst z
      exact refl h1 h2 hp.1 hp.2⟩
/-- two instances, by the promise of their own == -/
def RInsB (C : Addr) (flds : α → Flds) (pre : α → α → Prop) (eq : α → α → Bool) : V → V → Hp → Bool → Prop := fun x y H b => ∃ p q, (tObj C flds).rep H x p ∧ (tObj C flds).rep H y q ∧ pre p q ∧ eq p q = b
theorem mon_RInsB {C : Addr} {flds : α → Flds} {pre : α → α → Prop} {eq : α → α → Bool} : MonB (RInsB C flds pre eq) := fun x y H H' b e ⟨p, q, h1, h2, h3, h4⟩ => ⟨p, q, (tObj C flds).mono (ext_ex e) h1, (tObj C flds).mono (ext_ex e) h2, h3, h4⟩
def cmpObj {C : Addr} {flds : α → Flds} (pre : α → α → Prop) (eq : α → α → Bool) (det : Det (tObj C flds)) (refl : ∀ a, eq a a = true) : Cmp K (tObj C flds) (tObj C flds) (DInsB C (RInsB C flds pre eq)) :=
  ⟨eq, pre, fun {B H v1 v2 a b} h1 h2 hp e => by
    obtain ⟨x, dx, fs, e1, s1, _⟩ := id h1
    obtain ⟨y, dy, gs, e2, s2, _⟩ := id h2
    refine ⟨x, y, dx, dy, fs, gs, e1, e2, e _ _ s1, e _ _ s2, ⟨a, b, (tObj C flds).mono e h1, (tObj C flds).mono e h2, hp, rfl⟩, fun z => ?_⟩
    subst e1; subst e2; subst z
    rw [det B _ _ _ h1 h2]
    exact refl b⟩
/-- from the promise of an own == to what is asked within a tuple -/
theorem spEqB_of {S : FS K} {sp : Sp} (sub : ∀ vs H Q X, S.sp vs H Q X → sp vs H Q X) {C : Addr} {flds : α → Flds} {pre : α → α → Prop} {eq : α → α → Bool} (f : S.ρ → Bool) (hres : S.res = fun x => .im tBo (f x)) (hc : S.cost = 0) (up : α → α → S.A)
    (hup : ∀ {d B v1 v2 a b}, (tObj C flds).rep B v1 a → (tObj C flds).rep B v2 b → S.args.rep d B [v1, v2] (up a b)) (hpre : ∀ {a b}, pre a b → S.pre (up a b)) (hpost : ∀ {a b x}, pre a b → S.post (up a b) x → f x = eq a b) :
    ∀ vs H Q X, spEqB (RInsB C flds pre eq) vs H Q X → sp vs H Q X := fun vs H Q X ⟨x, y, b, hvs, ⟨p, q, h1, h2, h3, h4⟩, hq⟩ => by
  subst hvs
  obtain ⟨a, dx, fs, e1, s1, _⟩ := id h1
  have hd : (H a).isSome = true := by rw [s1]; rfl
  refine sub _ _ _ _ ⟨a, a, [], none, H, up p q, ⟨Ex.refl _, Ex.refl _, fun a o q => .inl q, fun a o q _ => q, hd, hd, fun k z => (by cases z), rfl, fun i e z => by simp at z, fun i j e e' a _ z _ _ => by simp at z⟩, hup h1 h2, hpre h3, .inl hc, fun r v n' B' H' hx hcc e' o' sl => ?_⟩
  rw [hres] at sl
  obtain ⟨v', g1, g2⟩ := sl
  cases g1
  cases (show v = V.bl (f r) from g2)
  rw [hpost h3 hx, h4]
  exact hq H' fun a o h => o'.ex _ _ (e' _ _ h)
end
end TL

/-! # TL: three own lists locked, tuples of locked lists, an own list closed by a last append -/
namespace TL
open PySem L2 PyProof.Rows PySem.Calls
open PySem.W (Frag)
section
variable {K : Frag} {w : Wd} {n : Option Nat} {Γ Γ' : Env} {α β γ δ ρ A : Type} {t : Ty α} {u : Ty β} {ta tb te : TE} {tr : TA} {ts ts' : TS} {res : ρ → Ent} {nx bk ct : NK} {rt : ρ → Option Nat → Prop}
theorem we_tupleR {k : List α → NK} (h : WpE K w n Γ ta (tR t) k) : WpE K w n Γ (tCB (rTupleU K) (tCons ta tNil)) (tU t) k := fun σ B H ok Q c =>
  h σ B H ok _ fun xs v n1 Γ1 B1 H1 q e o ⟨a, vs, hv, hs, p⟩ => by
    subst hv
    refine ⟨a, vs, rfl, .inl ⟨.inl (o.ex.rd hs), fun z hz => ?_⟩⟩
    have g := Grow.new (o := .tup vs) o.ex hz
    exact c xs _ n1 Γ1 _ _ q (e.trans g.b) (o.grow g) ⟨z, vs, rfl, upd_same, pw_mono (fun _ _ => t.mono g.b) p⟩
theorem we_tupleQ3 {q : TZ.Sk} {k : List α → NK} (h : WpE K w n Γ ta (tQ q t) k) : WpE K w n Γ (tCB (rTupleU K) (tCons ta tNil)) (tU t) k := by
  cases q
  · exact we_tupleL h
  · exact we_tupleU h
  · exact we_tupleR h
/-- the lock of a list that stands for itself, opened again -/
theorem Ok.unlock1 {σ : L2.St} {B1 H1 B' H' : Hp} {l2 : Addr} {us : List V} {od2 : Obj} {n' : Option Nat} (o1 : Ok K w n Γ σ B1 H1) (g2 : H1 l2 = some (.lst us)) (g3 : B1 l2 = none) (g4 : w.H0 l2 = none)
    (c : Ok K ⟨w.d, w.ca, w.cs, upd B1 l2 (.frz od2 (.lst us)), upd H1 l2 (.frz od2 (.lst us))⟩ n' [] [] B' H') : Ok K ⟨w.d, w.ca, w.cs, B1, H1⟩ n' [] [] (del B' l2) (upd H' l2 (.lst us)) ∧ H' l2 = some (.frz od2 (.lst us)) ∧ ∀ a q, B' a = some q → del B' l2 a = some q ∨ PFrz q := by
  have hd2 : l2 ≠ w.d := fun z => noS g4 (z ▸ o1.hd)
  have oa : Ok K ⟨w.d, w.ca, w.cs, B1, del H1 l2⟩ n [] [] B1 H1 :=
    ⟨o1.ex, Ex.refl _, fun a o q => .inl q, fun a o q _ => (del_some q).2, by show (del _ l2 w.d).isSome = true; rw [del_ne (Ne.symm hd2)]; exact o1.hh, o1.hh, fun m q => (o1.pn m q).cast rfl rfl rfl, rfl, fun i e z => by simp at z, fun i j e e' a _ z _ _ => by simp at z⟩
  obtain ⟨ob, hl2, mv2⟩ := oa.unlendX g2 g3 del_same (P := PFrz) ⟨od2, _, rfl⟩ (fun xs ⟨_, _, z⟩ => by cases z) c
  refine ⟨⟨ob.ex, ob.ex0, fun a o q => ?_, fun a o q na => ?_, o1.hh, ob.hh, fun m q => (ob.pn m q).cast rfl rfl rfl, rfl, fun i e z => by simp at z, fun i j e e' a _ z _ _ => by simp at z⟩, hl2, mv2⟩
  · have z : a ≠ l2 := fun z => by rw [z, del_same] at q; cases q
    rcases ob.nw a o q with y | y
    · exact .inl y
    · have y : del H1 l2 a = none := y
      rw [del_ne z] at y
      exact .inr y
  · by_cases z : a = l2
    · subst z
      have q : H1 a = some o := q
      rw [g2] at q; cases q
      exact upd_same
    · exact ob.kp a o (by show del _ l2 a = some o; rw [del_ne z]; exact q) na
theorem we_lockL3 {γ δ : Type} {s : Ty γ} {r : Ty δ} {xs : List α} {ys : List γ} {zs : List δ} {k : β → NK} (i j m : Nat) (hij : i ≠ j) (him : i ≠ m) (hjm : j ≠ m) (hi : Γ[i]? = some (.ml t xs)) (hj : Γ[j]? = some (.ml s ys)) (hm : Γ[m]? = some (.ml r zs)) (hb : Blind PFrz u)
    (h : ∀ w' : Wd, SetE (hideE (((Γ.set i (.im (tR t) xs)).set j (.im (tR s) ys)).set m (.im (tR r) zs)) []) fun Γ' => WpE K w' n Γ' te u (fun x n' _ => k x n' Γ)) : WpE K w n Γ (tLockE (tLockE (tLockE te))) u k := fun σ B H ok Q c => by
  obtain ⟨l, vs, h2, h3, h4, lk⟩ := ok.lockL hi
  refine ⟨l, .lst vs, h2, trivial, fun od => ?_⟩
  have o1 := lk od
  have hj1 : (Γ.set i (.im (tR t) xs))[j]? = some (.ml s ys) := by rw [List.getElem?_set, if_neg hij]; exact hj
  obtain ⟨l2, us, g2, g3, g4, lk2⟩ := o1.lockL hj1
  refine ⟨l2, .lst us, g2, trivial, fun od2 => ?_⟩
  have o2' := lk2 od2
  have hm1 : ((Γ.set i (.im (tR t) xs)).set j (.im (tR s) ys))[m]? = some (.ml r zs) := by rw [List.getElem?_set, if_neg hjm, List.getElem?_set, if_neg him]; exact hm
  obtain ⟨l3, ws, k2, k3, k4, lk3⟩ := o2'.lockL hm1
  refine ⟨l3, .lst ws, k2, trivial, fun od3 => ?_⟩
  have hne : l2 ≠ l := fun z => by rw [z, upd_same] at g3; cases g3
  refine h _ σ _ _ ((lk3 od3).inner []) _ fun x v n' Γ' B' H' q e o2 rr => ?_
  obtain ⟨oc3, hl3', mv3⟩ := o2'.unlock1 k2 k3 k4 o2.nil
  obtain ⟨oc2, hl2', mv2⟩ := o1.unlock1 g2 g3 g4 oc3
  obtain ⟨o3, hl3, mv⟩ := ok.unlendX h2 h3 h4 (P := PFrz) ⟨od, _, rfl⟩ (fun xs ⟨_, _, z⟩ => by cases z) oc2
  refine ⟨hl3', hl2', hl3, c x v n' Γ _ _ q (fun a q e' => ?_) o3 (hb _ _ _ _ mv (hb _ _ _ _ mv2 (hb _ _ _ _ mv3 rr)))⟩
  have z : a ≠ l := ne_of_none e' h3
  have z2 : a ≠ l2 := fun y => by rw [y] at e'; rw [upd_ne hne, e'] at g3; cases g3
  have z3 : a ≠ l3 := fun y => by rw [y] at e'; rw [upd_ne (y ▸ z2), upd_ne (y ▸ z), e'] at k3; cases k3
  rw [del_ne z, del_ne z2, del_ne z3]
  exact e a q (by rw [upd_ne z3, upd_ne z2, upd_ne z]; exact e')
/-- list.append(e), the list not looked at any more -/
theorem ws_appendAny {i : Nat} {xs : List α} (hi : Γ[i]? = some (.ml t xs)) (h : WpE K w n Γ te u (fun x n' Γ' => Γ'[i]? = some (.ml t xs) ∧ xs.length < 100000 ∧ SetE (Γ'.set i .no) (nx n'))) :
    WpS K w n Γ (tDrop (tBM K "list" rAppend (tVar i) (tCons te tNil))) res nx bk ct rt := fun σ B H ok D a' b c d => by
  obtain ⟨l, ob, h1, h2, h3, h4, vs, rfl, p⟩ := ok.sl i _ hi
  refine ⟨.ref l, h1, .inl ⟨rfl, _, .inl (.inl h2)⟩, h σ B H ok _ fun x v n' Γ' B' H' ⟨g, hz, q⟩ e o r => ?_⟩
  obtain ⟨l', ob', k1, k2, k3, k4, vs', rfl, p'⟩ := o.sl i _ g
  rw [h1] at k1; cases k1
  refine ⟨l, _, v, rfl, rfl, k2, by rw [pw_len p']; exact szl hz, a' n' _ _ B' _ q e ?_⟩
  refine o.chg k3 k4 (by rw [List.length_set]) (fun j e' he => ?_) (fun x e' hx => ?_)
  · rw [List.getElem?_set] at he
    by_cases z : i = j
    · rw [if_pos z] at he
      split at he
      · cases he; exact .inl trivial
      · cases he
    · rw [if_neg z] at he
      exact .inr ⟨he, o.ds i j _ _ l z g he h1⟩
  · rw [List.getElem?_set] at hx
    by_cases z : i = x
    · rw [if_pos z] at hx
      split at hx
      · cases hx; exact .inl fun _ y => y
      · cases hx
    · rw [if_neg z] at hx
      exact .inr ⟨e', hx, fun _ y => y⟩
end
end TL

/-! # TL: a frozen list of two data of unlike kinds; a frozen dict, locked or not -/
namespace TL
open PySem L2 PyProof.Rows PySem.Calls
open PySem.W (Frag)
section
variable {K : Frag} {w : Wd} {n : Option Nat} {Γ Γ' : Env} {α β γ δ ρ A : Type} {t : Ty α} {u : Ty β} {ta tb te : TE} {tr : TA}
/-- [x, y] -/
def tL2 (t : Ty α) (u : Ty β) : Ty (α × β) := ⟨fun B v x => ∃ a p q, v = .ref a ∧ B a = some (.lst [p, q]) ∧ t.rep B p x.1 ∧ u.rep B q x.2,
  fun e ⟨a, p, q, h, s, h1, h2⟩ => ⟨a, p, q, h, e _ _ s, t.mono e h1, u.mono e h2⟩⟩
theorem we_lst2 {k : α × β → NK} (h : WpE K w n Γ ta t (fun x n Γ => WpE K w n Γ tb u (fun y n Γ => k (x, y) n Γ))) : WpE K w n Γ (tLst (tCons ta (tCons tb tNil))) (tL2 t u) k := fun σ B H ok Q c =>
  h σ B H ok _ fun x v n1 Γ1 B1 H1 q1 e1 o1 r1 => q1 σ B1 H1 o1 _ fun y v' n2 Γ2 B2 H2 q2 e2 o2 r2 => ⟨sz (by show 2 ≤ 100000; decide), fun p hp => by
    have g := Grow.new (o := .lst [v, v']) o2.ex hp
    exact c (x, y) _ n2 Γ2 _ _ q2 ((e1.trans e2).trans g.b) (o2.grow g) ⟨p, v, v', rfl, upd_same, t.mono (e2.trans g.b) r1, u.mono g.b r2⟩⟩
theorem we_ixLL {s : Ty δ} {j : Int} {f : α → δ} {k : δ → NK} (hr : ∀ {B v x}, t.rep B v x → ∃ a vs y, v = .ref a ∧ B a = some (.lst vs) ∧ atI vs j = some y ∧ s.rep B y (f x)) (h : WpE K w n Γ ta t (fun x n Γ => k (f x) n Γ)) : WpE K w n Γ (tOp (rIx K) ta (tC (.int j))) s k := fun σ B H ok Q c =>
  h σ B H ok _ fun x v n1 Γ1 B1 H1 q e o r => by
    obtain ⟨a, vs, y, h1, h2, h3, h4⟩ := hr r
    exact .inl ⟨a, vs, j, y, h1, rfl, SqL.of (o.ex _ _ h2), h3, c _ _ n1 Γ1 B1 H1 q e o h4⟩
theorem we_ixL0 {k : α → NK} (h : WpE K w n Γ ta (tL2 t u) (fun x n Γ => k x.1 n Γ)) : WpE K w n Γ (tOp (rIx K) ta (tC (.int 0))) t k := we_ixLL (t := tL2 t u) (f := fun (x : α × β) => x.1) (fun {B v x} ⟨a, p, q, h1, h2, h3, h4⟩ => ⟨a, _, p, h1, h2, rfl, h3⟩) h
theorem we_ixL1 {k : β → NK} (h : WpE K w n Γ ta (tL2 t u) (fun x n Γ => k x.2 n Γ)) : WpE K w n Γ (tOp (rIx K) ta (tC (.int 1))) u k := we_ixLL (t := tL2 t u) (f := fun (x : α × β) => x.2) (fun {B v x} ⟨a, p, q, h1, h2, h3, h4⟩ => ⟨a, _, q, h1, h2, rfl, h4⟩) h
/-- a dict, or one that is locked: read alone -/
def tDR (t : Ty α) : Ty (List (Int × α)) := ⟨fun B v xs => ∃ a kv, v = .ref a ∧ Rd B a (.dK kv) ∧ Paired (fun (p : Key × V) (q : Int × α) => p.1 = .inl q.1 ∧ t.rep B p.2 q.2) kv xs,
  fun e ⟨a, kv, h, s, p⟩ => ⟨a, kv, h, e.rd s, pw_mono (fun _ _ ⟨h1, h2⟩ => ⟨h1, t.mono e h2⟩) p⟩⟩
/-- a new dict of one's own, as data from here on -/
theorem we_ofD {k : List (Int × α) → NK} (h : WpM K w n Γ te (fun r n Γ => ∃ kvs, r = rD t kvs ∧ k kvs n Γ)) : WpE K w n Γ te (tDR t) k := fun σ B H ok Q c =>
  h σ B H ok _ fun r l n' Γ' B' H' ⟨kvs, hr, q⟩ e o ow => by
    subst hr
    have ow' := ow
    obtain ⟨⟨ob, h1, kv, rfl, p⟩, h3, h4, df⟩ := ow'
    have eb : Ex B' (upd B' l (.dK kv)) := Ex.new h3
    have ned : l ≠ w.d := ow.ned o
    refine c kvs _ n' Γ' (upd B' l (.dK kv)) H' q (e.trans eb) ?_ ⟨l, kv, rfl, .inl upd_same, pw_mono (fun _ _ ⟨g1, g2⟩ => ⟨g1, t.mono eb g2⟩) p⟩
    refine o.frz eb (fun a u q => ?_) rfl fun j e' q => .inr ⟨q, fun a ha => ?_⟩
    · by_cases z : a = l
      · subst z; rw [upd_same] at q; cases q; exact .inr ⟨h1, h4⟩
      · rw [upd_ne z] at q; exact .inl q
    · have ne : a ≠ l := fun zz => df j e' q (by rw [← zz]; exact ha)
      obtain ⟨_, _, hb, _⟩ := (o.sl j e' q).owned ha
      rw [upd_ne ne]; exact hb
/-- d[i], read alone -/
theorem we_dgetR {td ty : TE} {k : α → NK} (h : WpE K w n Γ td (tDR t) (fun kvs n Γ => WpE K w n Γ ty tI (fun j n Γ => ∃ x, dGet kvs j = some x ∧ k x n Γ))) : WpE K w n Γ (tDGet td ty) t k := fun σ B H ok Q c =>
  h σ B H ok _ fun kvs v n1 Γ1 B1 H1 q1 e1 o1 ⟨a, kv, hv, hs, p⟩ => q1 σ B1 H1 o1 _ fun j jv n2 Γ2 B2 H2 ⟨x, hx, q2⟩ e2 o2 r2 => by
    subst hv
    have p2 : Paired (fun (p : Key × V) (q : Int × α) => p.1 = .inl q.1 ∧ t.rep B2 p.2 q.2) kv kvs := pw_mono (fun _ _ ⟨g1, g2⟩ => ⟨g1, t.mono e2 g2⟩) p
    rcases valV_pair (i := j) p2 with ⟨_, z⟩ | ⟨y, x', z1, z2, z3⟩
    · rw [z] at hx; cases hx
    · rw [z2] at hx; cases hx
      exact ⟨a, y, rfl, .inl ⟨kv, .inl j, o2.ex.rd (e2.rd hs), r2, z1.symm⟩, c x y n2 Γ2 B2 H2 q2 (e1.trans e2) o2 z3⟩
end
end TL

/-! # TL: dicts of texts copied, read and written by a name; own things frozen as they are used -/
namespace TL
open PySem L2 PyProof.Rows PySem.Calls
open PySem.W (Frag)
def rDictD : List V → Hp → VK → Prop := fun xs H Q => ∃ (a : Addr) (kvs : List (Key × V)), xs = [.ref a] ∧ Rd H a (.dK kvs) ∧ ∀ p, H p = none → Q (.ref p) (upd H p (.dK kvs))
theorem call_dictDK {X : Cx} : CallR X (.type "dict") rDictD := call_dictD
section
variable {K : Frag} {w : Wd} {n : Option Nat} {Γ Γ' : Env} {α β γ δ ρ A : Type} {t : Ty α} {u : Ty β} {ta tb te : TE} {tr : TA} {ts ts' : TS} {res : ρ → Ent} {nx bk ct : NK} {rt : ρ → Option Nat → Prop}
/-- a dict with texts as keys that nobody changes any more, of a known size -/
def tSDL (flds : α → Flds) : Ty α := ⟨fun B v x => ∃ a kvs, v = .ref a ∧ B a = some (.dK kvs) ∧ kvs.length ≤ (flds x).length ∧ FRep B (fun f => valV kvs (.inr f)) (flds x), fun e ⟨a, kvs, h1, h2, h3, h4⟩ => ⟨a, kvs, h1, e _ _ h2, h3, h4.mono e⟩⟩
theorem lent_sdl {flds : α → Flds} {fl : Flds} {x : α} (e : FSame fl (flds x)) (hl : fl.length ≤ (flds x).length) : Lent PDict (rS fl) (tSDL flds) x :=
  ⟨(fun xs ⟨_, h⟩ => by cases h), fun ⟨kvs, h, _⟩ => ⟨kvs, h⟩, fun {l B o} ⟨kvs, h, hk, r⟩ hb => ⟨l, kvs, rfl, by subst h; exact upd_same, Nat.le_trans hk hl, (r.mono (Ex.new hb)).same e⟩⟩
theorem we_ofSDL {flds : α → Flds} {k : α → NK} (h : WpE K w n Γ te (tSDL flds) k) : WpE K w n Γ te (tSD flds) k := fun σ B H ok Q c =>
  h σ B H ok Q fun x v n' Γ' B' H' q e o ⟨a, kvs, h1, h2, _, h4⟩ => c x v n' Γ' B' H' q e o ⟨a, kvs, h1, h2, h4⟩
/-- dict(d), d a dict with texts as keys -/
theorem wm_dictSD {flds : α → Flds} {k : Rs → NK} (h : WpE K w n Γ ta (tSDL flds) (fun x n Γ => k (rS (flds x)) n Γ)) : WpM K w n Γ (tCB rDictD (tCons ta tNil)) k := fun σ B H ok Q c =>
  h σ B H ok _ fun x v n1 Γ1 B1 H1 q e1 o1 ⟨a, kvs, hv, hs, hl, p⟩ => by
    subst hv
    exact ⟨a, kvs, rfl, .inl (o1.ex _ _ hs), fun z hz => c _ z n1 Γ1 B1 _ q e1 (o1.grow (Grow.open o1.ex hz)) (Own.new o1 hz ⟨kvs, rfl, hl, p⟩)⟩
/-- a new thing of one's own, as a datum from here on -/
theorem we_frzM {P : HO → Prop} (rr : β → Rs) (L : ∀ y, Lent P (rr y) u y) {k : β → NK} (h : WpM K w n Γ te (fun r n Γ => ∃ y, r = rr y ∧ k y n Γ)) : WpE K w n Γ te u k := fun σ B H ok Q c =>
  h σ B H ok _ fun r l n' Γ' B' H' ⟨y, hr, q⟩ e o ow => by
    subst hr
    have ow' := ow
    obtain ⟨⟨ob, h1, h2⟩, h3, h4, df⟩ := ow'
    have eb : Ex B' (upd B' l ob) := Ex.new h3
    refine c y _ n' Γ' (upd B' l ob) H' q (e.trans eb) ?_ ((L y).rep h2 h3)
    refine o.frz eb (fun a u q => ?_) rfl fun j e' q => .inr ⟨q, fun a ha => ?_⟩
    · by_cases z : a = l
      · subst z; rw [upd_same] at q; cases q; exact .inr ⟨h1, h4⟩
      · rw [upd_ne z] at q; exact .inl q
    · have ne : a ≠ l := fun zz => df j e' q (by rw [← zz]; exact ha)
      obtain ⟨_, _, hb, _⟩ := (o.sl j e' q).owned ha
      rw [upd_ne ne]; exact hb
/-- one's own thing, read alone from here on -/
theorem viewLent {r : Rs} {P : HO → Prop} {y : β} {i : Nat} (L : Lent P r u y) (hi : Γ[i]? = some (.mu r)) : View K w n Γ n (Γ.set i (.im u y)) := fun σ B H ok => by
  obtain ⟨l, o, h1, h2, h3, h4, h5⟩ := ok.sl i _ hi
  obtain ⟨o', g1, g2, g3, g4⟩ := ok.freeze hi h1
  rw [h2] at g1; cases g1
  have ok2 := g4.setIm (i := i) (L.rep h5 h3)
  rw [List.set_set, slot_same h1] at ok2
  exact ⟨_, g3, ok2⟩
/-- one's own name, a datum as it is used -/
theorem we_varFrz {r : Rs} {P : HO → Prop} {y : β} {i : Nat} {k : β → NK} (L : Lent P r u y) (hi : Γ[i]? = some (.mu r)) (q : SetE (Γ.set i (.im u y)) (k y n)) : WpE K w n Γ (tVar i) u k := fun σ B H ok Q c => by
  obtain ⟨B1, e1, o1⟩ := viewLent (K := K) (w := w) (n := n) L hi σ B H ok
  have il : i < Γ.length := (List.getElem?_eq_some_iff.mp hi).1
  obtain ⟨v, h1, h2⟩ := o1.sl i _ (by rw [List.getElem?_set, if_pos rfl, if_pos il])
  exact ⟨v, h1, c y v n _ B1 H q e1 o1 h2⟩
/-- d[name], one's own -/
theorem we_sdOV {fl : Flds} {f : Str} {i j : Nat} {y : β} {k : β → NK} (hi : Γ[i]? = some (.mu (rS fl))) (hj : Γ[j]? = some (.im tS f)) (hl : fl.lookup f = some ⟨u, y⟩) (q : k y n Γ) : WpE K w n Γ (tDGet (tVar i) (tVar j)) u k := fun σ B H ok Q c => by
  obtain ⟨l, o, h1, h2, h3, h4, kv, rfl, h5, h6⟩ := ok.sl i _ hi
  obtain ⟨v, g1, g2⟩ := (h6 f).2 _ hl
  obtain ⟨s, s1, s2⟩ := ok.sl j _ hj
  have s2 : s = .str f := s2
  subst s2
  exact ⟨.ref l, h1, .str f, s1, l, v, rfl, .inl ⟨kv, .inr f, .inl h2, rfl, g1.symm⟩, c y v n Γ B H q (Ex.refl _) ok g2⟩
/-- d[name] = e -/
theorem ws_sdOV {f : Str} {i j : Nat} (h : WpE K w n Γ te t (fun x n' Γ' => ∃ fl, Γ'[i]? = some (.mu (rS fl)) ∧ Γ'[j]? = some (.im tS f) ∧ fl.length < 1000 ∧ SetE (Γ'.set i (.mu (rS ((f, ⟨t, x⟩) :: fl)))) (nx n'))) :
    WpS K w n Γ (sDPut (tVar i) (tVar j) te) res nx bk ct rt := fun σ B H ok D a b c d =>
  h σ B H ok _ fun x v n' Γ' B' H' ⟨fl, hi, hj, hz, q⟩ e o r => by
    obtain ⟨l, ob, h1, h2, h3, h4, kv, rfl, h5, h6⟩ := o.sl i _ hi
    obtain ⟨s, s1, s2⟩ := o.sl j _ hj
    have s2 : s = .str f := s2
    subst s2
    refine ⟨.ref l, h1, .str f, s1, l, _, rfl, .inl ⟨kv, .inr f, h2, rfl, szl (by omega), rfl⟩, a n' _ _ B' _ q e (o.put (r' := rS ((f, ⟨t, x⟩) :: fl)) hi h1 ⟨_, rfl, ?_, h6.cons r fun g => ?_⟩)⟩
    · have := length_putK kv (.inr f) v
      simp only [List.length_cons]; omega
    · rw [valV_put]
      by_cases z : g = f
      · rw [if_pos (congrArg _ z), if_pos z]
      · rw [if_neg (fun q => z (Sum.inr.inj q)), if_neg z]
/-! ### targets within tuples -/
theorem wg_2 {g1 g2 : TG} {x : α × β} {k : NK} (h : WpG K w n Γ g1 t x.1 (fun n Γ => WpG K w n Γ g2 u x.2 k)) : WpG K w n Γ (gTup K 2 (gCons g1 (gCons g2 gNil))) (tP t u) x k := fun σ B H ok v ⟨a, p, q, hv, hs, h1, h2⟩ Q c =>
  ⟨a, [p, q], hv, SqT.of (ok.ex _ _ hs), rfl, p, [q], rfl, h σ B H ok p h1 _ fun n1 Γ1 σ1 B1 H1 k1 e1 o1 => ⟨q, [], rfl, k1 σ1 B1 H1 o1 q (u.mono e1 h2) _ fun n2 Γ2 σ2 B2 H2 k2 e2 o2 => ⟨rfl, c n2 Γ2 σ2 B2 H2 k2 (e1.trans e2) o2⟩⟩⟩
theorem wg_3 {s : Ty γ} {g1 g2 g3 : TG} {x : α × β × γ} {k : NK} (h : WpG K w n Γ g1 t x.1 (fun n Γ => WpG K w n Γ g2 u x.2.1 (fun n Γ => WpG K w n Γ g3 s x.2.2 k))) : WpG K w n Γ (gTup K 3 (gCons g1 (gCons g2 (gCons g3 gNil)))) (tP3 t u s) x k := fun σ B H ok v ⟨a, p, q, z, hv, hs, h1, h2, h3⟩ Q c =>
  ⟨a, [p, q, z], hv, SqT.of (ok.ex _ _ hs), rfl, p, _, rfl, h σ B H ok p h1 _ fun n1 Γ1 σ1 B1 H1 k1 e1 o1 => ⟨q, _, rfl, k1 σ1 B1 H1 o1 q (u.mono e1 h2) _ fun n2 Γ2 σ2 B2 H2 k2 e2 o2 => ⟨z, [], rfl, k2 σ2 B2 H2 o2 z (s.mono (e1.trans e2) h3) _ fun n3 Γ3 σ3 B3 H3 k3 e3 o3 => ⟨rfl, c n3 Γ3 σ3 B3 H3 k3 ((e1.trans e2).trans e3) o3⟩⟩⟩⟩
/-- xs[j] = .., an own list -/
theorem wg_subL {i : Nat} {r0 : Rs} {xs : List α} {x : α} {ti : TE} {k : NK} (hi : Γ[i]? = some (.mu r0)) (h : WpE K w n Γ ti tI (fun j n Γ => Γ[i]? = some (.ml t xs) ∧ (0 ≤ j ∧ j < xs.length) ∧ SetE (Γ.set i (.ml t (xs.set j.toNat x))) (k n))) : WpG K w n Γ (gSub (tVar i) ti rSetL) t x k := fun σ B H ok v r Q c => by
  obtain ⟨l, _, hl, _⟩ := ok.sl i _ hi
  refine ⟨.ref l, hl, h σ B H ok _ fun j jv n2 Γ2 B2 H2 ⟨g, hj, q⟩ e2 o2 r2 => ?_⟩
  obtain ⟨l', o', k1, k2, k3, k4, vs, rfl, p⟩ := o2.sl i _ g
  rw [hl] at k1; cases k1
  refine ⟨l, vs, j, j.toNat, rfl, r2, k2, ?_, c n2 _ _ B2 _ q e2 (o2.put (r' := rL t (xs.set j.toNat x)) g hl ⟨vs.set j.toNat v, rfl, pw_set (t.mono e2 r) _ p⟩)⟩
  rw [pw_len p]
  exact ixN_int hj.1 hj.2
/-- d["f"] = .., an own dict -/
theorem wg_subD {i : Nat} {fl : Flds} {f : Str} {x : α} {k : NK} (hi : Γ[i]? = some (.mu (rS fl))) (hz : fl.length < 1000) (h : SetE (Γ.set i (.mu (rS ((f, ⟨t, x⟩) :: fl)))) (k n)) : WpG K w n Γ (gSub (tVar i) (tC (.str f)) rSetD) t x k := fun σ B H ok v r Q c => by
  obtain ⟨l, ob, h1, h2, h3, h4, kv, rfl, h5, h6⟩ := ok.sl i _ hi
  refine ⟨.ref l, h1, ?_⟩
  show rSetD (.ref l) (.str f) v H fun H3 => Q σ H3
  unfold rSetD
  refine ⟨l, _, rfl, .inl ⟨kv, .inr f, h2, rfl, szl (by omega), rfl⟩, c n _ _ B _ h (Ex.refl _) (ok.put (r' := rS ((f, ⟨t, x⟩) :: fl)) hi h1 ⟨_, rfl, ?_, h6.cons r fun g => ?_⟩)⟩
  · have := length_putK kv (.inr f) v
    simp only [List.length_cons]; omega
  · rw [valV_put]
    by_cases z : g = f
    · rw [if_pos (congrArg _ z), if_pos z]
    · rw [if_neg (fun q => z (Sum.inr.inj q)), if_neg z]
/-- a slot's kind is exchanged -/
theorem viewConv {i : Nat} {x : α} {y : β} (hi : Γ[i]? = some (.im t x)) (h : ∀ {B v}, t.rep B v x → u.rep B v y) : View K w n Γ n (Γ.set i (.im u y)) := fun σ B H ok => by
  obtain ⟨v, h1, h2⟩ := ok.sl i _ hi
  have o2 := ok.setIm (i := i) (t := u) (x := y) (v := v) (h h2)
  rw [slot_same h1] at o2
  exact ⟨B, Ex.refl _, o2⟩
end
end TL

/-! # TL: dicts with texts as keys of which some keys are known; list(range(n)) -/
namespace TL
open PySem L2 PyProof.Rows PySem.Calls
open PySem.W (Frag)
section
variable {K : Frag} {w : Wd} {n : Option Nat} {Γ Γ' : Env} {α β γ δ ρ A : Type} {t : Ty α} {u : Ty β} {ta tb te : TE} {tr : TA} {ts ts' : TS} {res : ρ → Ent} {nx bk ct : NK} {rt : ρ → Option Nat → Prop}
/-- a dict with texts as keys that nobody changes any more; it may have more keys than these -/
def tSW (flds : α → Flds) : Ty α := ⟨fun B v x => ∃ a kvs, v = .ref a ∧ B a = some (.dK kvs) ∧ ∀ f e, (flds x).lookup f = some e → ∃ v, valV kvs (.inr f) = some v ∧ e.t.rep B v e.x,
  fun e ⟨a, kvs, h1, h2, h3⟩ => ⟨a, kvs, h1, e _ _ h2, fun f d hd => by
    obtain ⟨v, g1, g2⟩ := h3 f d hd
    exact ⟨v, g1, d.t.mono e g2⟩⟩⟩
theorem we_sdW {flds : α → Flds} {f : Str} {td : TE} {k : β → NK} (y : α → β) (hl : ∀ x, (flds x).lookup f = some ⟨u, y x⟩) (h : WpE K w n Γ td (tSW flds) (fun x n Γ => k (y x) n Γ)) : WpE K w n Γ (tDGet td (tC (.str f))) u k := fun σ B H ok Q c =>
  h σ B H ok _ fun x v n1 Γ1 B1 H1 q1 e1 o1 ⟨a, kv, hv, hs, p⟩ => by
    subst hv
    obtain ⟨v, g1, g2⟩ := p f _ (hl x)
    exact ⟨a, v, rfl, .inl ⟨kv, .inr f, .inl (o1.ex _ _ hs), rfl, g1.symm⟩, c _ v n1 Γ1 B1 H1 q1 e1 o1 g2⟩
/-- d[name] -/
theorem we_sdWV {flds : α → Flds} {f : Str} {j : Nat} {td : TE} {k : β → NK} (y : α → β) (hl : ∀ x, (flds x).lookup f = some ⟨u, y x⟩) (h : WpE K w n Γ td (tSW flds) (fun x n Γ => Γ[j]? = some (.im tS f) ∧ k (y x) n Γ)) : WpE K w n Γ (tDGet td (tVar j)) u k := fun σ B H ok Q c =>
  h σ B H ok _ fun x v n1 Γ1 B1 H1 ⟨hj, q1⟩ e1 o1 ⟨a, kv, hv, hs, p⟩ => by
    subst hv
    obtain ⟨v, g1, g2⟩ := p f _ (hl x)
    obtain ⟨s, s1, s2⟩ := o1.sl j _ hj
    have s2 : s = .str f := s2
    subst s2
    exact ⟨.str f, s1, a, v, rfl, .inl ⟨kv, .inr f, .inl (o1.ex _ _ hs), rfl, g1.symm⟩, c _ v n1 Γ1 B1 H1 q1 e1 o1 g2⟩
theorem we_weak {flds : β → Flds} {flds' : α → Flds} (g : α → β) (sub : ∀ x f e, (flds (g x)).lookup f = some e → (flds' x).lookup f = some e) {k : β → NK} (h : WpE K w n Γ te (tSD flds') (fun x n Γ => k (g x) n Γ)) : WpE K w n Γ te (tSW flds) k := fun σ B H ok Q c =>
  h σ B H ok Q fun x v n' Γ' B' H' q e o ⟨a, kvs, h1, h2, h3⟩ => c (g x) v n' Γ' B' H' q e o ⟨a, kvs, h1, h2, fun f d hd => (h3 f).2 d (sub x f d hd)⟩
theorem lent_sw {flds : α → Flds} {fl : Flds} {x : α} (sub : ∀ f e, (flds x).lookup f = some e → fl.lookup f = some e) : Lent PDict (rS fl) (tSW flds) x :=
  ⟨(fun xs ⟨_, h⟩ => by cases h), fun ⟨kvs, h, _⟩ => ⟨kvs, h⟩, fun {l B o} ⟨kvs, h, hk, r⟩ hb => ⟨l, kvs, rfl, by subst h; exact upd_same, fun f e he => by
    obtain ⟨v, g1, g2⟩ := (r f).2 e (sub f e he)
    exact ⟨v, g1, e.t.mono (Ex.new hb) g2⟩⟩⟩
/-- list(range(n)) -/
theorem wm_listRg1 {k : Rs → NK} (h : WpE K w n Γ ta tI (fun j n Γ => (0 ≤ j ∧ j ≤ 1000000) ∧ k (rL tI ((List.range j.toNat).map fun (i : Nat) => (i : Int))) n Γ)) : WpM K w n Γ (tLstRg (tRg1 ta)) k := fun σ B H ok Q c =>
  h σ B H ok _ fun j v n1 Γ1 B1 H1 ⟨⟨h0, hj⟩, q⟩ e1 o1 r1 => by
    have r1 : v = .int j := r1
    subst r1
    refine ⟨j, rfl, RgOk.of_le (by omega) (by omega) (by omega) h0, fun l hl => ?_⟩
    refine c _ l n1 Γ1 B1 _ q e1 (o1.grow (Grow.open o1.ex hl)) (Own.new o1 hl ⟨_, rfl, ?_⟩)
    have e : rgV 0 j = ((List.range j.toNat).map fun (i : Nat) => (i : Int)).map V.int := by
      unfold rgV
      rw [List.map_map, Int.sub_zero]
      exact List.map_congr_left fun i _ => by show V.int (0 + (i : Nat)) = _; rw [Int.zero_add]; rfl
    rw [e]
    exact pw_mapI
/-! ### tuples that hold what is one's own, at once unpacked -/
/-- a, b = (datum), (own thing), as a tuple -/
theorem ws_tupEM {i j : Nat} (h : WpE K w n Γ ta t (fun x n1 Γ1 => WpM K w n1 Γ1 tb (fun r n2 Γ2 => SetE ((Γ2.set i (.im t x)).set j (.mu r)) (nx n2)))) :
    WpS K w n Γ (tAsg (tTup (tCons ta (tCons tb tNil))) (gTup K 2 (gCons (gName i) (gCons (gName j) gNil)))) res nx bk ct rt := fun σ B H ok D a b c d =>
  h σ B H ok _ fun x v n1 Γ1 B1 H1 q1 e1 o1 r1 => q1 σ B1 H1 o1 _ fun r l n2 Γ2 B2 H2 q e2 o2 ow => ⟨sz (show 2 ≤ 100000 by decide), fun p hp => by
    have g : Grow B2 H2 B2 (upd H2 p (.tup [v, .ref l])) := Grow.open o2.ex hp
    have o3 := o2.grow g
    have ow3 := ow.grow g
    refine ⟨p, [v, .ref l], rfl, SqT.of upd_same, rfl, v, [.ref l], rfl, .ref l, [], rfl, rfl, a n2 _ _ B2 _ q (e1.trans e2) ?_⟩
    refine (o3.setIm (i := i) (t.mono e2 r1)).setMu (i := j) ⟨ow3.ob, ow3.b, ow3.h0, fun i' e' hi z => ?_⟩
    rcases get_set hi with ⟨rfl, rfl, il⟩ | ⟨nm, hm⟩
    · exact z
    · rw [List.getElem?_set, if_neg nm] at z
      exact ow3.df i' e' hm z⟩
/-- a, b = (own thing), (datum), as a tuple -/
theorem ws_tupME {i j : Nat} (h : WpM K w n Γ ta (fun r1 n1 Γ1 => Γ1 = Γ ∧ ∀ w' : Wd, SetE (hideE Γ []) fun Γh => WpE K w' n1 Γh tb u (fun y n2 _ => SetE ((Γ.set i (.mu r1)).set j (.im u y)) (nx n2)))) :
    WpS K w n Γ (tAsg (tTup (tCons ta (tCons tb tNil))) (gTup K 2 (gCons (gName i) (gCons (gName j) gNil)))) res nx bk ct rt := fun σ B H ok D a b c d =>
  h σ B H ok _ fun r1 l1 n1 Γ1 B1 H1 ⟨hg1, q1⟩ e1 o1 ow1 => by
    subst hg1
    refine q1 ⟨w.d, w.ca, w.cs, B1, H1⟩ σ B1 H1 (o1.inner []) _ fun y v n2 Γ2 B2 H2 q2 e2 o2 r2 => ?_
    have ok2 := o1.back o2.nil
    have ow1b := ow1.back o1 o2.nil
    refine ⟨sz (show 2 ≤ 100000 by decide), fun p hp => ?_⟩
    have g : Grow B2 H2 B2 (upd H2 p (.tup [.ref l1, v])) := Grow.open ok2.ex hp
    have o3 := ok2.grow g
    have ow3 := ow1b.grow g
    refine ⟨p, [.ref l1, v], rfl, SqT.of upd_same, rfl, .ref l1, [v], rfl, v, [], rfl, rfl, a _ _ _ B2 _ q2 (e1.trans e2) ?_⟩
    exact (o3.setMu (i := i) ow3).setIm (i := j) r2
end
end TL

/-! # TL: generators that hand out nothing, drained by list() -/
namespace TL
open PySem L2 PyProof.Rows PySem.Calls
open PySem.W (Frag)
/-- a generator def's promise: what it hands out -/
structure YS (K : Frag) where
  A : Type
  args : TyA A
  β : Type
  item : Ty β
  pre : A → Prop
  out : A → List β
def YS.sp {K : Frag} (S : YS K) : SpG := fun vs H Q _ => ∃ (d ca : Addr) (cs : List Int) (n : Option Nat) (B : Hp) (a : S.A), Ok K ⟨d, ca, cs, B, H⟩ n [] [] B H ∧ S.args.rep d B vs a ∧ S.pre a ∧
  ∀ ys B' H', Paired (S.item.rep B') ys (S.out a) → Ex B B' → Ok K ⟨d, ca, cs, B, H⟩ n [] [] B' H' → Q ys H'
theorem ys_len {K : Frag} {S : YS K} [E : Ents S.args] {vs : List V} {H : Hp} {Q : List V → Hp → Prop} {X : XK} (h : S.sp vs H Q X) : vs.length = E.len := by
  obtain ⟨d, ca, cs, n, B, a, _, r, _⟩ := h
  exact (E.ok r).2.1
/-- the body hands out nothing -/
theorem ys_body0 {K : Frag} {S : YS K} [E : Ents S.args] {N : List Str} {vs : List V} {H : Hp} {Q : List V → Hp → Prop} {X : XK} {t : TS} (hN : E.len ≤ N.length) (hsp : S.sp vs H Q X) (hout : ∀ a, S.pre a → S.out a = [])
    (body : ∀ (w : Wd) (n : Option Nat) (a : S.A), S.pre a → WpS K w n (E.ents a ++ List.replicate (N.length - E.len) .no) t (fun _ : Unit => .no)
      (fun n' _ => n' = n) (fun _ _ => False) (fun _ _ => False) (fun _ _ => False)) :
    t { nx := fun _ H' => Q [] H', rt := fun v H' => v = .non ∧ Q [] H' } (L2.start N vs) H := by
  obtain ⟨d, ca, cs, n, B, a, o, r, hp, q⟩ := hsp
  obtain ⟨l1, l2, l3⟩ := E.ok r
  have ok0 : Ok K ⟨d, ca, cs, B, H⟩ n (E.ents a ++ List.replicate (N.length - E.len) .no) (L2.start N vs) B H := by
    have noown : ∀ (i : Nat) e, (E.ents a ++ List.replicate (N.length - E.len) Ent.no)[i]? = some e → ∀ s a, ¬ e.owns s a := fun i e z => by
      by_cases hi : i < (E.ents a).length
      · rw [List.getElem?_append_left hi] at z
        exact (l3 H ⟨d, ca, cs, B, H⟩ rfl i _ z).1
      · rw [List.getElem?_append_right (by omega), List.getElem?_replicate] at z
        split at z
        · cases z; exact fun _ _ y => y
        · cases z
    refine ⟨o.ex, o.ex0, o.nw, o.kp, o.hd, o.hh, o.pn, ?_, fun i e z => ?_, fun i j e e' a _ z _ oi => absurd oi (noown i e z _ a)⟩
    · unfold L2.start; simp [l1, l2]
    · by_cases hi : i < (E.ents a).length
      · rw [List.getElem?_append_left hi] at z
        have := (l3 H ⟨d, ca, cs, B, H⟩ rfl i _ z).2
        unfold L2.start
        rw [List.getElem?_append_left (by simpa [← l1] using hi)]
        exact this
      · rw [List.getElem?_append_right (by omega), List.getElem?_replicate] at z
        split at z
        · cases z; trivial
        · cases z
  refine body ⟨d, ca, cs, B, H⟩ n a hp (L2.start N vs) B H ok0 _ (fun n' Γ' σ' B' H' hn e o' => ?_) (fun _ _ _ _ _ h _ _ => h.elim) (fun _ _ _ _ _ h _ _ => h.elim) (fun x v n' B' H' h e o' s => h.elim)
  subst hn
  exact q [] B' H' (by rw [hout a hp]; exact .nil) e o'.nil
/-- a generator def with defaults whose body is run as it stands -/
theorem gfn_ok {P : Program} {w : World} {K : Frag} {mg : Str → Option Value} {base : Heap} {x qual : Str} {st : Stmt} {dvs : List V} {kws : List (Str × V)} {f : Addr} {fd : FuncData} {N ps : List Str} {k : Nat} {sp : SpG} (F : FunD K x qual (defArgs st) (defBody st) (defScope st) dvs kws f fd) (S : GScope N ps (defScope st)) (len : ∀ vs H Q E, sp vs H Q E → vs.length = ps.length)
    (hbody : ∀ (cdv : Value) (A : Around) (outer : List PySem.Env) (s : Shared) (H : Hp) (vs : List V) (Q : List V → Hp → Prop) (E : XK) (pn : List (Addr × Obj)), Room k (A.deeper (PyProof.Rows.envOfC qual (defScope st) s.heap.objs.size f cdv)) → sp vs H Q E →
      ∃ t, PSs (gcxOf P w K mg base N qual (defScope st) f cdv A outer s H E pn) (defBody st) t ∧ t { nx := fun _ H' => Q [] H', rt := fun v H' => v = .non ∧ Q [] H' } (start N vs) H) : GFn P w K mg base (k + 1) f fd ps sp := by
  obtain ⟨oc, od, dV, kV, doc, pm, an, cdv, ct, osl, rfl, lk, hcd, _⟩ := F.ex
  refine gfn_of lk hcd S len fun A outer s H vs Q E pn hr hsp => ?_
  obtain ⟨t, h, q⟩ := hbody cdv A outer s H vs Q E pn hr hsp
  exact ⟨tPlain t, gss_pss h, q⟩
/-- a def whose one default is an int -/
theorem funD_mkI {K : Frag} {x qual : Str} {st : Stmt} {f T : Addr} {oc ocT : Value} {od odT an : Option Addr} {osl slT : Array (Option Value)} {kV doc pm cdv ct : Value} {m : Nat} {i : Int} {tk : Tok} (l : K.lookup f = some ⟨oc, od, .func (PySem.W.fnOf x qual (defArgs st) (defBody st) (defScope st) (.ref T) kV doc pm an cdv ct), osl⟩)
    (hT : K.lookup T = some ⟨ocT, odT, .seq #[Value.int i tk] m, slT⟩) (c : PySem.W.codeIn K cdv qual = true) (k : PySem.W.keepIn K (.ref f) = true) : FunD K x qual (defArgs st) (defBody st) (defScope st) [V.int i] [] f (PySem.W.fnOf x qual (defArgs st) (defBody st) (defScope st) (.ref T) kV doc pm an cdv ct) :=
  ⟨⟨oc, od, .ref T, kV, doc, pm, an, cdv, ct, osl, rfl, l, c, .inr ⟨(fun z => by cases z), T, _, [Value.int i tk], m, rfl, hT, rfl, .cons ⟨_, rfl⟩ .nil⟩, .inl rfl⟩, k⟩
/-- o.m(..), a generator's method -/
structure GMethBy (P : Program) (w : World) (K : Frag) (mg : Str → Option Value) (base : Heap) (k : Nat) (C : Addr) (m : Str) (ps : List Str) (sp : SpG) (dvs : List V) : Prop where
  cl : Cls K C
  ex : ∃ f fd, Meth K C m f ∧ GFn P w K mg base k f fd ps sp ∧ Binds K fd ps [] ∧ ∃ ds, Vals dvs ds ∧ Binds K fd ps ds
section
variable {X : Cx} {k : Nat} {C : Addr} {m nm : Str} {ps : List Str} {sp : SpG} {p pos pos' apos : Pos} {o e : Expr} {es : List Expr} {t : TA} {ta : TE} {dvs : List V}
theorem passE0 : Passes (L2.CX X.prog X.w) X E0 := fun _ _ _ _ _ _ _ h => by
  obtain ⟨a, B, H, cls, d, _, _, _, _, _, _, _, hW⟩ := h
  exact hW.elim
/-- list(o.m()) -/
theorem pe_listM0 {pl : Sem Bool} (he : PE X o ta) (c : GMethBy X.prog X.w X.K X.mg X.base k C m ps sp dvs) (hr : Room (k + 3) X.A) (hg : Gl X nm) (hmg : X.mg nm = none) (hv : bootBuiltins nm = some (.type "list")) (hnm : nm ≠ "__name__" := by decide) (hdb : (nm == ("__debug__" : Str)) = false := by decide)
    (ht : eval (.Call (.Attribute o m apos) [] [] pos') X.env = (do
      let ov ← eval o X.env
      standAt apos.atName
      let (f, first) ← holding [ov] (getMethod ov m pl)
      callWith pos' f first (backTo pos' (starEach [] X.env)) (backToKw pos' (keywordEach [] X.env))) := by rfl)
    (hs : starEach [.Call (.Attribute o m apos) [] [] pos'] X.env = (false, eval (.Call (.Attribute o m apos) [] [] pos') X.env) :: starEach [] X.env := by rfl) : PE X (.Call (.Name nm p) [.Call (.Attribute o m apos) [] [] pos'] [] pos) (tListG (tMethG C m sp dvs E0 ta tNil)) := by
  obtain ⟨f, fd, h1, h2, h3, ds, h4, h5⟩ := c.ex
  exact pe_listG (pgen_meth0 he c.cl h1 h2 (hr.mono (by omega)) h5 h4 ht) passE0 (fun _ _ _ h => h.elim) hr hg hmg hv hnm hdb hs
/-- list(o.m(e, ..)) -/
theorem pe_listM {pl : Sem Bool} (he : PE X o ta) (c : GMethBy X.prog X.w X.K X.mg X.base k C m ps sp dvs) (ha : PA X (e :: es) t) (hr : Room (k + 3) X.A) (hg : Gl X nm) (hmg : X.mg nm = none) (hv : bootBuiltins nm = some (.type "list")) (hnm : nm ≠ "__name__" := by decide) (hdb : (nm == ("__debug__" : Str)) = false := by decide)
    (hst : starEach (e :: es) X.env = (false, eval e X.env) :: starEach es X.env := by rfl) (hpl : (backTo pos' (starEach es X.env)).any (·.1) = false := by rfl)
    (ht : eval (.Call (.Attribute o m apos) (e :: es) [] pos') X.env = (do
      let ov ← eval o X.env
      standAt apos.atName
      let (f, first) ← holding [ov] (getMethod ov m pl)
      callWith pos' f first (backTo pos' (starEach (e :: es) X.env)) (backToKw pos' (keywordEach [] X.env))) := by rfl)
    (hs : starEach [.Call (.Attribute o m apos) (e :: es) [] pos'] X.env = (false, eval (.Call (.Attribute o m apos) (e :: es) [] pos') X.env) :: starEach [] X.env := by rfl) : PE X (.Call (.Name nm p) [.Call (.Attribute o m apos) (e :: es) [] pos'] [] pos) (tListG (tMethG C m sp [] E0 ta t)) := by
  obtain ⟨f, fd, h1, h2, h3, _⟩ := c.ex
  exact pe_listG (pgen_meth he c.cl h1 h2 (hr.mono (by omega)) h3 .nil ha hst hpl ht) passE0 (fun _ _ _ h => h.elim) hr hg hmg hv hnm hdb hs
end
section
variable {K : Frag} {w : Wd} {n : Option Nat} {Γ : Env} {α A : Type} {ta : TE} {tr : TA}
theorem wm_listM {S : YS K} {C : Addr} {flds : α → Flds} {m : Str} {dvs : List V} {R : TyA A} {k : Rs → NK} (up : α → A → S.A)
    (hup : ∀ {d B v vs x a}, (tObj C flds).rep B v x → R.rep d B vs a → S.args.rep d B (v :: (vs ++ dvs)) (up x a)) (hno : ∀ x, (flds x).lookup m = none)
    (h : WpE K w n Γ ta (tObj C flds) (fun x n Γ => WpA K w n Γ tr R (fun a n Γ => S.pre (up x a) ∧ k (rL S.item (S.out (up x a))) n Γ))) : WpM K w n Γ (tListG (tMethG C m S.sp dvs E0 ta tr)) k := fun σ B H ok Q c =>
  h σ B H ok _ fun x v n1 Γ1 B1 H1 q1 e1 o1 r1 => by
    obtain ⟨a, dx, fs, h1, h2, h3⟩ := id r1
    subst h1
    refine ⟨a, dx, fs, rfl, o1.ex _ _ h2, (h3 m).1 (hno x), q1 σ B1 H1 o1 _ fun y vs n2 Γ2 B2 H2 ⟨hp, q⟩ e2 o2 r2 => ?_⟩
    refine ⟨w.d, w.ca, w.cs, n2, B2, up x y, o2.entry, hup ((tObj C flds).mono e2 r1) r2, hp, fun ys B3 H3 hys e3 o3 p hl => ?_⟩
    have o4 := o2.back o3
    exact c _ p n2 Γ2 B3 _ q ((e1.trans e2).trans e3) (o4.grow (Grow.open o4.ex hl)) (Own.new o4 hl ⟨ys, rfl, hys⟩)
end
end TL

/-! # TL: dicts of one's own that are locked for good; promises that may raise, used where they do not -/
namespace TL
open PySem L2 PyProof.Rows PySem.Calls
open PySem.W (Frag)
/-- the value, a thing of one's own, is locked from here on -/
def tFreeze (t : TE) : TE := fun σ H Q => t σ H fun v H' => ∃ d u, H' d = some u ∧ Mut (some u) ∧ ∀ od, Q v (upd H' d (.frz od u))
theorem pe_freeze {X : Cx} {e : Expr} {t : TE} (h : PE X e t) : PE X e (tFreeze t) := by
  refine ⟨fun pins s σ H Q I hw => ?_⟩
  refine thn (h.run pins s σ H _ I hw) fun v s1 ⟨x, H1, I1, r, d, u, hd, mu, q⟩ => ?_
  obtain ⟨od, I2⟩ := I1.lock hd mu
  exact ⟨x, _, I2, r, q od⟩
section
variable {K : Frag} {w : Wd} {n : Option Nat} {Γ : Env} {α β : Type} {t : Ty α} {ta te : TE}
theorem we_frzD {k : List (Int × α) → NK} (h : WpM K w n Γ te (fun r n Γ => ∃ kvs, r = rD t kvs ∧ k kvs n Γ)) : WpE K w n Γ (tFreeze te) (tDF t) k := fun σ B H ok Q c =>
  h σ B H ok _ fun r l n' Γ' B' H' ⟨kvs, hr, q⟩ e o ow => by
    subst hr
    obtain ⟨⟨ob, h1, kv, rfl, p⟩, h3, h4, df⟩ := ow
    refine ⟨l, .dK kv, h1, trivial, fun od => ?_⟩
    have o1 : Ok K w n' Γ' σ B' (upd H' l (.frz od (.dK kv))) := o.chg h3 h4 rfl (fun j e' he => .inr ⟨he, df j e' he⟩) fun x e' he => .inr ⟨e', he, fun _ z => z⟩
    have eb : Ex B' (upd B' l (.frz od (.dK kv))) := Ex.new h3
    refine c kvs _ n' Γ' (upd B' l (.frz od (.dK kv))) _ q (e.trans eb) ?_ ⟨l, od, kv, rfl, upd_same, pw_mono (fun _ _ ⟨g1, g2⟩ => ⟨g1, t.mono eb g2⟩) p⟩
    refine o1.frz eb (fun a u q => ?_) rfl fun j e' q => .inr ⟨q, fun a ha => ?_⟩
    · by_cases z : a = l
      · subst z; rw [upd_same] at q; cases q; exact .inr ⟨upd_same, h4⟩
      · rw [upd_ne z] at q; exact .inl q
    · have ne : a ≠ l := fun zz => df j e' q (by rw [← zz]; exact ha)
      obtain ⟨_, _, hb, _⟩ := (o.sl j e' q).owned ha
      rw [upd_ne ne]; exact hb
/-- a dict of one's own in a slot, locked as it is used -/
theorem we_frzVarD {i : Nat} {kvs : List (Int × α)} {k : List (Int × α) → NK} (hi : Γ[i]? = some (.md t kvs)) (q : SetE (Γ.set i .no) (k kvs n)) : WpE K w n Γ (tFreeze (tVar i)) (tDF t) k := fun σ B H ok Q c => by
  obtain ⟨l, ob, h1, h2, h3, h4, kv, rfl, p⟩ := ok.sl i _ hi
  refine ⟨.ref l, h1, l, .dK kv, h2, trivial, fun od => ?_⟩
  have il : i < Γ.length := (List.getElem?_eq_some_iff.mp hi).1
  have own1 : ∀ (j : Nat) e, Γ[j]? = some e → j ≠ i → ¬ e.owns σ[j]? l := fun j e he ne z => by
    have hl : (Ent.mu (rD t kvs)).owns σ[i]? l := by
      rw [h1]; exact rfl
    exact ok.ds j i e _ l ne he hi z hl
  have o1 : Ok K w n (Γ.set i .no) σ B (upd H l (.frz od (.dK kv))) := ok.chg h3 h4 (by rw [List.length_set]) (fun j e he => by
      rcases get_set he with ⟨rfl, rfl, _⟩ | ⟨nm, hm⟩
      · exact .inl trivial
      · exact .inr ⟨hm, own1 j e hm (Ne.symm nm)⟩) fun x e he => by
      rcases get_set he with ⟨rfl, rfl, _⟩ | ⟨nm, hm⟩
      · exact .inl fun _ z => z
      · exact .inr ⟨e, hm, fun _ z => z⟩
  have eb : Ex B (upd B l (.frz od (.dK kv))) := Ex.new h3
  refine c kvs _ n _ (upd B l (.frz od (.dK kv))) _ q eb ?_ ⟨l, od, kv, rfl, upd_same, pw_mono (fun _ _ ⟨g1, g2⟩ => ⟨g1, t.mono eb g2⟩) p⟩
  refine o1.frz eb (fun a u q => ?_) rfl fun j e' he => .inr ⟨he, fun a ha => ?_⟩
  · by_cases z : a = l
    · subst z; rw [upd_same] at q; cases q; exact .inr ⟨upd_same, h4⟩
    · rw [upd_ne z] at q; exact .inl q
  · rcases get_set he with ⟨rfl, rfl, _⟩ | ⟨nm, hm⟩
    · exact ha.elim
    · have ne : a ≠ l := fun zz => own1 j e' hm (Ne.symm nm) (by rw [← zz]; exact ha)
      obtain ⟨_, _, hb, _⟩ := (ok.sl j e' hm).owned ha
      rw [upd_ne ne]; exact hb
/-- dict(d) of a locked dict -/
theorem wm_dictDF {k : Rs → NK} (h : WpE K w n Γ ta (tDF t) (fun kvs n Γ => k (rD t kvs) n Γ)) : WpM K w n Γ (tCB rDictD (tCons ta tNil)) k := fun σ B H ok Q c =>
  h σ B H ok _ fun kvs v n1 Γ1 B1 H1 q e1 o1 ⟨a, od, kv, hv, hs, p⟩ => by
    subst hv
    exact ⟨a, kv, rfl, .inr ⟨od, o1.ex _ _ hs⟩, fun l hl => c _ l n1 Γ1 B1 _ q e1 (o1.grow (Grow.open o1.ex hl)) (Own.new o1 hl ⟨kv, rfl, p⟩)⟩
end
/-! ### powers of wide integers -/
def CPowW (i j : Int) : Prop := 0 ≤ j ∧ (Builtin.Int.intBits i : Int) * j ≤ 2 ^ 27
def rPowW : R2 := L2.rI CPowW fun i j => .int (i ^ j.toNat)
theorem op_powW {X : Cx} : OpR X (binaryOp .Pow) rPowW := opI fun _ _ _ _ _ _ _ hc q => PyProof.Rows.pow_int hc.1 hc.2 q
theorem we_powW {K : Frag} {w : Wd} {n : Option Nat} {Γ : Env} {ta tb : TE} {k : Int → NK} (h : WpE K w n Γ ta tI (fun a n Γ => WpE K w n Γ tb tI (fun b n Γ => CPowW a b ∧ k (a ^ b.toNat) n Γ))) : WpE K w n Γ (tOp rPowW ta tb) tI k :=
  we_op2 (s := tI) (fun a b => a ^ b.toNat) CPowW (fun B x y a b H Q h1 h2 e hc q => ⟨a, b, h1, h2, hc, q (.int (a ^ b.toNat)) rfl⟩) h
/-! ### promises that may raise, where they do not -/
theorem fn_quiet {P : Program} {w : World} {K : Frag} {mg : Str → Option Value} {base : Heap} {k : Nat} {f : Addr} {fd : FuncData} {ps : List Str} {sp sp0 : Sp} (F : FnOk P w K mg base (L2.CX P w) k f fd ps sp) (h : ∀ vs H Q E, sp0 vs H Q E → sp vs H Q E0) : FnOk P w K mg base CX0 k f fd ps sp0 := by
  refine ⟨fun vs H Q E z => F.len vs H Q E0 (h vs H Q E z), fun A outer s H args us vs Q E hr e0 hb r z => ?_⟩
  refine codeAny_mono (F.run A outer s H args us vs Q E0 hr e0 hb r (h vs H Q E z)) fun r s' q => ?_
  cases r with
  | error e =>
    obtain ⟨a, B, H, cls, d, _, _, _, _, _, _, _, hW⟩ := q
    exact hW.elim
  | ok fl => cases fl <;> exact q
theorem MethBy.quiet {P : Program} {w : World} {K : Frag} {mg : Str → Option Value} {base : Heap} {k : Nat} {C : Addr} {m : Str} {ps : List Str} {sp sp0 : Sp} (c : MethBy P w K mg base (L2.CX P w) k C m ps sp) (h : ∀ vs H Q E, sp0 vs H Q E → sp vs H Q E0) : MethBy P w K mg base CX0 k C m ps sp0 := by
  obtain ⟨f, fd, h1, h2, h3⟩ := c.ex
  exact ⟨c.cl, f, fd, h1, fn_quiet h2 h, h3⟩
theorem fx_quiet {K : Frag} {S : FX K} {S0 : FS K} (hA : ∀ (a : S0.A), True) (up : S0.A → S.A) (ur : S.ρ → S0.ρ) (hargs : ∀ {d B vs a}, S0.args.rep d B vs a → S.args.rep d B vs (up a)) (hc : S.cost = S0.cost) (hres : ∀ x, S0.res (ur x) = S.res x) (hpre : ∀ a, S0.pre a → S.pre (up a)) (hpost : ∀ a x, S0.pre a → S.post (up a) x → S0.post a (ur x)) (hx : ∀ a er, S0.pre a → ¬ S.xpost (up a) er) :
    ∀ vs H Q E, S0.sp vs H Q E → S.sp vs H Q E0 := fun vs H Q E ⟨d, ca, cs, n, B, a, o, r, hp, hm, q⟩ => by
  refine ⟨d, ca, cs, n, B, up a, o, hargs r, hpre a hp, by rw [hc]; exact hm, fun x v n' B' H' hpo hco e o' sl => ?_, ?_⟩
  · exact q (ur x) v n' B' H' (hpost a x hp hpo) (by rw [← hc]; exact hco) e o' (by rw [hres]; exact sl)
  · intros
    exact absurd (by assumption) (hx a _ hp)
end TL

/-! # TL: an __init__ that is one call super().__init__(..) of an own base class -/
namespace TL
namespace Su
open PySem PySem.W PySem.Calls PyProof.Rows L2

/-- the one statement -/
def Body (b : List Stmt) (es : List Expr) : Prop := ∃ (p0 p1 ap pos pe : Pos), b = [.Expr (.Call (.Attribute (.Call (.Name "super" p0) [] [] p1) "__init__" ap) es [] pos) pe] ∧
  ∀ env : PySem.Env, ∃ pl : Sem Bool, eval (.Call (.Attribute (.Call (.Name "super" p0) [] [] p1) "__init__" ap) es [] pos) env = (do
      let ov ← attributeBase (.Call (.Name "super" p0) [] [] p1) "__init__" env (eval (.Call (.Name "super" p0) [] [] p1) env)
      standAt ap.atName
      let (f, first) ← holding [ov] (getMethod ov "__init__" pl)
      callWith pos f first (backTo pos (starEach es env)) [])
/-- the context of that body -/
def cxS (P : Program) (w : World) (K : Frag) (mg : Str → Option Value) (base : Heap) (N : List Str) (fd : FuncData) (f : Addr) (A : Around) (outer : List PySem.Env) (s : Shared) (H : Hp) (E : XK) : Cx where
  prog := P
  w := w
  K := K
  mg := mg
  base := base
  A := A.deeper (callEnv fd s.heap.objs.size f)
  N := N
  s_0 := s
  H_0 := H
  env := callEnv fd s.heap.objs.size f
  outer := outer
  stack := callEnv fd s.heap.objs.size f :: outer
  ex := []
  calm := true
  fn := fun _ => false
  pn := []
  xe := fun e s' => wpAny (model P w) (A.deeper (callEnv fd s.heap.objs.size f)) (leaving (callEnv fd s.heap.objs.size f) e) (fun _ s'' => CX0 outer H s E e s'') (fun e' s'' => CX0 outer H s E e' s'') s'
/-- what the written part says of the class C, the base of which makes the fields -/
structure SuperC (P : Program) (K : Frag) (mg : Str → Option Value) (C fI fS : Addr) (fd : FuncData) (st : Stmt) (ps : List Str) : Prop where
  ini : ∃ (cc cda : Addr) (qual : Str) (oc : Value) (od : Option Addr) (kV doc pm : Value) (an : Option Addr) (ct : Value) (osl : Array (Option Value)) (ccl : Value) (cdd : Option Addr) (vs : Array Value) (ccs : Array (Option Value)) (file : Str) (tf : Tok) (cl : Value) (cld : Option Addr) (csl : Array (Option Value)),
    fd = ksFn "__init__" qual (defArgs st) (defBody st) (defScope st) .none kV doc pm an (.ref cda) ct cc ∧
    K.lookup fI = some ⟨oc, od, .func fd, osl⟩ ∧ codeIn K (.ref cda) qual = true ∧
    K.lookup cda = some ⟨ccl, cdd, .fields vs, ccs⟩ ∧ vs[2]? = some (.str file tf) ∧ (P.main.file == file) = true ∧ K.lookup cc = some ⟨cl, cld, .cell (some (.ref C)), csl⟩
  cls : ∃ oc od cd sl, K.lookup C = some ⟨oc, od, .cls cd, sl⟩
  sup : ks_superIn K C C "__init__" = some (some (.ref fS))
  fnS : ∃ oS odS fdS slS, K.lookup fS = some ⟨oS, odS, .func fdS, slS⟩ ∧ oS = .type "function"
  own : mroIn K C (.ref C) = some true
  any : nsIn K cStatics "thirdparty.any" = some none
  nsup : mg "super" = none
  top : (P.main.scope.names.lookup ("super" : Str)).isSome = false
  hd : ∃ ar : Arg, ((defArgs st).posonlyargs ++ (defArgs st).args).head? = some ar ∧ ar.arg = "self"
  hps : ∃ r, ps = ("self" : Str) :: r
  cell : ∀ x ∈ (defScope st).names, x.2 ≠ .cell
  free : ∀ x ∈ (defScope st).names, x.2 = .free → x.1 = ("__class__" : Str)
  loc : ∀ x ∈ ps, (defScope st).names.lookup x = some .local
  ks : (defScope st).names.lookup ("super" : Str) = some .globalImplicit
  kc : (defScope st).names.lookup ("__class__" : Str) = some .free
  co : (defScope st).isCoroutine = false
  gen : (defScope st).isGenerator = false
  kind : (defScope st).kind = .function
  nd : ps.Nodup
theorem inv_S {P : Program} {w : World} {K : Frag} {mg : Str → Option Value} {base : Heap} {C fI fS : Addr} {fd : FuncData} {st : Stmt} {ps : List Str} (T : SuperC P K mg C fI fS fd st ps) {A : Around} {outer : List PySem.Env} {s s1 : Shared} {H : Hp} {E : XK} {us : List Value} {vs : List V}
    (hd : A.handled = none) (e0 : Env0 P w K mg base A outer s H) (hl : vs.length = ps.length) (r : Vals vs us) {h2 : Heap} {t2 : Nat} (hs : s1 = { s with heap := h2, toks := t2 }) (hns : h2.Ns s.heap.objs.size (fun x => (ps.zip us).reverse.lookup x)) (k : ∀ b o, s.heap.get? b = some o → h2.get? b = some o)
    {b : Addr} {ob : Obj} (hb : h2.get? b = some ob) (hbs : s.heap.objs.size < b) (hob : ∀ v, ob.data ≠ .cell v) : Inv (cxS P w K mg base ps fd fI A outer s H E) [(b, ob)] (L2.start ps vs) H s1 := by
  obtain ⟨cc, cda, qual, oc, od, kV, doc, pm, an, ct, osl, ccl, cdd, vsC, ccs, file, tf, cl, cld, csl, rfl, lk, hcd, lcd, hvs, hfile, lcc⟩ := T.ini
  subst hs
  have KX : K.In s.heap := e0.mod.kin.keeps fun b o e => (e0.bs b o e).1
  have noA : ∀ a : Addr, a ∉ (cxS P w K mg base ps (ksFn "__init__" qual (defArgs st) (defBody st) (defScope st) .none kV doc pm an (.ref cda) ct cc) fI A outer s H E).ex := fun b z => absurd (show b ∈ ([] : List Addr) from z) (by simp)
  have cells : ∀ (x : Str) (c : Addr), (callEnv (ksFn "__init__" qual (defArgs st) (defBody st) (defScope st) .none kV doc pm an (.ref cda) ct cc) s.heap.objs.size fI).cells.lookup x = some c → c = cc ∧ x = "__class__" := fun x c e => by
    have e : ([("__class__", cc)] : List (Str × Addr)).lookup x = some c := e
    simp only [List.lookup] at e
    split at e
    · rename_i q
      exact ⟨(Option.some.inj e).symm, beq_iff_eq.mp q⟩
    · cases e
  have bcc : base.get? cc = some ⟨cl, cld, .cell (some (.ref C)), csl⟩ := e0.mod.kin _ _ lcc
  refine ⟨⟨e0.mod, T.kind, rfl, rfl, Nat.le_refl _, fun x y c h1 h2 => by rw [(cells x c h1).2, (cells y c h2).2], fun y hy => ?_, fun y c hf _ => absurd hf (by simp [cxS]), fun _ => hd, Around.frames_deeper e0.frames, .inr ⟨rfl, rfl⟩, fun b z => absurd z (noA b), e0.bs, e0.bsz, fun b _ _ => noA b, fun b z => absurd z (noA b), e0.funs, e0.frf⟩,
    rfl, e0.bare, Un.kept k, ⟨_, hns, fun i y v h1 h2 h3 => ?_⟩, fun y c h => ?_, e0.hok.fresh (Nat.le_refl _), fun y c h => ?_, fun p hp => ?_, e0.hok.kept k, ?_⟩
  · have hy : (defScope st).names.lookup y = some .cell ∨ (defScope st).names.lookup y = some .free := hy
    rcases hy with hy | hy
    · exact absurd rfl (T.cell _ (PySem.mem_of_lookup hy))
    · have := T.free _ (PySem.mem_of_lookup hy) rfl
      have e : y = "__class__" := this
      subst e
      exact ⟨cc, by rfl⟩
  · have hst : L2.start ps vs = vs.map some := by unfold L2.start; rw [hl, Nat.sub_self]; simp
    rw [hst] at h2
    rw [List.getElem?_map] at h2
    obtain ⟨v', hv, e⟩ : ∃ v', vs[i]? = some v' ∧ v' = v := by
      cases q : vs[i]? with
      | none => rw [q] at h2; cases h2
      | some a => rw [q] at h2; cases h2; exact ⟨_, rfl, rfl⟩
    subst e
    obtain ⟨u, hu, rv⟩ := r.get hv
    have hy : (defScope st).names.lookup y = some .local := T.loc y (List.mem_of_getElem? h1)
    refine ⟨u, rv, .inl ⟨hy, ?_⟩⟩
    have hlu : ps.length = us.length := by rw [← r.length, hl]
    have nd : ((ps.zip us).reverse.map (·.1)).Nodup := by
      rw [List.map_reverse, Er.map_fst_zip hlu]
      exact List.pairwise_reverse.mpr (T.nd.imp fun h e => h e.symm)
    refine Er.lookup_of_mem nd (List.mem_reverse.mpr ?_)
    refine List.mem_of_getElem? (i := i) ?_
    rw [List.getElem?_zip_eq_some]
    exact ⟨h1, hu⟩
  · obtain ⟨rfl, rfl⟩ := cells y c h
    exact ⟨_, _, k _ _ (KX _ _ lcc), rfl⟩
  · obtain ⟨rfl, rfl⟩ := cells y c h
    exact (e0.bs _ _ bcc).2
  · have e : p = (b, ob) := by simpa [cxS] using hp
    subst e
    refine ⟨hb, e0.hok.fresh (Nat.le_of_lt hbs), Nat.ne_of_gt hbs, fun hf => ?_, hob⟩
    obtain ⟨_, o, ho, _⟩ := e0.funs.mem hf
    exact absurd (Heap.lt_size ho) (Nat.not_lt_of_lt hbs)
  · unfold L2.start
    rw [hl, Nat.sub_self]
    simp [cxS, hl]
/-- THE RULE: an __init__ that calls the base's, by the base's promise -/
theorem fn_super {P : Program} {w : World} {K : Frag} {mg : Str → Option Value} {base : Heap} {k : Nat} {C fI fS : Addr} {fd fdS : FuncData} {st : Stmt} {ps psS : List Str} {as : List Expr} {sp spS : Sp} (T : SuperC P K mg C fI fS fd st ps) (hB : Body (defBody st) as)
    (hne : ∃ e es, as = e :: es ∧ (∀ env : PySem.Env, starEach (e :: es) env = (false, eval e env) :: starEach es env) ∧ ∀ (pos : Pos) (env : PySem.Env), (backTo pos (starEach es env)).any (·.1) = false)
    (FS : FnOk P w K mg base CX0 k fS fdS psS spS) (bS : Binds K fdS psS []) (bd : ∀ (s : Shared) (us : List Value), us.length = ps.length → BindsTo s fd ⟨us, []⟩ (ps.zip us))
    (len : ∀ vs H Q E, sp vs H Q E → vs.length = ps.length)
    (hbody : ∀ (A : Around) (outer : List PySem.Env) (s : Shared) (H : Hp) (vs : List V) (Q : VK) (E : XK), Room k (A.deeper (callEnv fd s.heap.objs.size fI)) → sp vs H Q E →
      ∃ t x us C' dx fs, vs = .ref x :: us ∧ C' = C ∧ H x = some (.ins C' dx fs) ∧ PA (cxS P w K mg base ps fd fI A outer s H E) as t ∧ t (L2.start ps vs) H (fun zs H1 => spS (.ref x :: zs) H1 (fun _ H' => Q .non H') E0)) :
    FnOk P w K mg base CX0 (k + 1) fI fd ps sp := by
  have T' := T
  obtain ⟨e, es, rfl, hst, hpl⟩ := hne
  refine ⟨len, fun A outer s H args us vs Q E hr e0 hb r hsp => ?_⟩
  have hl := len _ _ _ _ hsp
  obtain ⟨cc, cda, qual, oc, od, kV, doc, pm, an, ct, osl, ccl, cdd, vsC, ccs, file, tf, cl, cld, csl, rfl, lk, hcd, lcd, hvs, hfile, lcc⟩ := T.ini
  obtain ⟨oC, odC, cdC, slC, lC⟩ := T.cls
  have hcl : clsIn K C = some cdC := by unfold clsIn; rw [lC] <;> rfl
  obtain ⟨t, x, vs0, C', dx, fs, hvs0, rfl, hHx, hPA, hrun⟩ := hbody A outer s H vs Q E (hr.deeper _) hsp
  have KX : K.In s.heap := e0.mod.kin.keeps fun b o e => (e0.bs b o e).1
  have G : s.heap.Ns mainGlobals mg := e0.mod.glob.keeps fun b o e => (e0.bs b o e).1
  have lim : s.heap.NoLimit := e0.mod.nolimit.keeps fun b o e => (e0.bs b o e).1
  have Bt : Er.Blt s.heap := by
    obtain ⟨mb, h1, h2⟩ := e0.mod.blt
    exact ⟨mb, h1.keeps fun b o e => (e0.bs b o e).1, h2⟩
  have hxo : s.heap.get? x = some (instObj C' dx) := by
    obtain ⟨_, _, _, h, _⟩ := e0.hok x _ hHx
    exact h
  refine ks_codeAny_call_defAt (fd := ksFn "__init__" qual (defArgs st) (defBody st) (defScope st) .none kV doc pm an (.ref cda) ct cc) (body := defBody st) (binds := ps.zip us) hr.depth (KX _ _ lk) rfl lim (codeRec_of KX hcd) rfl hb T.cell (fun y hy => T.loc y.1 (List.of_mem_zip hy).1) (fun h₀ hns k0 => ?_) T.co T.gen T.kind
  obtain ⟨p0, p1, ap, pos, pe, hbody', hev⟩ := hB
  obtain ⟨hp, g, d, tk, os⟩ := s
  have X₀ : K.In h₀ := KX.keeps k0
  have hx₀ := k0 _ _ hxo
  have hlu : ps.length = us.length := by rw [← r.length, hl]
  have ndz : ((ps.zip us).reverse.map (·.1)).Nodup := by
    rw [List.map_reverse, Er.map_fst_zip hlu]
    exact List.pairwise_reverse.mpr (T.nd.imp fun h e => h e.symm)
  have ms : ∀ f u, (f, u) ∈ ps.zip us → ((ps.zip us).reverse.lookup f) = some u := fun f u h => Er.lookup_of_mem ndz (List.mem_reverse.mpr h)
  obtain ⟨us0, hus⟩ : ∃ us0, us = .ref x :: us0 := by
    rw [hvs0] at r
    cases r with
    | @cons _ u _ us0 ru rs => 
      have : u = .ref x := ru
      exact ⟨us0, by rw [this]⟩
  obtain ⟨rp, hrp⟩ := T.hps
  refine (congrArg (fun b => PySem.wpAt _ _ _ (execs b _) _ _ _) hbody').mpr ?_
  obtain ⟨pl, hpl'⟩ := hev (callEnv (ksFn "__init__" qual (defArgs st) (defBody st) (defScope st) .none kV doc pm an (.ref cda) ct cc) hp.objs.size fI)
  refine ks_wpAt_execs_cons (ks_wpAt_Expr_any (ks_wpAt_MethodCall ?_ hpl') (by show (((defScope st).kind == .module) && _) = false; rw [T.kind]; rfl) rfl)
  obtain ⟨ar, har, hself⟩ := T.hd
  refine ks_wpAt_super_base T.ks T.kc (by decide) rfl (X₀ _ _ lk) rfl har rfl (X₀ _ _ lcd) rfl hvs hfile T.top ?_
  obtain ⟨mb, hmb, hbb⟩ := Bt
  refine ks_loadName_global T.kind T.ks (loadGlobal_builtin (G.keeps k0) T.nsup (hmb.keeps k0) (v := .type "super") ((hbb "super" (by decide)).trans (by first | rfl | kernel_rfl | decide +kernel)) ⟨rfl, ?_⟩)
  refine wpAny_loadName_free T.kind T.kc rfl ⟨_, X₀ _ _ lcc, rfl⟩ ?_
  rw [hself]
  refine wpAny_loadName_local T.kind (T.loc _ (by rw [hrp]; exact List.mem_cons_self)) hns (ms "self" (.ref x) (by rw [hrp, hus]; simp)) ?_
  refine ks_wpAny_isType_cls (X₀ _ _ lC) rfl ⟨rfl, ?_⟩
  refine ks_wpAny_call_super (X₀ _ _ lC) rfl hx₀ rfl (fun c e => by cases e) (looks_mroIn X₀ T.own) (fun h2 e2 k2 => ?_)
  have X₂ : K.In h2 := X₀.keeps k2
  have hf := T.sup
  unfold ks_superIn at hf
  rw [hcl] at hf
  obtain ⟨oS, odS, fdS', slS, hfS, hoS⟩ := T.fnS
  have hxC : x ≠ C' := by
    rintro rfl
    have e1 := X₂ _ _ lC
    have e3 := k2 _ _ hx₀
    rw [e1] at e3
    cases e3
  refine ks_wpAny_getMethod_super e2 (looks_opaque X₂ T.any) (l₀ := cdC.mro) ((looks_clsIn X₂ hcl).andThen .now) rfl X₂ hf (X₂ _ _ hfS) hoS hxC (by decide) ?_
  have k3 : ∀ b o, h2.get? b = some o → (h2.push (methodObj (.ref fS) (.ref x))).get? b = some o := fun b o e => Heap.get?_push_of_some _ e
  have hu : (h2.push (methodObj (.ref fS) (.ref x))).get? h2.objs.size = some (methodObj (.ref fS) (.ref x)) := Heap.get?_push_at rfl rfl
  have kk : ∀ b o, hp.get? b = some o → (h2.push (methodObj (.ref fS) (.ref x))).get? b = some o := fun b o e => k3 _ _ (k2 _ _ (k0 b o e))
  have hns2 : (h2.push (methodObj (.ref fS) (.ref x))).Ns hp.objs.size (fun y => (ps.zip us).reverse.lookup y) := (hns.keeps k2).keeps k3
  have hbig : hp.objs.size < h2.objs.size := Nat.lt_trans hns.lt (Heap.lt_size e2)
  have I0 := inv_S T' (E := E) (s1 := ⟨h2.push (methodObj (.ref fS) (.ref x)), g, d, tk + (ps.zip us).length + 1, os⟩) hr.hd e0 hl r rfl hns2 kk hu hbig (fun v z => by cases z)
  refine callWith_of (P := MethP K h2.objs.size fS (.ref x)) (by rw [hst]; show ((false || (backTo pos (starEach es _)).any (·.1)) || false) = false; rw [hpl]; rfl) (keeps_M (by unfold fnIn; rw [hfS])) ?_
  rw [hst]
  have hPr := hPA.run pos _ _ _ _ _ I0 hrun
  have hst' : starEach (e :: es) (cxS P w K mg base ps (ksFn "__init__" qual (defArgs st) (defBody st) (defScope st) .none kV doc pm an (.ref cda) ct cc) fI A outer ⟨hp, g, d, tk, os⟩ H E).env = (false, eval e _) :: starEach es _ := hst _
  rw [hst'] at hPr
  refine evalArgs_plain (thn hPr fun zs s2 ⟨vz, H1, I1, rz, q1⟩ => ?_)
  have hpin := I1.pin (h2.objs.size, methodObj (.ref fS) (.ref x)) (by simp [cxS])
  refine ⟨⟨hpin.1, I1.kIn⟩, ?_⟩
  have rr : Vals (V.ref x :: vz) (Value.ref x :: zs) := .cons rfl rz
  have hlS : (Value.ref x :: zs).length = psS.length := by rw [← rr.length]; exact FS.len _ _ _ _ q1
  have hbS := bS s2 (Value.ref x :: zs) I1.kIn (by rw [List.append_nil]; exact hlS)
  rw [List.append_nil] at hbS
  refine wpAny_call (ks_codeAny_call_bound hpin.1 (codeAny_mono (FS.run _ _ s2 H1 ⟨Value.ref x :: zs, []⟩ (Value.ref x :: zs) (V.ref x :: vz) _ E0 (hr.deeper _) I1.env0 hbS rr q1) fun rs s' hq => ?_))
  cases rs with
  | error e => exact False.elim hq
  | ok fl =>
    cases fl with
    | ret u =>
      obtain ⟨v, H', J, rv, q⟩ := I1.after hq
      show PySem.wpAt _ _ _ (execs [] _) _ _ _
      refine wpAt_of_wpAny (wpAny_execs_nil ?_)
      exact ⟨.non, H', J.os, J.bare, J.base, J.hok, rfl, q⟩
    | next => exact False.elim hq
    | brk => exact False.elim hq
    | cont => exact False.elim hq
def supArgs (st : Stmt) : List Expr := match defBody st with
  | [.Expr (.Call _ as _ _) _] => as
  | _ => []
end Su
open PySem L2
open PySem.W (Frag)
namespace Su
variable {K : Frag}
/-- the promise of such an __init__, by the base's promise -/
theorem is_super {S T : IS K} [E : Ents S.args] {N : List Str} {vs : List V} {H : Hp} {Q : VK} {X : XK} {t : TA} {Xc : Cx} {as : List Expr} (hPA : PA Xc as t) (hC : T.C = S.C) (cS : S.cost = 0) (cT : T.cost = 0) (hN : E.len + 1 ≤ N.length) (hsp : S.sp vs H Q X)
    (body : ∀ (w : Wd) (n : Option Nat) (a : S.A) (p : Addr), S.pre a → WpA K w n (.mu (rI S.C p []) :: (E.ents a ++ List.replicate (N.length - (E.len + 1)) .no)) t T.args
      (fun b n' Γ' => Γ'[0]? = some (.mu (rI S.C p [])) ∧ n' = n ∧ T.pre b ∧ ∀ y, T.post b y → ∃ x, S.post a x ∧ FSame (T.flds y) (S.flds x))) :
    ∃ t x us C' dx fs, vs = .ref x :: us ∧ C' = S.C ∧ H x = some (.ins C' dx fs) ∧ PA Xc as t ∧ t (L2.start N vs) H (fun zs H1 => T.sp (.ref x :: zs) H1 (fun _ H' => Q .non H') E0) := by
  obtain ⟨d, ca, cs, n, B, a, p, dx, us, rfl, hp, hb, o, r, hpre, hm, q⟩ := hsp
  obtain ⟨l1, l2, l3⟩ := E.ok r
  have hents : ∀ (i : Nat) e, (E.ents a ++ List.replicate (N.length - (E.len + 1)) Ent.no)[i]? = some e → (∀ s a, ¬ e.owns s a) ∧ SlotOk ⟨d, ca, cs, B, del H p⟩ B H e (L2.start N (.ref p :: us))[i + 1]? := fun i e z => by
    have hst : L2.start N (.ref p :: us) = some (.ref p) :: (us.map some ++ List.replicate (N.length - (E.len + 1)) none) := by
      unfold L2.start; simp [l2]
    rw [hst, List.getElem?_cons_succ]
    by_cases hi : i < (E.ents a).length
    · rw [List.getElem?_append_left hi] at z
      rw [List.getElem?_append_left (by simpa [← l1] using hi)]
      exact l3 H ⟨d, ca, cs, B, del H p⟩ rfl i _ z
    · rw [List.getElem?_append_right (by omega), List.getElem?_replicate] at z
      split at z
      · cases z; exact ⟨fun _ _ y => y, trivial⟩
      · cases z
  have ok0 : Ok K ⟨d, ca, cs, B, del H p⟩ n (.mu (rI S.C p []) :: (E.ents a ++ List.replicate (N.length - (E.len + 1)) .no)) (L2.start N (.ref p :: us)) B H := by
    refine ⟨o.ex, o.ex0, o.nw, o.kp, o.hd, o.hh, o.pn, ?_, fun i e z => ?_, fun i j e e' x ne z z' oi oj => ?_⟩
    · unfold L2.start; simp [l1, l2]
    · cases i with
      | zero =>
        simp only [List.getElem?_cons_zero, Option.some.injEq] at z; subst z
        refine ⟨p, _, ?_, hp, hb, del_same, rfl, dx, [], rfl, Nat.zero_le _, FRep.nil fun _ => rfl⟩
        unfold L2.start; simp
      | succ i =>
        rw [List.getElem?_cons_succ] at z
        exact (hents i e z).2
    · cases i with
      | zero =>
        cases j with
        | zero => exact ne rfl
        | succ j =>
          rw [List.getElem?_cons_succ] at z'
          exact (hents j e' z').1 _ _ oj
      | succ i =>
        rw [List.getElem?_cons_succ] at z
        exact (hents i e z).1 _ _ oi
  refine ⟨t, p, us, S.C, dx, [], rfl, rfl, hp, hPA, body ⟨d, ca, cs, B, del H p⟩ n a p hpre (L2.start N (.ref p :: us)) B H ok0 _ fun b zs n1 Γ1 B1 H1 ⟨h0, hn1, hTp, hpost⟩ e1 o1 r1 => ?_⟩
  subst hn1
  obtain ⟨l, ob, k1, k2, k3, k4, rfl, dx1, fs1, rfl, k5, k6⟩ := o1.sl 0 _ h0
  have hf1 : fs1 = [] := List.length_eq_zero_iff.mp (Nat.le_zero.mp k5)
  subst hf1
  have hdl : d ≠ l := fun z => by
    have := o1.hd
    show False
    rw [z] at this
    simp only [del_same] at this
    cases this
  refine ⟨d, ca, cs, n1, B1, b, l, dx1, zs, rfl, by rw [hC]; exact k2, k3, ⟨o1.ex, Ex.refl _, fun a u q => .inl q, fun a u q _ => (del_some q).2, ?_, o1.hh, fun m q => ?_, rfl, fun i e q => by simp at q, fun i j e e' a _ q => by simp at q⟩, r1, hTp, .inl cT, fun y n' B' H' dx' fs hy hc e' o' hb' hh hf => ?_⟩
  · show (del H1 l d).isSome = true
    rw [del_ne hdl]; exact o1.hh
  · obtain ⟨fr, a, l, p1, p2, p3⟩ := o1.pn m q
    exact ⟨fr, a, l, p1, p2, p3⟩
  · obtain ⟨x, hx, hs⟩ := hpost y hy
    have hn : n' = n1 := by
      rcases hc with ⟨_, h⟩ | ⟨m, h1, h2⟩
      · exact h
      · rw [h1, h2, cT]; rfl
    subst hn
    rw [hC] at hh
    refine q x n' B' H' dx' fs hx (.inl ⟨cS, rfl⟩) (e1.trans e') ⟨o'.ex, o1.ex0.trans o'.ex0, fun a u g => ?_, fun a u g ne => ?_, o1.hd, o'.hh, fun m g => ?_, rfl, fun i e q => by simp at q, fun i j e e' a _ q => by simp at q⟩ hb' hh (hf.same hs)
    · rcases o'.nw a u g with z | z
      · exact o1.nw a u z
      · have z : del H1 l a = none := z
        right
        show del H l a = none
        by_cases ha : a = l
        · subst ha; exact del_same
        · have z1 : H1 a = none := by rw [del_ne ha] at z; exact z
          rw [del_ne ha]
          cases hq : H a with
          | none => rfl
          | some v =>
            by_cases hd' : a = d
            · subst hd'; exact (noS z1 o1.hh).elim
            · have := o1.kp a v (by show del H l a = some v; rw [del_ne ha]; exact hq) hd'
              rw [z1] at this; cases this
    · have g : del H l a = some u := g
      obtain ⟨ha, _⟩ := del_some g
      have h1 := o1.kp a u g ne
      exact o'.kp a u (by show del H1 l a = some u; rw [del_ne ha]; exact h1) ne
    · obtain ⟨fr, a, l, p1, p2, p3⟩ := o'.pn m g
      exact ⟨fr, a, l, p1, p2, p3⟩
end Su
/-! ### one of several readings -/
def tOrE (t1 t2 : TE) : TE := fun σ H Q => t1 σ H Q ∨ t2 σ H Q
section
variable {X : Cx} {e : Expr} {t1 t2 : TE}
theorem pe_orE (h1 : PE X e t1) (h2 : PE X e t2) : PE X e (tOrE t1 t2) := ⟨fun pins s σ H Q I h => h.elim (h1.run pins s σ H Q I) (h2.run pins s σ H Q I)⟩
end
section
variable {K : Frag} {w : Wd} {n : Option Nat} {Γ Γ' : Env} {α β γ δ ρ A : Type} {t : Ty α} {u : Ty β} {ta tb te t1 t2 : TE}
theorem we_orL {k : α → NK} (h : WpE K w n Γ t1 t k) : WpE K w n Γ (tOrE t1 t2) t k := fun σ B H ok Q c => .inl (h σ B H ok Q c)
theorem we_orR {k : α → NK} (h : WpE K w n Γ t2 t k) : WpE K w n Γ (tOrE t1 t2) t k := fun σ B H ok Q c => .inr (h σ B H ok Q c)
/-- the kind exchanged -/
theorem we_conv {k : β → NK} (f : α → β) (hr : ∀ {B v x}, t.rep B v x → u.rep B v (f x)) (h : WpE K w n Γ te t (fun x n Γ => k (f x) n Γ)) : WpE K w n Γ te u k := fun σ B H ok Q c => h σ B H ok Q fun x v n' Γ' B' H' q e o r => c (f x) v n' Γ' B' H' q e o (hr r)
end
/-- an instance whose class its datum tells -/
def tFam {α : Type} (C : α → Addr) (flds : α → Flds) : Ty α := ⟨fun B v x => (tObj (C x) flds).rep B v x, fun {B B' v x} e h => (tObj (C x) flds).mono e h⟩
/-- a test by one of several readings -/
def tOrT (t1 t2 : TT) : TT := fun σ H Q => t1 σ H Q ∨ t2 σ H Q
section
variable {X : Cx} {e : Expr} {t1 t2 : TT}
theorem pt_orT (h1 : PT X e t1) (h2 : PT X e t2) : PT X e (tOrT t1 t2) := ⟨fun pins s σ H Q I h => h.elim (h1.run pins s σ H Q I) (h2.run pins s σ H Q I)⟩
end
/-! ### four classes over one -/
inductive S4 where
  | a | b | c | d
  deriving DecidableEq
abbrev C4 (A B C D : Addr) : S4 → Addr
  | .a => A
  | .b => B
  | .c => C
  | .d => D
/-- of the classes A, B, C, D over U: none is above another -/
structure FamF4 (K : Frag) (U A B C D : Addr) : Prop where
  ne : ∀ i j : S4, i ≠ j → C4 A B C D i ≠ C4 A B C D j ∧ PySem.W.subIn K (.ref (C4 A B C D i)) (.ref (C4 A B C D j)) = some false
  up : ∀ i : S4, C4 A B C D i ≠ U ∧ PySem.W.subIn K (.ref (C4 A B C D i)) (.ref U) = some true
section
variable {K : Frag} {w : Wd} {n : Option Nat} {Γ Γ' : Env} {α β γ δ ρ A : Type} {t : Ty α} {u : Ty β} {ta tb te : TE} {kt kf : NK}
theorem we_sel4 {T : S4 → TE} {k : α → NK} (i : S4) (h : WpE K w n Γ (T i) t k) : WpE K w n Γ (tOrE (T .a) (tOrE (T .b) (tOrE (T .c) (T .d)))) t k := by
  cases i
  · exact we_orL h
  · exact we_orR (we_orL h)
  · exact we_orR (we_orR (we_orL h))
  · exact we_orR (we_orR (we_orR h))
theorem wt_sel4 {T : S4 → TT} (i : S4) (h : WpT K w n Γ (T i) kt kf) : WpT K w n Γ (tOrT (T .a) (tOrT (T .b) (tOrT (T .c) (T .d)))) kt kf := by
  cases i
  · exact fun σ B H ok Q c1 c2 => .inl (h σ B H ok Q c1 c2)
  · exact fun σ B H ok Q c1 c2 => .inr (.inl (h σ B H ok Q c1 c2))
  · exact fun σ B H ok Q c1 c2 => .inr (.inr (.inl (h σ B H ok Q c1 c2)))
  · exact fun σ B H ok Q c1 c2 => .inr (.inr (.inr (h σ B H ok Q c1 c2)))
/-- an instance of one of the classes, or a list -/
def tFoL (C : α → Addr) (flds : α → Flds) : Ty (Option α) := ⟨fun B v x => match x with
    | some y => (tObj (C y) flds).rep B v y
    | none => ∃ a xs, v = .ref a ∧ B a = some (.lst xs), fun {B B' v x} e h => by
  cases x with
  | some y => exact (tObj (C y) flds).mono e h
  | none =>
    obtain ⟨a, xs, h1, h2⟩ := h
    exact ⟨a, xs, h1, e _ _ h2⟩⟩
theorem we_foO {C : α → Addr} {flds : α → Flds} {k : Option α → NK} (h : WpE K w n Γ te (tFam C flds) (fun x n Γ => k (some x) n Γ)) : WpE K w n Γ te (tFoL C flds) k := fun σ B H ok Q c => h σ B H ok Q fun x v n' Γ' B' H' q e o r => c (some x) v n' Γ' B' H' q e o r
theorem we_foL {C : γ → Addr} {flds : γ → Flds} {k : Option γ → NK} (h : WpE K w n Γ te (tL t) (fun x n Γ => k none n Γ)) : WpE K w n Γ te (tFoL C flds) k := fun σ B H ok Q c => h σ B H ok Q fun x v n' Γ' B' H' q e o ⟨a, xs, hv, hs, _⟩ => c none v n' Γ' B' H' q e o ⟨a, _, hv, hs⟩
theorem viewFo {C : α → Addr} {flds : α → Flds} {i : Nat} {x : α} (h : Γ[i]? = Option.some (.im (tFoL C flds) (Option.some x))) : View K w n Γ n (Γ.set i (.im (tObj (C x) flds) x)) := fun σ B H ok => by
  obtain ⟨v, h1, h2⟩ := ok.sl i _ h
  have o2 := ok.setIm (i := i) (t := tObj (C x) flds) (x := x) (v := v) h2
  rw [slot_same h1] at o2
  exact ⟨B, Ex.refl _, o2⟩
/-- what the machine must know of the other one -/
theorem tyL_fo {U A4 B4 C4' D4 : Addr} (F : FamF4 K U A4 B4 C4' D4) {ix : α → S4} {flds : α → Flds} {B H : Hp} {v : V} {x : Option α} {i : S4} (h : (tFoL (fun y => C4 A4 B4 C4' D4 (ix y)) flds).rep B v x) (e : Ex B H) : ∃ t, TyL K H v t ∧ PySem.W.notFirst K (C4 A4 B4 C4' D4 i) t = true := by
  cases x with
  | some y =>
    obtain ⟨a, dx, fs, rfl, hs⟩ := insV_obj h e
    refine ⟨_, .own hs, ?_⟩
    unfold PySem.W.notFirst
    dsimp only
    by_cases z : ix y = i
    · rw [z]; simp
    · rw [(F.ne _ _ z).2]; simp
  | none =>
    obtain ⟨a, xs, rfl, h2⟩ := h
    refine ⟨_, .kit (.base (.lst (e _ _ h2))), ?_⟩
    unfold PySem.W.notFirst
    rw [sub_list]; simp
/-- isinstance(x, C) -/
theorem we_isFo {U A4 B4 C4' D4 : Addr} (F : FamF4 K U A4 B4 C4' D4) (ic : ∀ i, ∃ mg nm, IsC K mg (C4 A4 B4 C4' D4 i) nm) {ix : α → S4} {flds : α → Flds} (j : S4) {k : Bool → NK}
    (h : WpE K w n Γ ta (tFoL (fun y => C4 A4 B4 C4' D4 (ix y)) flds) (fun x n Γ => k (match x with | some y => decide (ix y = j) | none => false) n Γ)) : WpE K w n Γ (tCB (rIsi K) (tCons ta (tCons (tC (.ref (C4 A4 B4 C4' D4 j))) tNil))) tBo k := fun σ B H ok Q c =>
  h σ B H ok _ fun x v n1 Γ1 B1 H1 q e o r => by
    obtain ⟨mgj, nmj, icj⟩ := ic j
    have hcj : (PySem.W.clsIn K (C4 A4 B4 C4' D4 j)).isSome = true := by
      obtain ⟨cd, hc, _⟩ := PySem.W.any_some icj.cl.hd
      rw [hc]; rfl
    cases x with
    | some y =>
      obtain ⟨a, dx, fs, rfl, hs⟩ := insV_obj r o.ex
      obtain ⟨mg, nm, icy⟩ := ic (ix y)
      refine ⟨_, .ref _, .ref (C4 A4 B4 C4' D4 (ix y)), .ref _, decide (ix y = j), rfl, .own _, .base (.ins hs icy.cl icy.ha icy.hn icy.htk icy.hm), ?_, c _ _ n1 Γ1 B1 H1 q e o rfl⟩
      by_cases z : ix y = j
      · rw [z]; unfold PySem.W.kitOne; simp
      · obtain ⟨g1, g2⟩ := F.ne _ _ z
        unfold PySem.W.kitOne PySem.W.kitCls
        rw [if_neg (by intro q; have := beq_iff_eq.mp q; injection this; exact g1 ‹_›)]
        show (if _ then _ else _) = _
        rw [if_pos (by rw [hcj, icj.ty]; simp), decide_eq_false z]
        exact g2
    | none =>
      obtain ⟨a, xs, rfl, h2⟩ := r
      refine ⟨_, .ref _, .type "list", .ref _, false, rfl, .own _, .base (.lst (o.ex _ _ h2)), ?_, c _ _ n1 Γ1 B1 H1 q e o rfl⟩
      unfold PySem.W.kitOne PySem.W.kitCls
      rw [if_neg (by intro z; cases beq_iff_eq.mp z)]
      show (if _ then _ else _) = _
      rw [if_pos (by rw [hcj, icj.ty]; simp)]
      exact sub_list
/-- isinstance(x, U), U the base -/
theorem we_isUp {U A4 B4 C4' D4 : Addr} (F : FamF4 K U A4 B4 C4' D4) (ic : ∀ i, ∃ mg nm, IsC K mg (C4 A4 B4 C4' D4 i) nm) {mgu : Str → Option Value} {nmu : Str} (icu : IsC K mgu U nmu) {ix : α → S4} {flds : α → Flds} {k : Bool → NK}
    (h : WpE K w n Γ ta (tFam (fun y => C4 A4 B4 C4' D4 (ix y)) flds) (fun x n Γ => k true n Γ)) : WpE K w n Γ (tCB (rIsi K) (tCons ta (tCons (tC (.ref U)) tNil))) tBo k := fun σ B H ok Q c =>
  h σ B H ok _ fun y v n1 Γ1 B1 H1 q e o r => by
    have hcu : (PySem.W.clsIn K U).isSome = true := by
      obtain ⟨cd, hc, _⟩ := PySem.W.any_some icu.cl.hd
      rw [hc]; rfl
    obtain ⟨a, dx, fs, rfl, hs⟩ := insV_obj r o.ex
    obtain ⟨mg, nm, icy⟩ := ic (ix y)
    refine ⟨_, .ref U, .ref (C4 A4 B4 C4' D4 (ix y)), .ref U, true, rfl, .own _, .base (.ins hs icy.cl icy.ha icy.hn icy.htk icy.hm), ?_, c _ _ n1 Γ1 B1 H1 q e o rfl⟩
    obtain ⟨g1, g2⟩ := F.up (ix y)
    unfold PySem.W.kitOne PySem.W.kitCls
    rw [if_neg (by intro q; have := beq_iff_eq.mp q; injection this; exact g1 ‹_›)]
    show (if _ then _ else _) = _
    rw [if_pos (by rw [hcu, icu.ty]; simp)]
    exact g2
end
/-! ### an instance beside an int, within a tuple -/
section
variable {X : Cx} {n m : Nat}
/-- o == i: what R says -/
def DInsI (C : Addr) (R : V → V → Hp → Bool → Prop) : EqvB := fun x y H b => ∃ a dx fs i, x = .ref a ∧ y = .int i ∧ H a = some (.ins C dx fs) ∧ R x y H b
theorem mon_insI {C : Addr} {R : V → V → Hp → Bool → Prop} (hR : MonB R) : MonB (DInsI C R) := fun x y H H' b e d => by
  obtain ⟨a, dx, fs, i, hx, hy, h1, r⟩ := d
  exact ⟨a, dx, fs, i, hx, hy, e _ _ h1, hR _ _ _ _ _ e r⟩
theorem eqB_insI {C : Addr} {k : Nat} {ps : List Str} {sp : Sp} {R : V → V → Hp → Bool → Prop} (c : MethBy X.prog X.w X.K X.mg X.base CX0 k C "__eq__" ps sp) (hsp : ∀ vs H Q E, spEqB R vs H Q E → sp vs H Q E) (hn : k ≤ n) : EqB X n (DInsI C R) := by
  obtain ⟨f, fd, h1, F0, hb⟩ := c.ex
  have F := (F0.imp hsp).mono hn
  intro A pins s σ H x y u v b sb I rx ry d
  obtain ⟨a, dx, fs, i, rfl, rfl, ha, hr⟩ := d
  cases rx
  obtain ⟨ti, rfl⟩ := ry
  unfold eqBool
  refine wpAny_holding (wpAny_ite_split (fun hab => absurd (eq_of_beq hab) (fun z => by cases z)) (fun _ => wpAny_bind ?_))
  obtain ⟨mA, J, _⟩ := ins_get I.hok ha
  obtain ⟨od, J, _⟩ := J.look
  obtain ⟨m, hF⟩ := I.fr
  refine PySem.W.cmp_K (op := .Eq) (tb := .type "int") sb.room.units0 hF I.ok.mod.kin J (PySem.W.Looks.of_pure rfl) (by unfold PySem.W.notFirst; rw [sub_bi (.inr (.inl rfl))]; simp) h1.at_ h1.fn ?_
  have hsp2 : spEqB R [.ref a, .int i] H (fun v H' => v = .bl b ∧ Ext H H') E0 := ⟨_, _, b, rfl, hr, fun H' e => ⟨rfl, e⟩⟩
  have e0 : Env0 X.prog X.w X.K X.mg X.base A X.stack s H := by
    have e := I.env0
    exact ⟨by rw [sb.fr]; exact e.frames, e.mod, e.bs, e.bsz, e.funs, e.frf, e.hok, e.bare⟩
  have hl := F.len _ _ _ _ hsp2
  have r2 : Vals [V.ref a, V.int i] [Value.ref a, Value.int i ti] := .cons rfl (.cons ⟨ti, rfl⟩ .nil)
  refine wpAny_call (codeAny_mono (F.run A X.stack s H ⟨[.ref a, .int i ti], []⟩ [.ref a, .int i ti] [.ref a, .int i] _ E0 sb.room e0 (by
    have := hb s [.ref a, .int i ti] I.kIn (by simpa using hl)
    simpa using this) r2 hsp2) fun r s' hq => ?_)
  cases r with
  | error e => exact hq.elim
  | ok fl =>
    cases fl with
    | ret w =>
      obtain ⟨z, H', I', rz, ez, ex⟩ := I.after hq
      subst ez
      cases rz
      exact wpAny_truthy_bool ⟨rfl, H', I', ex⟩
    | next => exact False.elim hq
    | brk => exact False.elim hq
    | cont => exact False.elim hq
end
end TL

/-! # TL: comprehensions of two sources; len(o), o[a, b] of own classes; lists that compare by their items' own == -/
namespace TL
open PySem L2 PyProof.Rows PySem.Calls
open PySem.W (Frag)
section
variable {K : Frag} {w : Wd} {n : Option Nat} {Γ Γ' : Env} {α β γ δ ρ A : Type} {t : Ty α} {u : Ty β} {s1 : Ty γ} {ta tb te : TE}
theorem wipe_wipe {σ : L2.St} {vs : List Nat} : wipe (wipe σ vs) vs = wipe σ vs := by
  have gen : ∀ (us : List Nat) (τ : L2.St), (∀ i ∈ us, ∀ x, τ[i]? = some x → x = none) → wipe τ us = τ := fun us => by
    induction us with
    | nil => intro τ _; rfl
    | cons a us ih =>
      intro τ hτ
      unfold wipe
      rw [ih τ fun i hi => hτ i (by simp [hi])]
      apply List.ext_getElem?
      intro j
      rw [List.getElem?_set]
      split
      · rename_i z; subst z
        split
        · rename_i z
          have := hτ a (by simp) τ[a] (List.getElem?_eq_getElem z)
          rw [List.getElem?_eq_getElem z, this]
        · rename_i z; exact (List.getElem?_eq_none_iff.mpr (by omega)).symm
      · rfl
  refine gen vs _ fun i hi x hx => ?_
  cases x with
  | none => rfl
  | some y => exact absurd hi (wipe_some hx).2
/-- behind an inner step the list at D stands as it stood -/
theorem Ok.backD {σ : L2.St} {B2 H' : Hp} {D : Addr} {acc : List V} (o2 : Ok K w n Γ σ B2 H') (hD2 : H' D = some (.lst acc)) (hb : B2 D = none) (ned : D ≠ w.d) {n' : Option Nat} {B' H'' : Hp} (o : Ok K ⟨w.d, w.ca, w.cs, B2, H'⟩ n' [] [] B' H'') : Ok K w n' Γ σ B' H'' ∧ H'' D = some (.lst acc) ∧ B' D = none := by
  refine ⟨o2.back o, o.kp D _ hD2 ned, ?_⟩
  cases q : B' D with
  | none => rfl
  | some z =>
    rcases o.nw D z q with r | r
    · have r' : B2 D = some z := r
      rw [hb] at r'; cases r'
    · have r' : H' D = none := r
      rw [hD2] at r'; cases r'
/-- the inner loop of a comprehension of two sources -/
theorem lc_inner {vs1 : List Nat} {g1 : TG} {J : It} {σ : L2.St} {B0 H0 : Hp} {D : Addr} {acc0 : List V} {zs : List γ} {ys pre : List β} {Nx : Hp → Prop} (hg1 : GSl g1 vs1) (hlen : ys.length = zs.length) (hsz : pre.length + ys.length ≤ 100000)
    (o0 : Ok K w n Γ σ B0 H0) (ow0 : Own w Γ σ B0 H0 (rL u pre) D) (hacc0 : H0 D = some (.lst acc0)) (pacc0 : Paired (u.rep B0) acc0 pre) (it : Iter s1 zs J B0)
    (hs : ∀ (w' : Wd) (j : Nat) z, zs[j]? = some z → SetE (hideE Γ vs1) fun Γh => WpG K w' n Γh g1 s1 z (fun n1 Γ => WpE K w' n1 Γ te u (fun y n2 _ => n2 = n ∧ ys[j]? = some y)))
    (fin : ∀ B1 H1 acc1, Ex B0 B1 → Ok K w n Γ σ B1 H1 → Own w Γ σ B1 H1 (rL u (pre ++ ys)) D → H1 D = some (.lst acc1) → Paired (u.rep B1) acc1 (pre ++ ys) → Nx H1) :
    ∃ W1 : Nat → Nat → Hp → Prop, (∃ m, W1 0 m H0) ∧ ∀ j k H, W1 j k H → (J.stop j H ∧ Nx H) ∨ (J.go j H ∧ ∃ Nx1 : Hp → Prop, (∀ H', Nx1 H' → ∃ k', k' < k ∧ W1 (j + 1) k' H') ∧ ∀ x H', J.yld j H x H' → g1 x (wipe σ vs1) H' fun σ3 H5 => wipe σ3 vs1 = wipe σ vs1 ∧ tYes σ3 H5 fun b H6 =>
        if b = true then te σ3 H6 fun y H7 => ∃ acc, H7 D = some (.lst acc) ∧ acc.length < sizeLine ∧ Nx1 (upd H7 D (.lst (acc ++ [y]))) else Nx1 H6) := by
  refine ⟨fun j k H => k + j = zs.length ∧ ∃ B1 acc, Ex B0 B1 ∧ Ok K w n Γ σ B1 H ∧ Own w Γ σ B1 H (rL u (pre ++ ys.take j)) D ∧ H D = some (.lst acc) ∧ Paired (u.rep B1) acc (pre ++ ys.take j), ?_, ?_⟩
  · exact ⟨zs.length, rfl, B0, acc0, Ex.refl _, o0, by rw [List.take_zero, List.append_nil]; exact ow0, hacc0, by rw [List.take_zero, List.append_nil]; exact pacc0⟩
  · rintro j k H1 ⟨hk, B1, acc, e1, o1, ow1, hacc, pacc⟩
    by_cases hj : j < zs.length
    · refine .inr ⟨it.go j H1 (e1.trans o1.ex) hj, fun H' => ∃ B1 acc, Ex B0 B1 ∧ Ok K w n Γ σ B1 H' ∧ Own w Γ σ B1 H' (rL u (pre ++ ys.take (j + 1))) D ∧ H' D = some (.lst acc) ∧ Paired (u.rep B1) acc (pre ++ ys.take (j + 1)), ?_, ?_⟩
      · rintro H' hN
        exact ⟨k - 1, by omega, by omega, hN⟩
      · intro v H' hy
        obtain ⟨B2, gr, rp⟩ := it.yld j _ H1 B1 v H' (List.getElem?_eq_getElem hj) e1 o1.ex hy
        have o2 := o1.grow gr
        have ow2 := ow1.grow gr
        have hD2 : H' D = some (.lst acc) := gr.h _ _ hacc
        have ned : D ≠ w.d := ow2.ned o2
        have key := hs ⟨w.d, w.ca, w.cs, B2, H'⟩ j _ (List.getElem?_eq_getElem hj) (wipe σ vs1) B2 H' (o2.inner vs1) v rp (fun σ3 H5 => tYes σ3 H5 fun b H6 =>
            if b = true then te σ3 H6 fun y H7 => ∃ acc, H7 D = some (.lst acc) ∧ acc.length < sizeLine ∧ ∃ B1 acc', Ex B0 B1 ∧ Ok K w n Γ σ B1 (upd H7 D (.lst (acc ++ [y]))) ∧ Own w Γ σ B1 (upd H7 D (.lst (acc ++ [y]))) (rL u (pre ++ ys.take (j + 1))) D ∧ (upd H7 D (.lst (acc ++ [y]))) D = some (.lst acc') ∧ Paired (u.rep B1) acc' (pre ++ ys.take (j + 1))
            else ∃ B1 acc, Ex B0 B1 ∧ Ok K w n Γ σ B1 H6 ∧ Own w Γ σ B1 H6 (rL u (pre ++ ys.take (j + 1))) D ∧ H6 D = some (.lst acc) ∧ Paired (u.rep B1) acc (pre ++ ys.take (j + 1))) fun n3 Γ3 σ3 B3 H3 q3 e3 o3 => by
          unfold tYes
          dsimp only
          rw [if_pos rfl]
          refine q3 σ3 B3 H3 o3 _ fun y yv n5 Γ5 B5 H5 ⟨hn, hyj⟩ e5 o5 ry => ?_
          subst hn
          obtain ⟨ok5, hd5, bd5⟩ := o2.backD hD2 ow2.b ned o5.nil
          have ex25 : Ex B2 B5 := e3.trans e5
          have et : ys.take (j + 1) = ys.take j ++ [y] := by rw [List.take_add_one, hyj]; rfl
          have pr : Paired (u.rep B5) (acc ++ [yv]) (pre ++ ys.take (j + 1)) := by
            rw [et, ← List.append_assoc]
            exact pw_snoc (pw_mono (fun _ _ => u.mono (gr.b.trans ex25)) pacc) ry
          have hl : acc.length = pre.length + (ys.take j).length := by rw [pw_len pacc, List.length_append]
          have hl2 : (ys.take j).length ≤ j := List.length_take_le _ _
          refine ⟨acc, hd5, szl (by omega), B5, acc ++ [yv], (e1.trans gr.b).trans ex25, ?_, ?_, upd_same, pr⟩
          · exact ok5.chg bd5 ow1.h0 rfl (fun i e q => .inr ⟨q, ow1.df i e q⟩) (fun x e q => .inr ⟨e, q, fun a ha => ha⟩)
          · exact ⟨⟨_, upd_same, acc ++ [yv], rfl, pr⟩, bd5, ow1.h0, ow1.df⟩
        have key2 := hg1 v (wipe σ vs1) H' _ key
        rw [wipe_wipe] at key2
        exact key2
    · have hj2 : j = zs.length := by omega
      subst hj2
      have et : ys.take zs.length = ys := List.take_of_length_le (by omega)
      rw [et] at ow1 pacc
      exact .inl ⟨it.stop H1 (e1.trans o1.ex), fin B1 H1 acc e1 o1 ow1 hacc pacc⟩
/-- [e for x in xs for z in ..] -/
theorem wm_lc2 {wi wi1 : TI} {g g1 : TG} {vs vs1 : List Nat} {kk : Rs → NK} (u : Ty β) (s1 : Ty γ) (f : α → List β) (hg : GSl g vs) (hg1 : GSl g1 vs1)
    (h : WpI K w n Γ wi t (fun xs n1 Γ => n1 = n ∧ Map3 ((xs.flatMap f).length ≤ 100000) (∀ (w' : Wd) (i : Nat) x, xs[i]? = some x → SetE (hideE Γ vs) fun Γh => WpG K w' n Γh g t x (fun n1 Γ1 => n1 = n ∧ WpI K w' n Γ1 wi1 s1 (fun zs n2 Γ2 => n2 = n ∧ (f x).length = zs.length ∧
      ∀ (w2 : Wd) (j : Nat) z, zs[j]? = some z → SetE (hideE Γ2 vs1) fun Γh => WpG K w2 n Γh g1 s1 z (fun n3 Γ3 => WpE K w2 n3 Γ3 te u (fun y n4 _ => n4 = n ∧ (f x)[j]? = some y)))))
      (kk (rL u (xs.flatMap f)) n Γ))) : WpM K w n Γ (tLc2 wi g tYes wi1 g1 tYes te vs vs1) kk := fun σ B H ok Q c =>
  h σ B H ok _ fun xs J n0 Γ0 B0 H0 ⟨hn0, hz, hs, he⟩ e0 o0 it => by
    subst hn0
    intro D hD
    have hpart : ∀ i, ((xs.take i).flatMap f).length ≤ (xs.flatMap f).length := fun i => by
      conv => rhs; rw [← List.take_append_drop i xs]
      rw [List.flatMap_append, List.length_append]; omega
    refine ⟨fun i m H => m + i = xs.length ∧ ∃ B1 acc, Ex B0 B1 ∧ Ok K w n0 Γ0 σ B1 H ∧ Own w Γ0 σ B1 H (rL u ((xs.take i).flatMap f)) D ∧ H D = some (.lst acc) ∧ Paired (u.rep B1) acc ((xs.take i).flatMap f), ?_, ?_⟩
    · exact ⟨xs.length, rfl, B0, [], Ex.refl _, o0.grow (Grow.open o0.ex hD), Own.new o0 hD ⟨[], rfl, .nil⟩, upd_same, .nil⟩
    · rintro i m H1 ⟨hm, B1, acc, e1, o1, ow1, hacc, pacc⟩
      by_cases hi : i < xs.length
      · refine .inr ⟨it.go i H1 (e1.trans o1.ex) hi, fun H' => ∃ B1 acc, Ex B0 B1 ∧ Ok K w n0 Γ0 σ B1 H' ∧ Own w Γ0 σ B1 H' (rL u ((xs.take (i + 1)).flatMap f)) D ∧ H' D = some (.lst acc) ∧ Paired (u.rep B1) acc ((xs.take (i + 1)).flatMap f), ?_, ?_⟩
        · rintro H' hN
          exact ⟨m - 1, by omega, by omega, hN⟩
        · intro v H' hy
          obtain ⟨B2, gr, rp⟩ := it.yld i _ H1 B1 v H' (List.getElem?_eq_getElem hi) e1 o1.ex hy
          have o2 := o1.grow gr
          have ow2 := ow1.grow gr
          have hD2 : H' D = some (.lst acc) := gr.h _ _ hacc
          have ned : D ≠ w.d := ow2.ned o2
          have ned' : w.d ≠ D := Ne.symm ned
          have et : xs.take (i + 1) = xs.take i ++ [xs[i]] := by rw [List.take_add_one, List.getElem?_eq_getElem hi]; rfl
          have ef : (xs.take (i + 1)).flatMap f = (xs.take i).flatMap f ++ f xs[i] := by rw [et, List.flatMap_append]; simp
          have hsz : ((xs.take i).flatMap f).length + (f xs[i]).length ≤ 100000 := by
            have := hpart (i + 1)
            rw [ef, List.length_append] at this; omega
          have key := hs ⟨w.d, w.ca, w.cs, B2, H'⟩ i _ (List.getElem?_eq_getElem hi) (wipe σ vs) B2 H' (o2.inner vs) v rp (fun σ2 H2 => tYes σ2 H2 fun b H3 =>
            if b = true then wi1 σ2 H3 fun J1 H4 => ∃ W1 : Nat → Nat → Hp → Prop, (∃ m, W1 0 m H4) ∧ ∀ j k H, W1 j k H →
              (J1.stop j H ∧ ∃ B1 acc, Ex B0 B1 ∧ Ok K w n0 Γ0 σ B1 H ∧ Own w Γ0 σ B1 H (rL u ((xs.take (i + 1)).flatMap f)) D ∧ H D = some (.lst acc) ∧ Paired (u.rep B1) acc ((xs.take (i + 1)).flatMap f)) ∨ (J1.go j H ∧ ∃ Nx1 : Hp → Prop, (∀ H', Nx1 H' → ∃ k', k' < k ∧ W1 (j + 1) k' H') ∧ ∀ x H', J1.yld j H x H' → g1 x (wipe σ2 vs1) H' fun σ3 H5 => wipe σ3 vs1 = wipe σ2 vs1 ∧ tYes σ3 H5 fun b H6 =>
                if b = true then te σ3 H6 fun y H7 => ∃ acc, H7 D = some (.lst acc) ∧ acc.length < sizeLine ∧ Nx1 (upd H7 D (.lst (acc ++ [y]))) else Nx1 H6)
            else ∃ B1 acc, Ex B0 B1 ∧ Ok K w n0 Γ0 σ B1 H3 ∧ Own w Γ0 σ B1 H3 (rL u ((xs.take (i + 1)).flatMap f)) D ∧ H3 D = some (.lst acc) ∧ Paired (u.rep B1) acc ((xs.take (i + 1)).flatMap f)) fun n3 Γ3 σ3 B3 H3 ⟨hn3, q3⟩ e3 o3 => by
            subst hn3
            unfold tYes
            dsimp only
            rw [if_pos rfl]
            refine q3 σ3 B3 H3 o3 _ fun zs J1 n4 Γ4 B4 H4 ⟨hn4, hlen, hin⟩ e4 o4 it4 => ?_
            subst hn4
            obtain ⟨_, hd4, bd4⟩ := o2.backD hD2 ow2.b ned o4.nil
            have nS : ∀ {a : Addr}, H' a = none → del H' D a = none := fun {a} z => by
              by_cases ha : a = D
              · subst ha; exact del_same
              · rw [del_ne ha]; exact z
            have o5 : Ok K ⟨w.d, w.ca, w.cs, B2, del H' D⟩ n4 Γ4 σ3 B4 H4 := by
              refine ⟨o4.ex, o4.ex0, fun a x q => (o4.nw a x q).imp_right nS, fun a x q ne => o4.kp a x (del_some q).2 ne, ?_, o4.hh, fun m q => (o4.pn m q).cast rfl rfl rfl, o4.ln, fun i e q => (o4.sl i e q).keep (Ex.refl _) rfl fun a ha => ?_, o4.ds⟩
              · show (del H' D w.d).isSome = true
                rw [del_ne ned']; exact o4.hd
              · obtain ⟨x, h1, h2, h3⟩ := (o4.sl i e q).owned ha
                exact ⟨rfl, h2, nS h3⟩
            have df4 : ∀ (i : Nat) e, Γ4[i]? = some e → ¬ e.owns σ3[i]? D := fun i e q ho => by
              obtain ⟨x, h1, h2, h3⟩ := (o4.sl i e q).owned ho
              have h3 : H' D = none := h3
              rw [hD2] at h3; cases h3
            have pa4 : Paired (u.rep B4) acc ((xs.take i).flatMap f) := pw_mono (fun _ _ => u.mono ((gr.b.trans e3).trans e4)) pacc
            refine lc_inner (w := ⟨w.d, w.ca, w.cs, B2, del H' D⟩) (pre := (xs.take i).flatMap f) (ys := f xs[i]) hg1 hlen hsz o5 ⟨⟨_, hd4, acc, rfl, pa4⟩, bd4, del_same, df4⟩ hd4 pa4 it4 hin fun B7 H7 acc7 e7 o7 ow7 hd7 p7 => ?_
            have hb7 : B7 D = none := ow7.b
            refine ⟨B7, acc7, (e1.trans gr.b).trans (((e3.trans e4).trans e7)), ?_, ?_, hd7, by rw [ef]; exact p7⟩
            · have o8 : Ok K w n4 Γ0 σ B2 (upd H' D (.lst acc7)) := o2.chg ow2.b ow2.h0 rfl (fun i e q => .inr ⟨q, ow2.df i e q⟩) (fun x e q => .inr ⟨e, q, fun a ha => ha⟩)
              refine o8.back ⟨o7.ex, o7.ex0, fun a x q => ?_, fun a x q ne => ?_, o8.hh, o7.hh, fun m q => (o7.pn m q).cast rfl rfl rfl, rfl, fun i e q => by simp at q, fun i j e e' a _ q => by simp at q⟩
              · by_cases ha : a = D
                · subst ha; rw [hb7] at q; cases q
                · rcases o7.nw a x q with z | z
                  · exact .inl z
                  · have z : del H' D a = none := z
                    right
                    show upd H' D (.lst acc7) a = none
                    rw [upd_ne ha]; rw [del_ne ha] at z; exact z
              · have q : upd H' D (.lst acc7) a = some x := q
                by_cases ha : a = D
                · subst ha; rw [upd_same] at q; cases q; exact hd7
                · rw [upd_ne ha] at q
                  exact o7.kp a x (by show del H' D a = some x; rw [del_ne ha]; exact q) ne
            · rw [ef]
              exact ⟨⟨_, hd7, acc7, rfl, p7⟩, hb7, ow1.h0, ow1.df⟩
          have key2 := hg v (wipe σ vs) H' _ key
          rw [wipe_wipe] at key2
          exact key2
      · have hi2 : i = xs.length := by omega
        subst hi2
        rw [List.take_length] at ow1
        exact .inl ⟨it.stop H1 (e1.trans o1.ex), c _ D n0 Γ0 B1 H1 he (e0.trans e1) o1 ow1⟩
end
/-! ### len(o), o[i] that may raise -/
section
variable {X : Cx} {k : Nat} {C : Addr} {m : Str} {ps : List Str} {sp : Sp} {pins : List (Addr × Obj)} {σ : L2.St} {H : Hp} {s : Shared} {W : WX} {a b : Expr} {ta tb td ty : TE} {pos : Pos}
def rLenOwn (C : Addr) (sp : Sp) : List V → Hp → VK → Prop := fun xs H Q => ∃ x, xs = [x] ∧ InsV C x H ∧ sp [x] H (fun v H' => ∃ i : Int, v = .int i ∧ (0 ≤ i ∧ i < 2 ^ 63) ∧ Q (.int i) H') E0
theorem call_lenOwn (c : MethBy X.prog X.w X.K X.mg X.base CX0 k C "__len__" ps sp) (hr : Room (k + 1) X.A) : CallR X (.builtin "len") (rLenOwn C sp) := by
  intro pins s σ H xs us Q I rx h
  obtain ⟨x, hx, ⟨a, dx, fs, hxa, ha⟩, q⟩ := h
  subst hx; subst hxa
  obtain rfl : us = [Value.ref a] := by
    cases rx with
    | cons r1 r2 =>
      cases r2
      cases (show _ = Value.ref a from r1)
      rfl
  obtain ⟨ox, od, J⟩ := ins_look I ha
  obtain ⟨mm, hF⟩ := I.fr
  obtain ⟨f, h1, h2, h3⟩ := run_ownA (A := X.A.in1) c hr.in1 rfl I
  refine PySem.W.len_K hF I.ok.mod.kin J h1 h2 (wpAny_mono (h3 [.ref a] [.ref a] _ (.cons rfl .nil) q) (fun r s' z => ?_) fun _ _ e => e)
  obtain ⟨v, H', I', rv, i, hv, hi, q'⟩ := z
  subst hv
  obtain ⟨t, ht⟩ := (show ∃ t, r = Value.int i t from rv)
  subst ht
  exact ⟨hi, ⟨.int i, H', I'.tok _, ⟨_, rfl⟩, q'⟩⟩
def tIxX (C : Addr) (sp : Sp) (E : L2.St → XK) (ta tb : TE) : TE := fun σ H Q => ta σ H fun x H1 => tb σ H1 fun y H2 => InsV C x H2 ∧ sp [x, y] H2 Q (E σ)
theorem pe_ixOwnX (c : ItmBy X.prog X.w X.K X.mg X.base (L2.CX X.prog X.w) k C "__getitem__" ps sp) (hr : Room (k + 1) X.A) (tk : Takes X W) (ha : PE X a ta) (hb : PE X b tb) (hs : ∀ v i, subscripted b true v i = runValue (.builtin "lifetime.subscript" ⟨[v, i], []⟩)) :
    PE X (.Subscript a b pos) (tIxX C sp (WE W) ta tb) := by
  refine ⟨fun pins s σ H Q I h => ?_⟩
  refine Subscript_ (binT ha hb I h fun v u s2 x y H2 I2 rx ry q => ?_)
  obtain ⟨⟨z, dx, fs, hx, hz⟩, q⟩ := q
  subst hx
  cases (show v = Value.ref z from rx)
  obtain ⟨ox, od, J⟩ := ins_look I2 hz
  obtain ⟨mm, hF⟩ := I2.fr
  obtain ⟨f, fd, h1, h2, h3, h4⟩ := c.ex
  have e0 : Env0 X.prog X.w X.K X.mg X.base X.A.in1 X.stack s2 H2 := by
    have e := I2.env0
    exact ⟨e.frames, e.mod, e.bs, e.bsz, e.funs, e.frf, e.hok, e.bare⟩
  have r2 : Vals [V.ref z, y] [Value.ref z, u] := .cons rfl (.cons ry .nil)
  have hl := h3.len _ _ _ _ q
  refine PySem.W.sub_K hF I2.ok.mod.kin J h1.at_ h2 h1.fn (wpAny_call (codeAny_mono (h3.run X.A.in1 X.stack s2 H2 ⟨[.ref z, u], []⟩ [.ref z, u] [.ref z, y] _ _ hr.in1 e0 (by
    have := h4 s2 [.ref z, u] I2.kIn (by rw [List.append_nil, ← r2.length]; exact hl)
    simpa using this) r2 q) fun r s' hq => ?_)) (hs _ _)
  cases r with
  | error e => exact passAt tk σ pins H2 s2 e s' I2 hq
  | ok fl =>
    cases fl with
    | ret w => exact I2.after hq
    | next => exact False.elim hq
    | brk => exact False.elim hq
    | cont => exact False.elim hq
theorem op_catAK (K : Frag) (hK : X.K = K) : OpR X (binaryOp .Add) (rCatA K) := by subst hK; exact op_catA
/-- lists that are equal by their items' own == -/
theorem rcG_rows {D : EqvB} (hD : MonB D) (h : EqB X k D) : RcG X (k + 1) (DList fun x y H => D x y H true) :=
  rcG_list (fun x y H H' e d => hD x y H H' true e d) fun A pins s σ H x y u v sb I rx ry d => h A pins s σ H x y u v true sb I rx ry d
end
section
variable {K : Frag} {w : Wd} {n : Option Nat} {Γ Γ' : Env} {α β γ δ ρ A : Type} {t : Ty α} {u : Ty β} {ta tb te td ty : TE} {W : WX} {xp : Err → NK}
theorem we_lenO {S : FS K} {sp : Sp} (sub : ∀ vs H Q X, S.sp vs H Q X → sp vs H Q X) {C : Addr} {flds : α → Flds} (f : S.ρ → Int) (hres : S.res = fun x => .im tI (f x)) (hc : S.cost = 0) (up : α → S.A) (hup : ∀ {d B v a}, (tObj C flds).rep B v a → S.args.rep d B [v] (up a)) {k : Int → NK}
    (h : WpE K w n Γ ta (tObj C flds) (fun a n Γ => S.pre (up a) ∧ ∀ x, S.post (up a) x → (0 ≤ f x ∧ f x < 2 ^ 63) ∧ k (f x) n Γ)) : WpE K w n Γ (tCB (rLenOwn C sp) (tCons ta tNil)) tI k := fun σ B H ok Q c =>
  h σ B H ok _ fun a v1 n1 Γ1 B1 H1 ⟨hp, q⟩ e1 o1 r1 => by
    refine ⟨v1, rfl, insV_obj r1 o1.ex, sub _ _ _ _ ⟨w.d, w.ca, w.cs, n1, B1, up a, o1.entry, hup r1, hp, .inl hc, fun x v n' B' H' hx hcc e' o' sl => ?_⟩⟩
    rw [hres] at sl
    obtain ⟨v', h1, h2⟩ := sl
    cases h1
    have hn : n' = n1 := by
      rcases hcc with ⟨_, z⟩ | ⟨m, z1, z2⟩
      · exact z
      · rw [z1, z2, hc]; rfl
    subst hn
    obtain ⟨q1, q2⟩ := q x hx
    exact ⟨f x, h2, q1, c _ _ n' Γ1 B' H' q2 (e1.trans e') (o1.back o') rfl⟩
/-- o[i], which may raise -/
theorem we_ixXO {S : FX K} {C : Addr} {flds : α → Flds} {s : Ty S.ρ} {k : S.ρ → NK} (hW : Wish K w xp W) (up : α → β → S.A) (hup : ∀ {d B v1 v2 a b}, (tObj C flds).rep B v1 a → u.rep B v2 b → S.args.rep d B [v1, v2] (up a b)) (hres : S.res = fun x => .im s x)
    (h : WpE K w n Γ ta (tObj C flds) (fun a n Γ => WpE K w n Γ tb u (fun b n Γ => S.pre (up a b) ∧ May S.cost n ∧ (∀ r n', S.post (up a b) r → Costs S.cost n n' → k r n' Γ) ∧ ∀ er n', S.xpost (up a b) er → Costs S.cost n n' → xp er n' Γ))) : WpE K w n Γ (tIxX C S.sp (WE W) ta tb) s k := fun σ B H ok Q c =>
  h σ B H ok _ fun a v1 n1 Γ1 B1 H1 q1 e1 o1 r1 => q1 σ B1 H1 o1 _ fun b v2 n2 Γ2 B2 H2 ⟨hp, hm, q, qx⟩ e2 o2 r2 => by
    refine ⟨insV_obj ((tObj C flds).mono e2 r1) o2.ex, w.d, w.ca, w.cs, n2, B2, up a b, o2.entry, hup ((tObj C flds).mono e2 r1) r2, hp, hm, fun r v' n' B' H' hx hcc e' o' sl => ?_, fun er cls dd n' B' H' hx hc e' o' r' => hW cls dd er n' Γ2 σ B' H' (qx er n' hx hc) (o2.back o') r'⟩
    rw [hres] at sl
    obtain ⟨v2', g1, g2⟩ := sl
    cases g1
    exact c r v' n' Γ2 B' H' (q r n' hx hcc) ((e1.trans e2).trans e') (o2.back o') g2
/-- the kind exchanged, as the datum allows -/
theorem we_as {k : β → NK} (h : WpE K w n Γ te t (fun x n Γ => ∃ y, (∀ {B v}, t.rep B v x → u.rep B v y) ∧ k y n Γ)) : WpE K w n Γ te u k := fun σ B H ok Q c => h σ B H ok Q fun x v n' Γ' B' H' ⟨y, hr, q⟩ e o r => c y v n' Γ' B' H' q e o (hr r)
/-- a tuple and a tuple -/
theorem we_catU {k : List α → NK} (h : WpE K w n Γ ta (tU t) (fun xs n Γ => WpE K w n Γ tb (tU t) (fun ys n Γ => xs.length + ys.length ≤ 100000 ∧ k (xs ++ ys) n Γ))) : WpE K w n Γ (tOp (rCatA K) ta tb) (tU t) k := fun σ B H ok Q c =>
  h σ B H ok _ fun xs v1 n1 Γ1 B1 H1 q1 e1 o1 r1 => q1 σ B1 H1 o1 _ fun ys v2 n2 Γ2 B2 H2 ⟨hz, q⟩ e2 o2 r2 => by
    obtain ⟨a, va, ha, hsa, pa⟩ := (tU t).mono e2 r1
    obtain ⟨b, vb, hb, hsb, pb⟩ := r2
    have la := pw_len pa
    have lb := pw_len pb
    refine ⟨a, b, va, vb, ha, hb, SqT.of (o2.ex _ _ hsa), SqT.of (o2.ex _ _ hsb), by rw [la, lb]; exact sz hz, fun hx => ?_, fun hx hy => ?_, fun hx hy p hp => ?_⟩
    · have hxs : xs = [] := by subst hx; exact List.length_eq_zero_iff.mp (by simpa using la.symm)
      subst hxs
      exact c _ _ n2 Γ2 B2 H2 q (e1.trans e2) o2 ⟨b, vb, rfl, hsb, pb⟩
    · have hys : ys = [] := by subst hy; exact List.length_eq_zero_iff.mp (by simpa using lb.symm)
      subst hys
      rw [List.append_nil] at q
      exact c _ _ n2 Γ2 B2 H2 q (e1.trans e2) o2 ⟨a, va, rfl, hsa, pa⟩
    · have eb : Ex B2 (upd B2 p (.tup (va ++ vb))) := Ex.new (o2.ex.none hp)
      exact c _ _ n2 Γ2 _ _ q ((e1.trans e2).trans eb) (o2.grow (Grow.new o2.ex hp)) ⟨p, _, rfl, upd_same, pw_app (pw_mono (fun _ _ => t.mono eb) pa) (pw_mono (fun _ _ => t.mono eb) pb)⟩
/-- association lists of data of one kind -/
def flP (t : Ty α) (l : List (Str × α)) : Flds := l.map fun p => (p.1, ⟨t, p.2⟩)
theorem flP_get {t : Ty α} {f : Str} : ∀ {l : List (Str × α)}, (flP t l).lookup f = (l.lookup f).map fun x => ⟨t, x⟩
  | [] => rfl
  | (g, x) :: l => by
    show List.lookup f ((g, _) :: flP t l) = _
    simp only [List.lookup]
    cases f == g
    · exact flP_get
    · rfl
/-- d.get(f) -/
theorem we_get1P {k : Option α → NK} (h : WpE K w n Γ td (tSD (flP t)) (fun l n Γ => WpE K w n Γ ty tS (fun f n Γ => k (l.lookup f) n Γ))) : WpE K w n Γ (tDGet1 td ty) (tO t) k := fun σ B H ok Q c =>
  h σ B H ok _ fun l v n1 Γ1 B1 H1 q1 e1 o1 ⟨a, kv, hv, hs, p⟩ => by
    subst hv
    refine ⟨a, rfl, .inl ⟨kv, .inl (o1.ex _ _ hs)⟩, q1 σ B1 H1 o1 _ fun f v2 n2 Γ2 B2 H2 q2 e2 o2 r2 => ?_⟩
    have r2 : v2 = .str f := r2
    subst r2
    have pf := p f
    rw [flP_get] at pf
    have q2 : k (l.lookup f) n2 Γ2 := q2
    cases hl : l.lookup f with
    | none =>
      rw [hl] at pf q2
      have hn := pf.1 rfl
      refine ⟨none, ⟨kv, .inr f, .inl (o2.ex _ _ (e2 _ _ hs)), rfl, hn.symm⟩ |> .inl, c _ _ n2 Γ2 B2 H2 q2 (e1.trans e2) o2 rfl⟩
    | some x =>
      rw [hl] at pf q2
      obtain ⟨vx, g1, g2⟩ := pf.2 _ rfl
      exact ⟨some vx, .inl ⟨kv, .inr f, .inl (o2.ex _ _ (e2 _ _ hs)), rfl, g1.symm⟩, c _ _ n2 Γ2 B2 H2 q2 (e1.trans e2) o2 (t.mono e2 g2)⟩
end
end TL

/-! # TL: texts: isdigit, removeprefix, int(text), str(int) of many digits; a, *b = list; the module's own tables; class methods; enumerate(.., start=1) -/
namespace TxN
open PySem PySem.Calls PySem.NumText PyProof.Rows
theorem nodigits_of {K : PySem.W.Frag} {h : Heap} (X : K.In h) (e : PySem.W.nsIn K cStatics "sys.int_max_str_digits" = some none) (o : PySem.W.nsOkIn K cStatics = true) : h.NoDigits :=
  ⟨_, .of_isNs (PySem.W.isNs_of_in X o), PySem.W.nsMap_none_of_in X o e⟩
theorem wp_textL {M : Model} {A : Around} {E : Value → Shared → Prop} {s : Shared} {Q : Value → Shared → Prop} {v : Value} {text : List Nat} {n : Int} (hd : s.heap.NoDigits)
    (hs : ¬ (text.takeWhile (· != 0)).length ≤ 640) (hr : (int_private% "readNumeral") 4300 10 (text.takeWhile (· != 0)) = (int_private% "Numeral.value") n)
    (ha : ((text.takeWhile (· != 0)).length == text.length) = true) (h : Q (.int n s.toks) { s with toks := s.toks + 1 }) :
    wpAny M A ((int_private% "intFromText") v text 10) Q E s := by
  obtain ⟨mc, hns, hmc⟩ := hd
  obtain ⟨hp, g, d, tk, os⟩ := s
  change hp.Ns cStatics mc at hns
  have e0 : (if (text.takeWhile (· != 0)).length ≤ 640 then (pure 0 : Sem Nat) else Builtin.intMaxStrDigits) = Builtin.intMaxStrDigits := if_neg hs
  have e1 : ∀ {A : Around} {E : Value → Shared → Prop} {Q : Nat → Shared → Prop}, Q 4300 ⟨hp, g, d, tk, os⟩ → wpAny M A Builtin.intMaxStrDigits Q E ⟨hp, g, d, tk, os⟩ := fun {A E Q} q => by
    unfold Builtin.intMaxStrDigits
    refine wpAny_bind (wpAny_nsGet hns ?_)
    rw [hmc]
    exact wpAny_pure q
  clear hns
  repeat (any_goals (first
    | assumption
    | (rw [e0])
    | (with_reducible refine e1 ?_)
    | (with_reducible refine wpAny_ite_true (decide_eq_true ha) ?_)
    | wp_step))
  all_goals (try rw [hr])
  all_goals (try dsimp only)
  repeat (any_goals (first
    | assumption
    | (with_reducible refine wpAny_ite_true (decide_eq_true ha) ?_)
    | wp_step))
structure Hid (p : Prop) : Prop where
  out : p
theorem gives_textL {x : PySem.Str} {u : Tok} {n : Int} (hl : ¬ (numSeenOf x).length ≤ 640) (hx : x.length ≤ sizeLine) (hn : PySem.intText? x = some n) :
    Meets (Builtin.«int.__new__» ⟨[.type "int", .str x u], []⟩) (fun _ R s => s.heap.NoDigits ∧ R (.ok (.ret (.int n s.toks))) { s with toks := s.toks + 1 }) :=
  Meets.of_wp fun prog w A R s h => by
    obtain ⟨hp, g, d, tk, os⟩ := s
    obtain ⟨hd, h⟩ := h
    have f1 := F.conv_sub_int
    have f2 := F.madeHere_int
    have f3 := PySem.W.KIN.str_int
    have f4 := PySem.W.KIN.str_idx
    have f5 := PySem.W.KIN.str_trunc
    have f6 : typeOf (.str x u) = pure (.type "str") := rfl
    have hr : (int_private% "readNumeral") 4300 10 (numSeenOf x) = (int_private% "Numeral.value") n ∧ ((numSeenOf x).length == (numTextOf x).length) = true := by
      rcases read4300 x hx with ⟨m, h1, h2, h3⟩ | ⟨h1, _⟩
      · rw [hn] at h1
        injection h1 with h1
        subst h1
        exact ⟨h3, h2⟩
      · rw [hn] at h1
        cases h1
    have hk := Hid.mk (And.intro hl hr)
    have hD := Hid.mk hd
    clear hr hl hn hd
    repeat (any_goals (first
      | assumption
      | ((with_reducible show wpAny _ _ ((int_private% "intFromText") _ _ _) _ _ _); refine wp_textL hD.out hk.out.1 hk.out.2.1 hk.out.2.2 ?_)
      | wp_step))
    all_goals first | exact ⟨_, rfl, h⟩ | skip
section
variable {prog : Program} {w : World} {A : Around} {E : Value → Shared → Prop} {s : Shared} {Q : Value → Shared → Prop} {x : PySem.Str} {t : Tok} {n : Int}
theorem gives_short {x : PySem.Str} {u : Tok} {n : Int} (hs : (numSeenOf x).length ≤ 640) (hn : PySem.intText? x = some n) : Gives (Builtin.«int.__new__» ⟨[.type "int", .str x u], []⟩) (.int n) :=
  .of_wp fun M A E s Q h => by
    obtain ⟨hp, g, d, tk, os⟩ := s
    have f1 := F.conv_sub_int
    have f2 := F.madeHere_int
    have f3 := PySem.W.KIN.str_int
    have f4 := PySem.W.KIN.str_idx
    have f5 := PySem.W.KIN.str_trunc
    have f6 : typeOf (.str x u) = pure (.type "str") := rfl
    have hr : (int_private% "readNumeral") 0 10 (numSeenOf x) = (int_private% "Numeral.value") n ∧ ((numSeenOf x).length == (numTextOf x).length) = true := by
      rcases read0 x hs with ⟨m, h1, h2, h3⟩ | ⟨h1, _⟩
      · rw [hn] at h1
        injection h1 with h1
        subst h1
        exact ⟨h3, h2⟩
      · rw [hn] at h1
        cases h1
    have hk := Hid.mk (And.intro hs hr)
    clear hs hr hn
    repeat (any_goals (first
      | assumption
      | ((with_reducible show wpAny _ _ ((int_private% "intFromText") _ _ _) _ _ _); refine PySem.W.KIN.wp_text hk.out.1 hk.out.2.1 hk.out.2.2 ?_)
      | wp_step))
    all_goals first | exact ⟨_, rfl, h⟩ | skip
theorem call_textL (hn : PySem.intText? x = some n) (hx : x.length ≤ sizeLine) (hd : s.heap.NoDigits) (h : Q (.int n s.toks) { s with toks := s.toks + 1 }) : wpAny (model prog w) A (call (.type "int") [.str x t]) Q E s := by
  by_cases hl : (numSeenOf x).length ≤ 640
  · exact call_int_1 (gives_short hl hn).meets (show (Made.int n).post _ s from ⟨rfl, h⟩)
  · exact call_int_1 (gives_textL hl hx hn) ⟨hd, ⟨rfl, h⟩⟩
end
end TxN
namespace TZ
open PySem PySem.Spec PyProof.Rows L2
open PySem.W (Frag)
open AutoSeq1 (wpAny_loadPart')
section
variable {prog : Program} {w : World} {A : Around} {E : Value → Shared → Prop} {s : Shared}
theorem enum_nextC {k : Sk} {e it a : Addr} {i : Nat} {c : Int} {xs : Array Value} {x old : Value} {Q : Value → Shared → Prop} (he : IsEnum s.heap e it c old) (p : ItAt k s.heap it a i) (q : SqAt k s.heap a xs) (hx : xs[i]? = some x) (hne : e ≠ it)
    (hQ : ∀ g, IsEnumOut g e it (c + 1) x s.heap.objs.size → ItAt k g it a (i + 1) → g.get? s.heap.objs.size = some { cls := .type "tuple", data := .seq #[.int c s.toks, x] } → g.objs.size = s.heap.objs.size + 1 →
      (∀ b o, b ≠ e → b ≠ it → s.heap.get? b = some o → g.get? b = some o) → Q (.ref s.heap.objs.size) { s with heap := g, toks := s.toks + 1 }) :
    wpAny (model prog w) A (Builtin.«enumerate.__next__» ⟨[.ref e], []⟩) (fun fin s' => ∃ v, fin = .done (.ret v) ∧ Q v s') E s := by
  obtain ⟨hp, gg, d, tk, os⟩ := s
  show wpAny _ _ (field (.ref e) 2 >>= _) _ _ _; refine wpAny_bind (wpAny_field he rfl (x := .ref it) rfl ?_)
  refine wpAny_bind (nxt_item p q hx fun g1 p1 e1 => ?_)
  replace e1 : Heap.SameBut it hp g1 := e1
  have he1 : IsEnum g1 e it c old := (e1.2 e hne).trans he
  show wpAny _ _ (field (.ref e) 3 >>= _) _ _ ⟨g1, gg, d, tk, os⟩; refine wpAny_bind (wpAny_field he1 rfl (x := rawInt c) rfl ?_)
  show wpAny _ _ (field (.ref e) 4 >>= _) _ _ ⟨g1, gg, d, tk, os⟩; refine wpAny_bind (wpAny_field he1 rfl (x := .none) rfl ?_)
  show wpAny _ _ (mkInt c >>= _) _ _ ⟨g1, gg, d, tk, os⟩; refine wpAny_bind (wpAny_mkInt ?_)
  show wpAny _ _ (setField (.ref e) 3 (rawInt (c + 1)) >>= _) _ _ ⟨g1, gg, d, tk + 1, os⟩; refine wpAny_bind (wpAny_setField_rec he1 (by simp) fun g2 he2 e2 => ?_)
  replace e2 : Heap.SameBut e g1 g2 := e2
  replace he2 : IsEnum g2 e it (c + 1) old := he2
  show wpAny _ _ (setField (.ref e) 4 .none >>= _) _ _ ⟨g2, gg, d, tk + 1, os⟩; refine wpAny_bind (wpAny_setField_rec he2 (by simp) fun g3 he3 e3 => ?_)
  replace e3 : Heap.SameBut e g2 g3 := e3
  replace he3 : IsEnum g3 e it (c + 1) old := he3
  show wpAny _ _ (newTuple [.int c tk, x] >>= _) _ _ ⟨g3, gg, d, tk + 1, os⟩; refine wpAny_bind (wpAny_newTuple ?_)
  have he4 : IsEnum (g3.push { cls := .type "tuple", data := .seq #[.int c tk, x] }) e it (c + 1) old := Heap.get?_push_of_some _ he3
  generalize hg4 : g3.push { cls := .type "tuple", data := .seq #[.int c tk, x] } = g4 at he4
  have sz3 : g3.objs.size = hp.objs.size := by rw [e3.1, e2.1, e1.1]
  have el : e < hp.objs.size := Heap.lt_size he
  have t4 : g4.get? hp.objs.size = some { cls := .type "tuple", data := .seq #[.int c tk, x] } := by rw [← hg4, ← sz3]; exact Heap.get?_push_size _ rfl
  have z4 : g4.objs.size = hp.objs.size + 1 := by rw [← hg4, Heap.size_push, sz3]
  have k4 : ∀ b o, b ≠ e → b ≠ it → hp.get? b = some o → g4.get? b = some o := fun b o h1 h2 hb => by
    rw [← hg4]; exact Heap.get?_push_of_some _ (e3.extBut b o h1 (e2.extBut b o h1 (e1.extBut b o h2 hb)))
  have p4 : ItAt k g4 it a (i + 1) := by
    rw [← hg4]; exact p1.go fun o q => Heap.get?_push_of_some _ (e3.extBut it o hne.symm (e2.extBut it o hne.symm q))
  show wpAny _ _ (Builtin.SmallTypes.ownedTupleIsFree (.ref e) >>= _) _ _ ⟨g4, gg, d, tk + 1, os⟩
  rw [sz3]
  clear hg4 he3 e3 he2 e2 he1 e1 p1 sz3 g3 g2 g1
  refine wpAny_bind ?_; unfold Builtin.SmallTypes.ownedTupleIsFree
  refine wpAny_bind (wpAny_field he4 rfl (x := .none) rfl (wpAny_pure ?_)); simp only [if_true]
  refine wpAny_bind (wpAny_rule (wpAny_bind (wpAny_field he4 rfl (x := old) rfl (wpAny_bind (wpAny_setField_rec he4 (by simp) fun g5 he5 e5 => ?_)))))
  replace e5 : Heap.SameBut e g4 g5 := e5
  replace he5 : IsEnum g5 e it (c + 1) x := he5
  show wpAny _ _ (Builtin.SmallTypes.ownedTupleHandOut (.ref e) (.ref hp.objs.size) >>= _) _ _ ⟨g5, gg, d, tk + 1, os⟩; refine wpAny_bind ?_; unfold Builtin.SmallTypes.ownedTupleHandOut
  refine wpAny_bind (wpAny_setField_rec he5 (by simp) fun g6 he6 e6 => ?_)
  replace e6 : Heap.SameBut e g5 g6 := e6
  replace he6 : IsEnumOut g6 e it (c + 1) x hp.objs.size := he6
  refine wpAny_setField_rec he6 (by simp) fun g7 he7 e7 => ?_
  replace e7 : Heap.SameBut e g6 g7 := e7
  replace he7 : IsEnumOut g7 e it (c + 1) x hp.objs.size := he7
  have up : ∀ b o, b ≠ e → g4.get? b = some o → g7.get? b = some o := fun b o h1 q => e7.extBut b o h1 (e6.extBut b o h1 (e5.extBut b o h1 q))
  exact wpAny_bind (wpAny_letGo (wpAny_pure ⟨_, rfl, hQ g7 he7 (p4.go fun o q => up it o hne.symm q) (up _ _ (Nat.ne_of_gt el) t4) (by rw [e7.1, e6.1, e5.1, z4]) fun b o h1 h2 hb => up b o h1 (k4 b o h1 h2 hb)⟩))
theorem pyNext_enumC {k : Sk} {e it a : Addr} {i : Nat} {c : Int} {xs : Array Value} {x old : Value} {Q : Option Value → Shared → Prop} (he : IsEnum s.heap e it c old) (p : ItAt k s.heap it a i) (q : SqAt k s.heap a xs) (hx : xs[i]? = some x) (hne : e ≠ it)
    (hQ : ∀ g, IsEnumOut g e it (c + 1) x s.heap.objs.size → ItAt k g it a (i + 1) → g.get? s.heap.objs.size = some { cls := .type "tuple", data := .seq #[.int c s.toks, x] } → g.objs.size = s.heap.objs.size + 1 →
      (∀ b o, b ≠ e → b ≠ it → s.heap.get? b = some o → g.get? b = some o) → Q (some (.ref s.heap.objs.size)) { s with heap := g, toks := s.toks + 1 }) : wpAny (model prog w) A (pyNext (.ref e)) Q E s := by
  have hT : s.TypeIs (.ref e) "enumerate" := ⟨_, he, rfl⟩
  unfold pyNext
  exact wpAny_bind (wpAny_attempt (wpAny_callSpecial?_slot (name := Str.ofString "__next__") hT F.slot_enumerate_next (wpAny_call_entry F.slot_enumerate_next hT F.entry_enumerate_next
    (enum_nextC he p q hx hne fun g a1 a2 a3 a4 a5 => wpAny_pure (hQ g a1 a2 a3 a4 a5)) (F.args_enumerate_next_1 _))))
theorem pyNext_enumStopC {k : Sk} {e it a : Addr} {i : Nat} {c : Int} {xs : Array Value} {old : Value} {Q : Option Value → Shared → Prop} (hh : A.handled = none) (he : IsEnum s.heap e it c old) (p : ItAt k s.heap it a i) (q : SqAt k s.heap a xs) (hx : xs[i]? = none)
    (hQ : ∀ g, Heap.ExtBut it s.heap g → Q none { s with heap := g }) : wpAny (model prog w) A (pyNext (.ref e)) Q E s := by
  have hT : s.TypeIs (.ref e) "enumerate" := ⟨_, he, rfl⟩
  unfold pyNext
  refine wpAny_bind (wpAny_attempt (wpAny_callSpecial?_slot (name := Str.ofString "__next__") hT F.slot_enumerate_next (wpAny_call_entry F.slot_enumerate_next hT F.entry_enumerate_next ?_ (F.args_enumerate_next_1 _))))
  show wpAny _ _ (field (.ref e) 2 >>= _) _ _ _; refine wpAny_bind (wpAny_field he rfl (x := .ref it) rfl ?_)
  refine wpAny_bind (nxt_end hh p q hx fun g x hk hs => ?_)
  obtain ⟨o, h1, h2⟩ := hs
  exact wpAny_bind (wpAny_isInstance (T := "StopIteration") (b := true) ⟨o, h1, h2⟩ isSubtype_stop (wpAny_pure (hQ _ hk)))
end
def IteS (K : Frag) (k : Sk) (z : Int) (a : Addr) : It :=
  ⟨fun i H => ∃ (xs : List V) (x : V), SqK k K H a xs ∧ xs[i]? = some x, fun i H v H' => ∃ T x, v = .ref T ∧ H T = none ∧ H' = upd H T (.tup [.int ((i : Nat) + z), x]) ∧ ∀ xs, SqK k K H a xs → xs[i]? = some x, fun i H => ∃ xs : List V, SqK k K H a xs ∧ xs.length ≤ i⟩
theorem turn_enumS {P : Program} {w : World} {K : Frag} {elts : List Expr} {kk : Nat} {tpos : Pos} {k : Sk} (z : Int) (a e it : Addr) :
    Turn P w K (.Tuple elts kk tpos) (IteS K k z a) [e, it] e (fun i h => (∃ old, IsEnum h e it (((i : Nat) : Int) + z) old) ∧ ItAt k h it a i ∧ e ≠ it) where
  mem := by simp
  obj := fun i h ⟨⟨old, he⟩, p, _⟩ b hb => by
    obtain ⟨o, e1, _, d1⟩ := p.ob
    have e' : b = e ∨ b = it := by simpa using hb
    rcases e' with q | q <;> subst q
    · exact ⟨_, he, fun v q => nomatch q⟩
    · exact ⟨o, e1, fun v q => by rw [d1] at q; cases q⟩
  keep := fun i h h' ⟨⟨old, he⟩, p, ne⟩ q => ⟨⟨old, q e (by simp) _ he⟩, p.go fun o z => q it (by simp) o z, ne⟩
  item := by
    intro X hP hw hK hc i pins s σ H E I hf st hg
    subst hP hw hK
    obtain ⟨⟨old, he⟩, p, ne⟩ := st
    obtain ⟨xs, x, hq, hx⟩ := hg
    obtain ⟨its, rv, q1⟩ := hq.at I
    obtain ⟨u, hu, ru⟩ := rv.get hx
    have el : e < s.heap.objs.size := Heap.lt_size he
    obtain ⟨o1, e1, _⟩ := p.ob
    refine pyNext_enumC he p q1 (x := u) (by simpa using hu) ne fun g ho p' hT hs rk => ?_
    refine ⟨_, rfl, wpAny_letOwnedTupleGo_enum (s := { s with heap := g, toks := s.toks + 1 }) ho fun g2 he' sb => ?_⟩
    have t2 : g2.get? s.heap.objs.size = some { cls := .type "tuple", data := .seq #[.int (i + z) s.toks, u] } := (sb.2 _ (Nat.ne_of_gt el)).trans hT
    have new : ObjOk X.prog X.w (upd H s.heap.objs.size (.tup [.int ((i : Nat) + z), x])) g2 s.heap.objs.size (.tup [.int ((i : Nat) + z), x]) := ⟨(by decide : 2 ≤ sizeLine), [.int (i + z) s.toks, u], .cons ⟨_, rfl⟩ (.cons ru .nil), ⟨_, t2, rfl, _, rfl⟩⟩
    have I1 : Inv X pins σ (upd H s.heap.objs.size (.tup [.int ((i : Nat) + z), x])) { s with heap := g2, toks := s.toks + 1 } := I.turnedNew (ch := [e, it])
      (fun b ob hb q => (sb.2 b (fun z => hb (by simp [z]))).trans (rk b ob (fun z => hb (by simp [z])) (fun z => hb (by simp [z])) q)) hf (Nat.le_refl _) new
    refine ⟨.ref s.heap.objs.size, _, I1, rfl, ⟨_, x, rfl, I.hok.fresh (Nat.le_refl _), rfl, fun ys hy => by rw [hy.inj I hq]; exact hx⟩, ⟨⟨u, ?_⟩, p'.go fun o q => (sb.2 it ne.symm).trans q, ne⟩, fun b hb => ?_⟩
    · have e1 : ((i + 1 : Nat) : Int) + z = (i : Int) + z + 1 := by omega
      rw [e1]; exact he'
    · have lt : b < s.heap.objs.size := by
        have e' : b = e ∨ b = it := by simpa using hb
        rcases e' with q | q <;> subst q
        · exact el
        · exact Heap.lt_size e1
      rw [upd_ne (Nat.ne_of_lt lt)]
      exact (hf b hb).1
  done := by
    intro X hP hw hK hc i pins s σ H E I hf st hg
    subst hP hw hK
    obtain ⟨⟨old, he⟩, p, ne⟩ := st
    obtain ⟨xs, hq, hx⟩ := hg
    obtain ⟨its, rv, q1⟩ := hq.at I
    obtain ⟨f0, f1, f2, f3, f4, f5⟩ := hf it (by simp)
    have l1 := rv.length
    exact pyNext_enumStopC (I.ok.hd hc) he p q1 (by simp; omega) fun g rk => ⟨rfl, I.turned (t' := s.toks) (fun b o hb q => rk b o hb q) f0 f1 f3 f4 f5⟩
  self := fun A i s Q E st h => let ⟨⟨_, he⟩, _⟩ := st; wpAny_pyIter_enum he h

section
variable {M : Model} {A : Around} {E : Value → Shared → Prop} {s : Shared} {env : PySem.Env}
theorem callWith_type_kwB {pos : Pos} {T : String} {first : List Value} {args : List (Bool × Sem Value)} {keywords : List (Option Str × Sem Value)} {Q : Value → Shared → Prop}
    (hplain : args.any (·.1) = false) (hkw : keywords.any (·.1.isNone) = false)
    (h : wpAny M A (evalArgs (.type T) true args keywords) (fun a s₁ => wpAny M A (call (.type T) (first ++ a.pos) a.kw) Q E s₁) E s) :
    wpAny M A (callWith pos (.type T) first args keywords) Q E s := by
  unfold callWith
  refine wpAny_bind (wpAny_holding (wpAny_mono h (fun a s₁ h₁ => wpAny_bind (wpAny_standAt ?_)) fun _ _ x => x))
  simp only [hplain, hkw, Bool.or_false]
  refine wpAny_bind (wpAny_pure ?_)
  exact wpAny_bind (wpAny_mono h₁ (fun r s₂ hr => wpAny_bind (wpAny_holding (wpAny_point (wpAny_pure hr)))) fun _ _ x => x)
theorem callWith_typeK {pos : Pos} {T : String} {e : Expr} {rest : List Expr} {kws : List Keyword} {Q : Value → Shared → Prop}
    (h : wpAny M A (spliced (backTo pos (starEach (e :: rest) env))) (fun vs s₁ => wpAny M A (evalAll ((backToKw pos (keywordEach kws env)).map (·.2)))
      (fun kvs s₂ => wpAny M A (call (.type T) vs (((backToKw pos (keywordEach kws env)).filterMap (·.1)).zip kvs)) Q E s₂) E s₁) E s)
    (he : backTo pos (starEach (e :: rest) env) = (false, eval e env) :: backTo pos (starEach rest env) := by rfl)
    (hplain : (backTo pos (starEach (e :: rest) env)).any (·.1) = false := by rfl)
    (hall : (backToKw pos (keywordEach kws env)).all (·.1.isSome) = true := by rfl)
    (hkw : (backToKw pos (keywordEach kws env)).any (·.1.isNone) = false := by rfl) :
    wpAny M A (callWith pos (.type T) [] (backTo pos (starEach (e :: rest) env)) (backToKw pos (keywordEach kws env))) Q E s := by
  refine callWith_type_kwB hplain hkw ?_
  rw [he] at h ⊢
  exact evalArgs_kwB hall h
end
def iEnumS (K : Frag) (z : Int) (ta : TA) : TI := fun σ H R => ta σ H fun vs H1 => ∃ a xs, vs = [.ref a] ∧ SqK .l K H1 a xs ∧ R (IteS K .l z a) H1
/-- enumerate(list, start=z) -/
theorem pi_enumS {X : Cx} {e : Expr} {ta : TA} {p pos tpos c0 kp : Pos} {elts : List Expr} {kk j : Nat} {z : Int} (hg : Gl X "enumerate") (hm : X.mg "enumerate" = none) (ha : PA X [e] ta) (h0 : -(2 ^ 63) ≤ z) (h1 : z < 2 ^ 63) (hs : backTo pos (starEach [e] X.env) = (false, eval e X.env) :: backTo pos (starEach [] X.env) := by rfl) :
    PI X (.Tuple elts kk tpos) (.Call (.Name "enumerate" p) [e] [⟨some "start", .Constant (.int z) j c0, kp⟩] pos) (iEnumS X.K z ta) := by
  refine ⟨fun pins s σ H R I h => ?_⟩
  refine wpAny_Call_Name_kw (ld_blt I hg hm boot_enumerate ?_)
  refine callWith_typeK (thn (ha.run pos pins s σ H _ I h) fun us s1 ⟨vs, H1, I1, r1, q1⟩ => ?_) hs (by rw [hs]; rfl)
  obtain ⟨a, xs, ex, hq, q⟩ := q1
  subst ex
  cases r1 with
  | cons r rr =>
    cases rr
    cases r
    have pk := (_root_.L2.pk_cons (X := X) (nm := some "start") (kpos := kp) (_root_.L2.pe_int (X := X) (i := z) (j := j) (pos := c0)) _root_.L2.pk_nil).run pos pins s1 σ H1 (fun ws H2 => ws = [.int z] ∧ H2 = H1) I1 ⟨rfl, rfl⟩
    refine thn pk fun ws s2 ⟨zs, H2, I2, rz, e1, e2⟩ => ?_
    subst e1; subst e2
    cases rz with
    | cons rz rr =>
      cases rr
      obtain ⟨t, rfl⟩ := rz
      obtain ⟨its, rv, q1⟩ := hq.at I2
      refine enum_begins_start (begins_list a _) q1 h0 h1 fun g he ho hsz rk => wpAny_pyIter_enum he ?_
      have I3 := I2.kept (t' := s2.toks) rk
      refine ⟨s2.heap.objs.size + 1, [s2.heap.objs.size + 1, s2.heap.objs.size], _, _, _, rfl, I3, turn_enumS (k := .l) z a (s2.heap.objs.size + 1) s2.heap.objs.size, ⟨⟨.none, by simpa using he⟩, ⟨_, ho, rfl, rfl⟩, Nat.succ_ne_self _⟩, fun b hb => ?_, q⟩
      have hle : s2.heap.objs.size ≤ b := by
        have e' : b = s2.heap.objs.size + 1 ∨ b = s2.heap.objs.size := by simpa using hb
        rcases e' with z | z <;> rw [z] <;> simp
      exact I2.fpOk hle (I2.hok.fresh hle)
end TZ

/-! # TL: an exception that leaves from inside a list comprehension -/
namespace LcX
open PySem PySem.Spec PyProof.Rows L2
theorem frames_base {h base base' : Heap} (hb : ∀ b, base.get? b = none → base'.get? b = none) : ∀ {l : List PySem.Env}, h.FunFrames base l → h.FunFrames base' l
  | [], x => x
  | env :: r, ⟨a, ⟨L, o, h1, h2, h3⟩, c⟩ => ⟨a, ⟨L, o, h1, hb _ h2, h3⟩, frames_base hb c⟩
theorem frames_move {h h' base base' : Heap} (hb : ∀ b, base.get? b = none → base'.get? b = none) (k : ∀ b o, base.get? b = none → h.get? b = some o → (∀ vs, o.data ≠ .fields vs) → h'.get? b = some o) : ∀ {l : List PySem.Env}, h.FunFrames base l → h'.FunFrames base' l
  | [], x => x
  | env :: r, ⟨a, ⟨L, o, h1, h2, h3, h4⟩, c⟩ => ⟨a, ⟨L, o, h1, hb _ h2, k _ _ h2 h3 h4, h4⟩, frames_move hb k c⟩
theorem noteFrame_eq {e : Value} {env env' : PySem.Env} (h : env'.frame = env.frame) : noteFrame e env' = noteFrame e env := by
  unfold PySem.noteFrame PySem.frameOf; rw [h]
section
variable {M : Model} {A : Around} {E : Value → Shared → Prop} {s : Shared} {env : PySem.Env} {outer : List PySem.Env} {base : Heap} {e L C : Addr} {Z : Obj → Prop}
open HandSPX in
/-- held by another frame's mark -/
theorem looks_heldZ {Q : Unit → Shared → Prop} (hZ : Steady Z) (hfr : A.frames = some (env :: outer)) (hf : env.frame = some L) (hne : C ≠ L) (hfl : HeldZ base (env :: outer) e Z C s.heap)
    (hQ : ∀ h', HeldZ base (env :: outer) e Z L h' → s.heap.UpToSlots h' → Q () { s with heap := h' }) : wpAny M A (noteFrame (.ref e) env) Q E s := by
  obtain ⟨hkb, hen, hl, oe, vs, T, oT, ts, he, hz, hd, h1, hnT, hTe, hT, hdT, h3⟩ := hfl
  unfold noteFrame
  simp only [hf]
  refine wpAny_bind (wpAny_field he hd h1 ?_)
  rw [if_pos (show (Value.ref T != Value.none) = true from by simp)]
  refine wpAny_bind (wpAny_field hT hdT h3 ?_)
  rw [if_neg (show ¬ ((rawInt C == rawInt L) = true) from fun z => by
    have z := eq_of_beq z
    unfold rawInt at z
    injection z with z
    exact hne (by first | exact Int.ofNat.inj z | omega))]
  refine wpAny_bind (wpAny_setField hT hdT (Array.getElem?_eq_some_iff.mp h3).1 ?_)
  have other : ∀ b, b ≠ T → (s.heap.update T (Obj.mapFields (·.setIfInBounds 3 Value.none))).get? b = s.heap.get? b := fun b hb => Heap.get?_update_other _ _ (Ne.symm hb)
  have noRecord : ∀ b o, s.heap.get? b = some o → (∀ vs, o.data ≠ .fields vs) → b ≠ T := fun b o hb hnf q => by
    rw [q, hT] at hb; injection hb with hb; subst hb; exact hnf ts hdT
  refine wpAny_entryZ hZ hfr (hl.of_keeps fun b o hb hnf => ⟨o, (other b (noRecord b o hb hnf)).trans hb, rfl⟩) hf ((other e (Ne.symm hTe)).trans he)
    (fun b o hbo => (other b fun q => by rw [q, hnT] at hbo; cases hbo).trans (hkb b o hbo)) hen hd (Array.getElem?_eq_some_iff.mp h1).1 hz fun h' hN => ?_
  obtain ⟨x1, x2, x3, x4⟩ := hN
  exact hQ h' ⟨x1, hen, x2, x3⟩ fun b o hb hnf => x4 b o ((other b (noRecord b o hb hnf)).trans hb) hnf
open HandSPX in
/-- noted by this frame, whoever held it -/
theorem note_any {Q : Unit → Shared → Prop} (hZ : Steady Z) (hfr : A.frames = some (env :: outer)) (hf : env.frame = some L) (hne : C ≠ L) (x : Sky base (env :: outer) e Z C s.heap)
    (hQ : ∀ h', HeldZ base (env :: outer) e Z L h' → s.heap.UpToSlots h' → Q () { s with heap := h' }) : wpAny M A (noteFrame (.ref e) env) Q E s := by
  rcases x with ⟨hB, hn, hl, oe, vs, he, hz, hd, h1⟩ | fl | hh
  · exact look_newZ hZ hfr hl hf he hB hn hd h1 hz hQ
  · exact looks_onZ hZ hfr hf fl hQ
  · exact looks_heldZ hZ hfr hf hne hh hQ
open HandSPX in
theorem pass_on {α : Type} {what : String} {cenv : PySem.Env} {l : List PySem.Env} {Q : α → Shared → Prop} (hc : cenv.frame = some L) (hh : HeldZ base l e Z L s.heap)
    (hE : ∀ h', HeldZ base l e Z L h' → s.heap.UpToSlots h' → E (.ref e) { s with heap := h' }) : wpAny M A (passOn what (.ref e) cenv : Sem α) Q E s := by
  have hh' := hh
  obtain ⟨hkb, hen, hl, oe, vs, T, oT, ts, he, hz, hd, h1, hnT, hTe, hT, hdT, h3⟩ := hh
  unfold PySem.passOn
  refine wpAny_bind (wpAny_field he hd h1 ?_)
  rw [if_neg (show ¬ ((Value.ref T == Value.none) = true) from by simp)]
  rw [hc]
  refine wpAny_bind (setFlight_onZ hh' fun h' k1 k2 => ?_)
  exact wpAny_throw (hE h' k1 k2)
end
/-! ### the comprehension, its error passed on -/
def compPostF (M : Model) (A : Around) (E : Value → Shared → Prop) (fr : Option Addr) (Q : Value → Shared → Prop) (acc : Value) (C : Addr) (r : Result) (s' : Shared) : Prop :=
  match r with
  | .ok _ => ∃ m, s'.heap.Ns C m ∧ ∀ h', Heap.SameBut C s'.heap h' → Q acc { s' with heap := h' }
  | .error x => ∃ m, s'.heap.Ns C m ∧ ∀ h' m', h'.Ns C m' → Heap.SameBut C s'.heap h' → ∀ cenv : PySem.Env, cenv.frame = fr → wpAny M A (PySem.passOn "comprehension.variables-let-go" x cenv : Sem Value) (fun _ _ => False) E { s' with heap := h' }
section
variable {M : Model} {A : Around} {E : Value → Shared → Prop} {s : Shared} {env : PySem.Env}
theorem wpAny_comprehension_F {e : Expr} {scope : Scope} {pos : Pos} {newAcc first : Sem Value} {g : Comprehension} {gs : List Comprehension} {cl : List (Str × Addr)} {Q : Value → Shared → Prop}
    (hcl : clausesOf e = g :: gs) (hs : ∀ x, foldedSetIterable g.iter env x = pure x) (hclos : closureFor scope env = pure cl)
    (hkind : scope.kind = .function) (hnames : ∀ x ∈ scope.names, x.2 = .local → scope.names.lookup x.1 = some .local)
    (h : wpAny M A first (fun x s₁ => wpAny M A (pyIter x) (fun it s₂ => wpAny M A newAcc (fun acc s₃ =>
      wpAny M A (newFunctionEnv scope env.globals cl [] env.qual none .none (some env)) (fun cenv s₄ => cenv.frame = env.frame ∧
        codeAny M A (.compStart e 0 it acc { cenv with scope := relabel scope env }) (compPostF M A E env.frame Q acc cenv.locals) s₄) E s₃) E s₂) E s₁) E s) :
    wpAny M A (comprehension e scope env pos newAcc false first none) Q E s := by
  unfold comprehension
  rw [hclos, hcl]
  refine wpAny_bind (wpAny_mono h (fun x s₁ h₁ => wpAny_bind (wpAny_standAt (wpAny_bind (wpAny_of_eq (hs x) (wpAny_bind (wpAny_holding (wpAny_mono h₁ (fun it s₂ h₂ =>
    wpAny_standIf (wpAny_bind (wpAny_mono h₂ (fun acc s₃ h₃ => wpAny_bind (wpAny_pure (wpAny_bind (wpAny_mono h₃ (fun cenv s₄ h₄ => ?_) fun _ _ h' => h')))) fun _ _ h' => h')))
      fun _ _ h' => h'))))))) fun _ _ h' => h')
  dsimp only
  obtain ⟨hfr, h₄⟩ := h₄
  have hv : ∀ x ∈ (scope.names.filter fun x => (x.2 == .local || x.2 == .cell) && x.1 != (".0" : Str)).reverse, x.2 = .local →
      Env.kindOf { cenv with scope := relabel scope env } x.1 = some .local := fun x hx hl => lookup_relabel_local (hnames x (List.mem_filter.mp (List.mem_reverse.mp hx)).1 hl)
  refine wpAny_holding (wpAny_bind (wpAny_attempt (wpAny_holding (wpAny_run (codeAny_mono h₄ fun r s' hr => ?_)))))
  cases r with
  | ok f =>
    obtain ⟨m, hn, hr⟩ := hr
    exact wpAny_bind (wpAny_holding (wpAny_comp_letGo (cenv := { cenv with scope := relabel scope env }) hkind _ s' m hv hn fun h' m' _ hs' => wpAny_pure (hr h' hs')))
  | error x =>
    obtain ⟨m, hn, hr⟩ := hr
    exact wpAny_bind (wpAny_holding (wpAny_comp_letGo (cenv := { cenv with scope := relabel scope env }) hkind _ s' m hv hn fun h' m' hm' hs' => wpAny_mono (hr h' m' hm' hs' _ hfr) (fun _ _ f => f.elim) fun _ _ y => y))
end
section
variable {X : Cx}
/-- as tLc, the element may raise -/
def tLcX (wi : TI) (g : TG) (tt : TT) (te : WX → TE) (vs : List Nat) (Wout : WX) : TE := fun σ H Q => tLc wi g tt (te fun cls d _ H' => Wout cls d σ H') vs σ H Q
theorem pe_lcX {elt tg iter : Expr} {ifs : List Expr} {scope : Scope} {own : List (Str × Nat)} {pos : Pos} {wi : TI} {g : TG} {tt : TT} {te : WX → TE} {Wout : WX} (hc : X.calm = true) (hst : X.stack = X.env :: X.outer) (hff : X.env.frame = some X.env.locals) (hN : X.N.Nodup) (tk : Takes X Wout) (hi : PI X tg iter wi) (ok : BlkOk X.N X.env.scope scope own)
    (hg : ∀ (s : Shared) (H : Hp) (C : Addr) (cl : List (Str × Addr)) (fp : List Addr), PG (X.blk s H scope (compEnvC scope cl C X.env) fp) tg g) (ht : ∀ (s : Shared) (H : Hp) (C : Addr) (cl : List (Str × Addr)) (fp : List Addr), PTs (X.blk s H scope (compEnvC scope cl C X.env) fp) ifs tt)
    (he : ∀ (s : Shared) (H : Hp) (C : Addr) (cl : List (Str × Addr)) (fp : List Addr) (W : WX) (pn : List (Addr × Obj)) (xe : Value → Shared → Prop), Takes ((X.blk s H scope (compEnvC scope cl C X.env) fp).tr pn xe) W → PE ((X.blk s H scope (compEnvC scope cl C X.env) fp).tr pn xe) elt (te W))
    (hs : ∀ x, foldedSetIterable iter X.env x = pure x := by intro _; rfl) :
    PE X (.ListComp elt [⟨tg, iter, ifs, 0⟩] scope pos) (tLcX wi g tt te (own.map (·.2)) Wout) := by
  refine ⟨fun pins s σ H Q I h => ?_⟩
  rw [eval_ListComp]
  have hfree : ∀ y ∈ scope.names, y.2 = .free → ∃ c, X.env.cells.lookup y.1 = some c := fun y hy e => by
    rcases ok.free y hy e with k | k
    · exact I.ok.has _ (.inl k)
    · exact I.ok.has _ (.inr k)
  refine wpAny_comprehension_F rfl hs (closure_ok hfree) ok.kind (fun y hy e => by rw [ok.uniq y hy, e])
    (thn (hi.run pins s σ H _ I h) fun xv s1 hx => thn hx fun itv s2 h2 => ?_)
  obtain ⟨it, fp, tn, J, H2, e, I2, T, st2, f2, q⟩ := h2
  subst e
  refine wpAny_newObj_type (newEnv_comp ?_) (by show 0 ≤ sizeLine; decide)
  refine ⟨rfl, ?_⟩
  generalize hD : s2.heap.objs.size = D
  have hDn : H2 D = none := I2.hok.fresh (Nat.le_of_eq hD)
  obtain ⟨W, ⟨m0, w0⟩, turn⟩ := q D hDn
  -- the new list
  generalize hs3 : ({ s2 with heap := s2.heap.push { cls := .type "list", data := .seq ([] : List Value).toArray } } : Shared) = s3
  have I3 : Inv X pins σ (upd H2 D (.lst [])) s3 := by
    rw [← hs3]
    refine I2.laid (t' := s2.toks) (fun b o e => Heap.get?_push_of_some _ e) (Nat.le_of_eq hD) ⟨Nat.zero_le _, [], 0, .nil, ?_⟩
    rw [← hD]
    exact Heap.get?_push_size _ rfl
  have h3 : s3.heap = s2.heap.push { cls := .type "list", data := .seq ([] : List Value).toArray } := by rw [← hs3]
  have sz : ∀ b ∈ fp, b < s2.heap.objs.size := fun b hb => by
    obtain ⟨o, e, _⟩ := T.obj _ _ st2 b hb
    exact Heap.lt_size e
  have f3 : ∀ b ∈ fp, FpOk X pins (upd H2 D (.lst [])) b ∧ b < s3.heap.objs.size := fun b hb => by
    have hlt := sz b hb
    refine ⟨⟨?_, (f2 b hb).2⟩, by rw [h3, Heap.size_push]; exact Nat.lt_succ_of_lt hlt⟩
    rw [upd_ne (by rw [← hD]; exact Nat.ne_of_lt hlt)]
    exact (f2 b hb).1
  have st3 : tn 0 s3.heap := T.keep _ _ _ st2 fun b _ o e => by rw [h3]; exact Heap.get?_push_of_some _ e
  have I4 := block_start I3 ok hN f3
  have pg := hg s3 (upd H2 D (.lst [])) s3.heap.objs.size (cellsFrom (s3.heap.objs.size + 1) scope.names (cloFrom X.env.cells scope.names [])) fp
  have pt := ht s3 (upd H2 D (.lst [])) s3.heap.objs.size (cellsFrom (s3.heap.objs.size + 1) scope.names (cloFrom X.env.cells scope.names [])) fp
  have pe := he s3 (upd H2 D (.lst [])) s3.heap.objs.size (cellsFrom (s3.heap.objs.size + 1) scope.names (cloFrom X.env.cells scope.names [])) fp
  show codeAny _ _ (.compStart (.ListComp elt [⟨tg, iter, ifs, 0⟩] scope pos) 0 (.ref it) (.ref D) (compEnvC scope (cellsFrom (s3.heap.objs.size + 1) scope.names (cloFrom X.env.cells scope.names [])) s3.heap.objs.size X.env)) (compPostF (model X.prog X.w) X.A X.xe X.env.frame (EP X pins σ Q) (.ref D) s3.heap.objs.size) { s3 with heap := pushCells (s3.heap.push { cls := .type "dict", data := .dict #[] }) scope.names }
  have nfp : ∀ b ∈ fp, (upd H2 D (.lst [])) b = none := fun b hb => (f3 b hb).1.1
  generalize hce : compEnvC scope (cellsFrom (s3.heap.objs.size + 1) scope.names (cloFrom X.env.cells scope.names [])) s3.heap.objs.size X.env = ce at I4 pg pt pe ⊢
  have cL : ce.locals = s3.heap.objs.size := by subst hce; rfl
  have cF : ce.frame = X.env.frame := by subst hce; rfl
  generalize hH3 : upd H2 D (.lst []) = H3 at I3 I4 pg pt pe w0 nfp f3
  generalize hs4 : ({ s3 with heap := pushCells (s3.heap.push { cls := .type "dict", data := .dict #[] }) scope.names } : Shared) = s4 at I4 ⊢
  have st4 : tn 0 s4.heap := T.keep _ _ _ st3 fun b _ o e => by rw [← hs4]; exact pushCells_keeps _ _ _ _ (Heap.get?_push_of_some _ e)
  have stat : ∀ {σ' : L2.St} {H' : Hp} {s' : Shared}, Inv (X.blk s3 H3 scope ce fp) [] σ' H' s' → (∀ b ∈ fp, H' b = none) → ∀ b ∈ fp, FpOk (X.blk s3 H3 scope ce fp) [] H' b := fun {σ' H' s'} I' hn b hb =>
    ⟨hn b hb, (I'.ok.exf b hb).1, I'.ok.exfs b hb, .inl hb, fun x c e => (I'.ok.exf b hb).2 x c e, fun p hp => absurd (show p ∈ ([] : List (Addr × Obj)) ++ [] from hp) (by simp)⟩
  have okB := I4.ok
  -- an element's error passes on
  have away : ∀ (pn : List (Addr × Obj)), Takes ((X.blk s3 H3 scope ce fp).tr pn (notedBy (model X.prog X.w) X.A ce fun e s' => compPostF (model X.prog X.w) X.A X.xe X.env.frame (EP X pins σ Q) (.ref D) s3.heap.objs.size (.error e) s')) (fun cls d _ H' => Wout cls d σ H') := by
    rintro pn u s' ⟨a, B, sI, pins', σ', H', cls, d, rfl, J', nb, up, sky, na, os, ag, wv⟩
    have J : Inv (X.blk s3 H3 scope ce fp) pn σ' H' sI := Inv.ofTry (X := X.blk s3 H3 scope ce fp) (pins := pn) J' okB
    have fr : X.A.frames = some (X.env :: X.outer) := by rw [I.ok.frames, hst]
    have sky : Sky B X.stack a (Zc cls d) ce.locals s'.heap := sky
    rw [hst] at sky
    have cneL : ce.locals ≠ X.env.locals := by rw [cL]; exact Nat.ne_of_gt I3.lt
    show wpAny _ _ (PySem.noteFrame (.ref a) ce) _ _ _
    rw [noteFrame_eq cF]
    refine note_any Zc.steady fr hff cneL sky fun h1 held up1 => ?_
    have J1 : Inv (X.blk s3 H3 scope ce fp) pn σ' H' { s' with heap := h1 } := J.landed nb held.1 (up.trans up1) os ag
    obtain ⟨m, hn, _⟩ := J1.loc
    have hn : h1.Ns ce.locals m := hn
    rw [cL] at hn
    refine ⟨m, hn, fun h' m' hn' sb cenv hcf => ?_⟩
    generalize hC : s3.heap.objs.size = C at hn hn' sb
    obtain ⟨o1, es1, ep1, ho1, hd1, _⟩ := hn
    obtain ⟨oC, es, ep, hoC, hdC, _⟩ := hn'
    have cS : C ∉ frs X.stack := fun hm => by
      obtain ⟨_, o, ho, _⟩ := I3.stack.mem hm
      exact Nat.lt_irrefl _ (Nat.lt_of_lt_of_le (Heap.lt_size ho) (Nat.le_of_eq hC))
    obtain ⟨oI, hoI⟩ : ∃ oI, sI.heap.get? C = some oI := by
      obtain ⟨mI, ⟨oI, _, _, h, _⟩, _⟩ := J.loc
      have h : sI.heap.get? ce.locals = some oI := h
      rw [cL, hC] at h
      exact ⟨oI, h⟩
    have hBC : (B.get? C).isSome = true := by rw [nb C oI hoI cS]; rfl
    obtain ⟨B', hB1, hB2⟩ := restrict h' fun b => (B.get? b).isSome
    have bn : ∀ b, B.get? b = none → B'.get? b = none := fun b e => hB2 b (by rw [e]; rfl)
    have bC : ∀ b, B.get? b = none → b ≠ C := fun b e z => by rw [z] at e; rw [e] at hBC; cases hBC
    have k1 : ∀ b o, b ≠ C → h1.get? b = some o → h'.get? b = some o := fun b o hb e => (sb.2 b hb).trans e
    obtain ⟨z1, z2, z3, oe, vs, Ta, oT, ts, y1, y2, y3, y4, y5, y6, y7, y8, y9⟩ := held
    have held' : HandSPX.HeldZ B' (X.env :: X.outer) a (Zc cls d) X.env.locals h' := by
      refine ⟨fun b o e => ?_, bn _ z2, frames_move bn (fun b o e ho _ => k1 b o (bC b e) ho) z3, oe, vs, Ta, oT, ts, k1 _ _ (bC _ z2) y1, y2, y3, y4, bn _ y5, y6, k1 _ _ (bC _ y5) y7, y8, y9⟩
      cases q : B.get? b with
      | none => rw [bn b q] at e; cases e
      | some o' => rw [← hB1 b (by rw [q]; rfl)]; exact e
    refine pass_on (hcf.trans hff) held' fun h2 held2 up2 => ?_
    have I7 : Inv X pins σ H' sI := I3.call' (ch := fp) J.os J.base J.hok J.bare fun b hb => ⟨(f3 b hb).1.2.2.2.1, (f3 b hb).1.2.1, (f3 b hb).1.2.2.2.2.1, (f3 b hb).1.2.2.2.2.2⟩
    have nC : H' s3.heap.objs.size = none := by
      have z : H' ce.locals = none := J.free
      rw [cL] at z
      exact z
    obtain ⟨f0, f1, f2, f3', f4, f5⟩ := I3.fpOk (H' := H') (Nat.le_refl _) nC
    rw [hC] at f0 f1 f2 f3' f4 f5
    have other : ∀ b, b ≠ C → (sI.heap.update C (fun _ => oC)).get? b = sI.heap.get? b := fun b hb => Heap.get?_update_other _ _ (Ne.symm hb)
    have self : (sI.heap.update C (fun _ => oC)).get? C = some oC := Heap.get?_update_self _ hoI (by first | exact Obj.isFreed_of_dict hdC | (unfold Obj.isFreed; rw [hdC]) | simp [Obj.isFreed, hdC])
    have I8 : Inv X pins σ H' { sI with heap := sI.heap.update C (fun _ => oC), toks := sI.toks } := I7.turned (t' := sI.toks) (it := C) (fun b o hb e => (other b hb).trans e) f0 f1 f3' f4 f5
    refine tk _ _ ⟨a, B', _, pins, σ, H', cls, d, rfl, I8, fun b o e hb => ?_, fun b o e hnf => ?_, by rw [hst]; exact .inr (.inr held2), na, os, ag, wv⟩
    · have e : (sI.heap.update C (fun _ => oC)).get? b = some o := e
      by_cases hbC : b = C
      · rw [hbC, self] at e
        cases e
        rw [hbC, hB1 C hBC]; exact hoC
      · rw [other b hbC] at e
        have q := nb b o e hb
        rw [hB1 b (by rw [q]; rfl)]
        exact k1 b o hbC (z1 b o q)
    · have e : (sI.heap.update C (fun _ => oC)).get? b = some o := e
      by_cases hbC : b = C
      · rw [hbC, self] at e
        cases e
        rw [hbC]
        exact up2 C _ hoC hnf
      · rw [other b hbC] at e
        obtain ⟨sl, q⟩ := (up.trans up1) b o e hnf
        obtain ⟨sl2, q2⟩ := up2 b _ (k1 b _ hbC q) hnf
        exact ⟨sl2, q2⟩
  have loop : codeAny (model X.prog X.w) X.A (.compLoop (.ListComp elt [⟨tg, iter, ifs, 0⟩] scope pos) 0 (.ref it) (.ref D) ce) (compPostF (model X.prog X.w) X.A X.xe X.env.frame (EP X pins σ Q) (.ref D) s3.heap.objs.size) s4 := by
    refine compLoop_any (fun n s' => ∃ i H', Inv (X.blk s3 H3 scope ce fp) [] (wipe σ (own.map (·.2))) H' s' ∧ tn i s'.heap ∧ (∀ b ∈ fp, H' b = none) ∧ W i n H') ?_ m0 ⟨0, H3, I4, st4, nfp, w0⟩
    rintro n s5 ⟨i, H5, I5, st5, n5, w5⟩
    rcases turn i n H5 w5 with ⟨stop, qq⟩ | ⟨go, Nx, hNx, step⟩
    · have td := T.done (X.blk s3 H3 scope ce fp) rfl rfl rfl hc i [] s5 _ H5 (fun _ _ => False) I5 (stat I5 n5) st5 stop
      refine thnF td fun r s6 ⟨hr, I6⟩ => ?_
      subst hr
      -- back in the def's context
      have I7 : Inv X pins σ H5 s6 := I3.call' (ch := fp) I6.os I6.base I6.hok I6.bare fun b hb => ⟨(f3 b hb).1.2.2.2.1, (f3 b hb).1.2.1, (f3 b hb).1.2.2.2.2.1, (f3 b hb).1.2.2.2.2.2⟩
      have nC : H5 s3.heap.objs.size = none := by
        have z : H5 ce.locals = none := I6.free
        rw [cL] at z
        exact z
      obtain ⟨m, hn, _⟩ := I6.loc
      have hn : s6.heap.Ns ce.locals m := hn
      rw [cL] at hn
      obtain ⟨f0, f1, f2, f3', f4, f5⟩ := I3.fpOk (H' := H5) (Nat.le_refl _) nC
      exact ⟨m, hn, fun h'' sb => ⟨.ref D, H5, I7.turned (t' := s6.toks) (fun b o hb e => (sb.2 b hb).trans e) f0 f1 f3' f4 f5, rfl, qq⟩⟩
    · have ti := T.item (X.blk s3 H3 scope ce fp) rfl rfl rfl hc i [] s5 _ H5 (fun _ _ => False) I5 (stat I5 n5) st5 go
      refine thnF ti fun r s6 ⟨u, hr, h6⟩ => ?_
      subst hr
      refine thnF h6 fun _ s7 ⟨x, H7, I7, r7, y7, st7, n7⟩ => ?_
      have I7' := I7.pinned (stat I7 n7) (T.obj _ _ st7)
      refine thnF (pg.run _ s7 _ H7 x u _ I7' r7 (step x H7 y7)) fun _ s8 ⟨σ8, H8, I8, hw8, q8⟩ => ?_
      refine thnF (pt.run _ s8 σ8 H8 _ I8 q8) fun b s9 ⟨H9, I9, q9⟩ => ?_
      -- the turn's end
      have fin : ∀ {s' : Shared} {H' : Hp}, Inv (X.blk s3 H3 scope ce fp) ([] ++ pinsAt fp s7.heap) σ8 H' s' → Nx H' → ∃ m, m < n ∧ ∃ i H', Inv (X.blk s3 H3 scope ce fp) [] (wipe σ (own.map (·.2))) H' s' ∧ tn i s'.heap ∧ (∀ b ∈ fp, H' b = none) ∧ W i m H' := fun {s' H'} I' nx => by
        obtain ⟨m', hm, w'⟩ := hNx H' nx
        have pin' : ∀ b ∈ fp, ∀ o, s7.heap.get? b = some o → s'.heap.get? b = some o ∧ H' b = none := fun b hb o e =>
          let z := I'.pin (b, o) (List.mem_append_right _ (List.mem_append_right _ (mem_pinsAt hb e)))
          ⟨z.1, z.2.1⟩
        have hl : (wipe σ (own.map (·.2))).length = σ8.length := by rw [← hw8, wipe_length]
        refine ⟨m', hm, i + 1, H', (I'.unpinned (pins := [])).weak hl (fun j v e => ?_), T.keep _ _ _ st7 fun b hb o e => (pin' b hb o e).1, fun b hb => ?_, w'⟩
        · rw [← hw8] at e
          exact (wipe_some e).1
        · obtain ⟨o, e, _⟩ := T.obj _ _ st7 b hb
          exact (pin' b hb o e).2
      cases b with
      | false =>
        simp only [Bool.false_eq_true, if_false] at q9 ⊢
        exact fin I9 q9
      | true =>
        simp only [if_true] at q9 ⊢
        have I9' := I9.toTry (notedBy (model X.prog X.w) X.A ce fun e s' => compPostF (model X.prog X.w) X.A X.xe X.env.frame (EP X pins σ Q) (.ref D) s3.heap.objs.size (.error e) s')
        refine thn ((pe _ _ _ (away _)).run [] s9 σ8 H9 _ I9' q9) fun z s10 ⟨yv, H10, I10, r10, acc, hD10, hz10, nx⟩ => ?_
        exact app_ok (X := X.blk s3 H3 scope ce fp) (I10.ofTry okB) hD10 hz10 r10 fun s11 I11 => fin I11 nx
  exact codeAny_compStart_list loop (T.self X.A 0 _ _ _ st4 loop)
end
end LcX

/-! # TL: a, *b = a list; texts asked and read; tables of the module; class methods -/
namespace StN
open PySem PySem.Spec PyProof.Rows L2
section
variable {prog : Program} {w : World} {A : Around} {E : Value → Shared → Prop} {s : Shared}
/-- what is left of a list's iterator -/
theorem walks_from (hh : A.handled = none) (I ax : Addr) (hne : ax ≠ I) (items : Array Value) (k : Nat) (hk : k ≤ items.size) :
    WalksS prog w A I [I, ax] [I] (· = ·) (items.size - k) (fun i v => items[i + k]? = some v) (fun i s => s.heap.IsListIter I ax (i + k) ∧ s.heap.IsList ax items) where
  sub := fun b hb => by simp at hb; simp [hb]
  grefl := fun _ => rfl
  gtrans := fun _ _ _ a b => a.trans b
  frame := fun i s h' tk st _ hk => ⟨st.1.at fun o e => hk I (by simp) o e, st.2.at fun o e => hk ax (by simp) o e⟩
  item := fun i s Q E hi st hQ => by
    refine wpAny_pyNext_list_item st.1 st.2 (x := items[i + k]'(by omega)) (by simp) fun h' hit' hs' => ?_
    refine hQ _ { s with heap := h' } (by simp) ⟨by rw [show i + 1 + k = i + k + 1 by omega]; exact hit', st.2.extBut hs'.extBut hne⟩ ⟨fun b o hb e => hs'.extBut b o (fun h => hb (by simp [h])) e, rfl, rfl, rfl, Nat.le_refl _⟩
  done := fun s Q E st hQ => wpAny_pyNext_list_end hh st.1 st.2 (by simp; omega) fun h' he' => hQ { s with heap := h' } ⟨fun b o hb e => he' b o (fun h => hb (by simp [h])) e, rfl, rfl, rfl, Nat.le_refl _⟩
  self := fun _ _ _ _ st hQ => wpAny_pyIter_listiter st.1 hQ
theorem items_eq {items acc : Array Value} {k : Nat} (hk : k ≤ items.size) (h : ItemsOf (fun i v => items[i + k]? = some v) acc (items.size - k)) : acc.toList = items.toList.drop k := by
  obtain ⟨h1, h2⟩ := h
  apply List.ext_getElem?
  intro i
  rw [List.getElem?_drop]
  by_cases hi : i < acc.size
  · have q := h2 i acc[i] (by simp [hi])
    rw [Array.getElem?_toList, Array.getElem?_toList, Nat.add_comm k i, q]; simp [hi]
  · rw [List.getElem?_eq_none (by simpa using hi), List.getElem?_eq_none (by simp; omega)]
/-- a, *b = a list -/
theorem unpack_star {l : Addr} {items : Array Value} {x0 : Value} {Q : List Value → Shared → Prop} (hh : A.handled = none) (hl : s.heap.IsList l items) (h0 : items[0]? = some x0) (hsz : items.size ≤ sizeLine)
    (hQ : ∀ (h' : Heap) (tk : Nat), (∀ b o, s.heap.get? b = some o → h'.get? b = some o) → Q [x0, .ref h'.objs.size] { s with heap := h'.push { cls := .type "list", data := .seq (items.toList.drop 1).toArray }, toks := tk }) :
    wpAny (model prog w) A (unpackItems (.ref l) 2 (some 1)) Q E s := by
  have hlt : l ≠ s.heap.objs.size := by obtain ⟨o, ho, _⟩ := hl; exact Nat.ne_of_lt (Heap.lt_size ho)
  have h1 : 1 ≤ items.size := by
    cases items with | mk l => cases l with
    | nil => simp at h0
    | cons a r => simp
  unfold unpackItems notIterableAtAll
  refine wpAny_bind (wpAny_bind (wpAny_specialOf hl.typeIs slot_list_iter.lookup (wpAny_pure ?_)))
  simp only [Bool.false_eq_true, if_false]
  refine wpAny_bind (wpAny_holding (wpAny_pyIter_list hl ?_))
  refine wpAny_bind (wpAny_holding (PySem.W.kun_draw hlt 1 0 _ _ ⟨_, Heap.get?_push_size _ rfl, rfl, rfl⟩ (hl.push _) (by omega) fun h₁ hit₁ hs₁ => ?_))
  have ht : List.take 1 (List.drop 0 items.toList) = [x0] := by
    cases items with | mk l => cases l with
    | nil => simp at h0
    | cons a r => simp at h0; simp [h0]
  rw [ht]
  rw [if_neg (by simp)]
  have hl₁ : h₁.IsList l items := (hl.push _).extBut hs₁.extBut hlt
  have W := walks_from (prog := prog) (w := w) (A := A.in1) hh s.heap.objs.size l hlt items 1 h1
  have szI : s.heap.objs.size < h₁.objs.size := by rw [hs₁.1]; simp [Heap.size_push]
  have szl : l < h₁.objs.size := by obtain ⟨o, ho, _⟩ := hl₁; exact Heap.lt_size ho
  refine wpAny_bind (wpAny_holding (wpAny_collect_iter (T := "list_iterator") (.inr (.inr (.inl rfl))) W (fun i s st => by obtain ⟨⟨o, ho, hc, _⟩, _⟩ := st; exact ⟨o, ho, hc⟩) ⟨by simpa using hit₁, hl₁⟩ (fun b hb => by
    have e' : b = s.heap.objs.size ∨ b = l := by simpa using hb
    rcases e' with q | q <;> rw [q]
    · exact szI
    · exact szl) (by simp) (fun s2 acc mv ia => ?_) (by omega)))
  have ea := items_eq h1 ia
  have hlen : acc.toList.length = items.size - 1 := by rw [ea]; simp
  simp only [Nat.sub_self, Nat.reduceSub]
  rw [if_neg (by omega)]
  obtain ⟨hp2, g2, d2, t2, o2⟩ := s2
  obtain ⟨m1, m2, m3, m4, m5⟩ := mv
  have m2 : s.gens = g2 := m2
  have m3 : d2 = s.drawn := m3
  have m4 : o2 = s.os := m4
  subst m2 m3 m4
  rw [show acc.toList.length - 0 = acc.toList.length by omega, List.take_length, List.drop_length, ea]
  refine wpAny_bind (wpAny_newObj_type ?_ (by show (items.toList.drop 1).toArray.size ≤ sizeLine; simp; omega))
  refine wpAny_pure ?_
  have hf : s.heap.objs.size ∉ ([] : List Addr) := by simp
  refine hQ hp2 t2 fun b o e => m1 b o ?_ (hs₁.extBut b o (Nat.ne_of_lt (Heap.lt_size e)) (Heap.get?_push_of_some _ e))
  exact fun z => Nat.lt_irrefl _ (List.mem_singleton.mp z ▸ Heap.lt_size e)
end
end StN
namespace TL
open PySem L2 PyProof.Rows PySem.Calls
open PySem.W (Frag)
section
variable {X : Cx} {e : Expr} {es : List Expr} {t : TG} {u : TGs} {p pos : Pos}
theorem pgs_starred (h1 : PG X e t) (h2 : PGs X es u)
    (hs : (assignEach (.Starred e p :: es) X.env).map (·.2) = assign e X.env :: (assignEach es X.env).map (·.2) := by rfl) : PGs X (.Starred e p :: es) (gCons t u) := by
  refine ⟨fun pins s σ H vs us Q I r h => ?_⟩
  obtain ⟨v, vr, e1, h⟩ := h
  subst e1
  cases r with
  | cons r rr =>
    rw [hs]
    refine assignInOrder_cons (thn (h1.run pins s σ H _ _ _ I r h) fun _ s1 ⟨σ1, H1, I1, q1⟩ => ?_)
    exact h2.run pins s1 σ1 H1 _ _ Q I1 rr q1
def gStar (K : Frag) (t : TGs) : TG := fun v σ H Q => ∃ a x rest, v = .ref a ∧ SqL K H a (x :: rest) ∧ ∀ p, H p = none → t [x, .ref p] σ (upd H p (.lst rest)) Q
theorem pg_star (K : Frag) (hK : X.K = K) {k : Nat} {t : TGs} (hc : X.calm = true) (h : PGs X es t)
    (hn : (assignEach es X.env).length = 2 := by rfl) (hst : (assignEach es X.env).findIdx? (·.1) = some 1 := by rfl) : PG X (.Tuple es k pos) (gStar K t) := by
  subst hK
  refine ⟨fun pins s σ H v u Q I r hw => ?_⟩
  obtain ⟨a, x, rest, e1, hq, hw⟩ := hw
  subst e1
  cases r
  obtain ⟨its, rv, pl, hz⟩ := I.list hq
  cases rv with
  | @cons _ i0 _ its r0 rr =>
    rw [PyProof.Rows.assign_Tuple]
    refine wpAny_bind (wpAny_standAt ?_)
    unfold unpack
    rw [hn, hst]
    refine wpAny_bind (wpAny_holding (StN.unpack_star (I.ok.hd hc) pl.isList (x0 := i0) (by simp) (by have := rr.length; simp only [List.length_cons] at hz; simp; omega) fun h' tk hk => ?_))
    have I1 : Inv X pins σ H { s with heap := h', toks := tk } := I.kept (t' := tk) hk
    have I2 := I1.laid (t' := tk) (a := h'.objs.size) (o := .lst rest) (h' := h'.push { cls := .type "list", data := .seq its.toArray }) (fun b o e => Heap.get?_push_of_some _ e) (Nat.le_refl _)
      ⟨by simp at hz; omega, its, 0, rr, Heap.get?_push_size _ rfl⟩
    exact h.run pins _ σ _ [x, .ref h'.objs.size] _ Q I2 (.cons r0 (.cons rfl .nil)) (hw _ (I1.hok.fresh (Nat.le_refl _)))
end
section
variable {K : Frag} {w : Wd} {n : Option Nat} {Γ : Env} {α β γ δ ρ A : Type} {t : Ty α} {u : Ty β} {ta tb te : TE}
theorem wg_star {i j : Nat} {x : α} {xs : List α} {k : NK} (h : SetE ((Γ.set i (.im t x)).set j (.im (tL t) xs)) (k n)) :
    WpG K w n Γ (gStar K (gCons (gName i) (gCons (gName j) gNil))) (tL t) (x :: xs) k := fun σ B H ok v ⟨p, vs, hv, hs, pw⟩ Q q => by
  cases pw with
  | @cons v0 _ vs _ h1 pw =>
    refine ⟨p, v0, vs, hv, SqL.of (ok.ex _ _ hs), fun d hd => ⟨_, _, rfl, _, [], rfl, rfl, ?_⟩⟩
    have g := Grow.new (o := .lst vs) ok.ex hd
    refine q n _ _ _ _ h g.b (((ok.grow g).setIm (t.mono g.b h1)).setIm (t := tL t) (x := xs) (v := .ref d) ⟨d, vs, rfl, upd_same, pw_mono (fun _ _ => t.mono g.b) pw⟩)
end
end TL
/-! ### texts: asked, read, written -/
namespace TL
open PySem L2 PyProof.Rows PySem.Calls
open PySem.W (Frag)
def rIsdigit : V → List V → Hp → VK → Prop := fun x xs H Q => ∃ a, x = .str a ∧ xs = [] ∧ True ∧ Q (.bl (Txt.isdigit a)) H
def rRemPre : V → List V → Hp → VK → Prop := fun x xs H Q => ∃ a b, x = .str a ∧ xs = [.str b] ∧ a.length ≤ sizeLine ∧ Q (.str (Txt.removeprefix a b)) H
/-- the module has set no limit of its own for the digits of texts -/
structure Dig (K : Frag) : Prop where
  no : PySem.W.nsIn K cStatics "sys.int_max_str_digits" = some none
  ok : PySem.W.nsOkIn K cStatics = true
def rIntX : List V → Hp → VK → Prop := fun xs H Q => ∃ a n, xs = [.str a] ∧ PySem.intText? a = some n ∧ a.length ≤ sizeLine ∧ Q (.int n) H
def rStrX : List V → Hp → VK → Prop := fun xs H Q => ∃ i : Int, xs = [.int i] ∧ i.natAbs < 10 ^ 4300 ∧ Q (.str (toString i)) H
section
variable {X : Cx}
theorem mt_isdigitK : MtR X "str.isdigit" rIsdigit := mt_isdigit
theorem mt_remPre : MtR X "str.removeprefix" rRemPre := mt_removeprefix
theorem call_intX (D : Dig X.K) : CallR X (.type "int") rIntX := by
  intro pins s σ H xs us Q I rs h
  obtain ⟨a, n, rfl, hn, hl, h⟩ := h
  cases rs with
  | cons r1 rs =>
    cases rs
    obtain ⟨t, rfl⟩ := r1
    exact TxN.call_textL hn hl (TxN.nodigits_of I.kIn D.no D.ok) ⟨.int n, H, I.tok _, ⟨_, rfl⟩, h⟩
theorem call_strX (D : Dig X.K) (hc : X.calm = true) : CallR X (.type "str") rStrX := by
  intro pins s σ H xs us Q I rs h
  obtain ⟨i, rfl, hl, h⟩ := h
  cases rs with
  | cons r1 rs =>
    cases rs
    obtain ⟨t, rfl⟩ := r1
    exact str_of_int_or (I.ok.hd hc) (TxN.nodigits_of I.kIn D.no D.ok) (fun _ => ⟨.str _, H, I.tok _, ⟨_, rfl⟩, h⟩) fun z => absurd hl (Nat.not_lt.mpr z)
end
/-- a digit -/
def dgB (c : Nat) : Bool := decide (48 ≤ c) && decide (c ≤ 57)
theorem uni_dig : ∀ c, c < 128 → Unicode.isDigit c = dgB c := by
  have h : ∀ c : Fin 128, Unicode.isDigit c.val = dgB c.val := by decide +kernel
  exact fun c hc => h ⟨c, hc⟩
theorem isdigit_S {a : List Nat} (h : ∀ c ∈ a, c < 128) : Txt.isdigit (SX.S a) = (!a.isEmpty && a.all dgB) := by
  unfold Txt.isdigit
  rw [SX.S_len]
  have e1 : (SX.S a).cps.all Unicode.isDigit = a.all dgB := by
    rw [show (SX.S a).cps = a.toArray from rfl, List.all_toArray]
    induction a with
    | nil => rfl
    | cons c r ih =>
      rw [List.all_cons, List.all_cons, ih fun d hd => h d (List.mem_cons_of_mem _ hd), uni_dig c (h c List.mem_cons_self)]
  rw [e1]
  cases a <;> simp
/-- a text without a sign ahead -/
def unsg (c : Nat) (a : List Nat) : List Nat := if a.head? = some c then a.tail else a
theorem remPre_S {a : List Nat} {c : Nat} : Txt.removeprefix (SX.S a) (SX.S [c]) = SX.S (unsg c a) := by
  cases a with
  | nil => rfl
  | cons d r =>
    unfold Txt.removeprefix unsg
    by_cases h : d = c
    · subst h
      have : Builtin.Str.subAt (SX.S (d :: r)) (SX.S [d]) 0 = true := by simp [SX.S, Str.length, Builtin.Str.subAt]
      rw [if_pos this, if_pos (show (d :: r).head? = some d from rfl)]
      unfold Txt.affix
      have hl : ((SX.S (d :: r)).length - (SX.S [d]).length == (SX.S (d :: r)).length) = false := by
        rw [SX.S_len, SX.S_len]; simp
      simp only [hl, Bool.false_eq_true, if_false]
      unfold Builtin.Str.strSub
      rw [SX.S_len, SX.S_len]
      simp [SX.S]
    · have : ¬ Builtin.Str.subAt (SX.S (d :: r)) (SX.S [c]) 0 = true := by simp [SX.S, Str.length, Builtin.Str.subAt, h]
      rw [if_neg this, if_neg (by simpa using h)]
      rfl
/-- the number that a text of digits, perhaps behind a "-", tells -/
def numOf (a : List Nat) : Int := if a.head? = some 45 then -((NumText.digitsVal a.tail : Nat) : Int) else ((NumText.digitsVal a : Nat) : Int)
def NumOk (a : List Nat) : Prop := unsg 45 a ≠ [] ∧ (unsg 45 a).all dgB = true ∧ a.length ≤ 4300
theorem all_dg {a : List Nat} (h : a.all dgB = true) : NumText.AllDigits a := fun c hc => by
  have z : (decide (48 ≤ c) && decide (c ≤ 57)) = true := List.all_eq_true.mp h c hc
  rw [Bool.and_eq_true, decide_eq_true_eq, decide_eq_true_eq] at z
  exact z
theorem intText_S {a : List Nat} (h : NumOk a) : PySem.intText? (SX.S a) = some (numOf a) := by
  obtain ⟨h1, h2, h3⟩ := h
  unfold numOf
  by_cases z : a.head? = some 45
  · rw [if_pos z]
    cases a with
    | nil => cases z
    | cons d r =>
      obtain rfl : d = 45 := by simpa using z
      unfold unsg at h1 h2
      rw [if_pos z] at h1 h2
      exact PySem.intText_neg (x := SX.S (45 :: r)) (cs := r) rfl (all_dg h2) h1 (by rw [SX.S_len]; exact h3)
  · rw [if_neg z]
    unfold unsg at h1 h2
    rw [if_neg z] at h1 h2
    exact PySem.intText_digits (x := SX.S a) (all_dg h2) h1 (by rw [SX.S_len]; exact h3)
theorem txI_nat (n : Nat) : txI (n : Int) = TL.numL n := TL.tl_num n
theorem txI_neg {i : Int} (h : i < 0) : txI i = 45 :: TL.numL i.natAbs := by
  obtain ⟨n, rfl⟩ : ∃ n : Nat, i = Int.negSucc n := ⟨i.natAbs - 1, by omega⟩
  have e : txI (Int.negSucc n) = 45 :: txI (((n + 1 : Nat)) : Int) := by
    unfold txI
    show (Str.ofString (toString (Int.negSucc n))).cps.toList = 45 :: (Str.ofString (toString ((n + 1 : Nat) : Int))).cps.toList
    have : toString (Int.negSucc n) = "-" ++ toString (((n + 1 : Nat)) : Int) := rfl
    rw [this]
    have b : ("-" : String).toByteArray.data.toList = [45] := by decide
    simp only [Str.ofString, String.toByteArray_append, ByteArray.data_append, Array.toList_append]
    rw [b]
    rfl
  rw [e, txI_nat]
  rfl
end TL
/-! ### tables of the module: texts as keys, integers -/
namespace TL
open PySem L2 PyProof.Rows PySem.Calls
open PySem.W (Frag)
def tabD (D : List (Str × Int)) : List (Str × PyData) := D.map fun p => (p.1, .int p.2)
/-- at a stands the dict D -/
structure Tab (K : Frag) (a : Addr) (D : List (Str × Int)) : Prop where
  look : KTD.tabLook KTD.flatLooks (fun b => K.lookup b) a (tabD D) = true
theorem Tab.of {K : Frag} {a : Addr} {D : List (Str × Int)} {es : Array DictEntry} {n : Nat} (h : K.lookup a = some ⟨.type "dict", none, .dict es n, #[]⟩) (hs : (a == sysModules) = false) (hr : KTD.rowsLook KTD.flatLooks es.toList (tabD D) = true) : Tab K a D := ⟨by
  unfold KTD.tabLook
  dsimp only
  rw [h, hs]
  simpa using hr⟩
def getI (D : List (Str × Int)) (k : Str) : Option Int := List.lookup k D
theorem datum_get {D : List (Str × Int)} {k : Str} : KTD.datumAt k ((tabD D).map fun p => (p.1, KTD.Dat.flat p.2)) = (getI D k).map fun i => KTD.Dat.flat (.int i) := by
  unfold getI tabD
  induction D with
  | nil => rfl
  | cons p D ih =>
    obtain ⟨x, i⟩ := p
    rw [List.map_cons, List.map_cons]
    unfold KTD.datumAt
    by_cases h : k = x
    · subst h; simp [List.lookup]
    · rw [if_neg (by simpa using h)]
      have hb : (k == x) = false := beq_eq_false_iff_ne.mpr h
      simp only [List.lookup, hb]
      exact ih
def rTabIn (K : Frag) : R2 := fun x y H Q => ∃ (k : Str) (a : Addr) (D : List (Str × Int)), x = .str k ∧ y = .ref a ∧ Tab K a D ∧ Q (.bl (getI D k).isSome) H
def rTabNotIn (K : Frag) : R2 := fun x y H Q => ∃ (k : Str) (a : Addr) (D : List (Str × Int)), x = .str k ∧ y = .ref a ∧ Tab K a D ∧ Q (.bl (!(getI D k).isSome)) H
def rTabIx (K : Frag) : R2 := fun x y H Q => ∃ (k : Str) (a : Addr) (D : List (Str × Int)) (i : Int), x = .ref a ∧ y = .str k ∧ Tab K a D ∧ getI D k = some i ∧ Q (.int i) H
section
variable {X : Cx}
theorem tab_here {K : Frag} {a : Addr} {D : List (Str × Int)} (T : Tab K a D) {pins : List (Addr × Obj)} {σ : L2.St} {H : Hp} {s : Shared} (hK : X.K = K) (I : Inv X pins σ H s) : KTD.Here X.base s.heap a ((tabD D).map fun p => (p.1, KTD.Dat.flat p.2)) :=
  ⟨(KTD.tab_of_look (R := fun d v => PyProof.V.Flat v d) (fun _ _ h => KTD.flat_of_looks h) (fun b o e => I.ok.mod.kin b o (by rw [hK]; exact e)) T.look).text, I.bk⟩
theorem inKeys_get {D : List (Str × Int)} {k : Str} : KTD.inKeys k ((tabD D).map fun p => (p.1, KTD.Dat.flat p.2)) = (getI D k).isSome := by
  rw [← KTD.isSome_datumAt, datum_get, Option.isSome_map]
theorem op_tabIn (K : Frag) (hK : X.K = K) : OpR X (compareOp .In) (rTabIn K) := by
  intro pins s σ H x y v u Q I rx ry h
  obtain ⟨k, a, D, rfl, rfl, T, q⟩ := h
  obtain ⟨t, rfl⟩ := rx
  cases ry
  refine KTD.in_text (tab_here T hK I) ?_
  rw [inKeys_get]
  exact ⟨.bl _, H, I.tok _, rfl, q⟩
theorem op_tabNotIn (K : Frag) (hK : X.K = K) : OpR X (compareOp .NotIn) (rTabNotIn K) := by
  intro pins s σ H x y v u Q I rx ry h
  obtain ⟨k, a, D, rfl, rfl, T, q⟩ := h
  obtain ⟨t, rfl⟩ := rx
  cases ry
  refine KTD.notin_text (tab_here T hK I) ?_
  rw [inKeys_get]
  exact ⟨.bl _, H, I.tok _, rfl, q⟩
theorem pe_tabIx (K : Frag) (hK : X.K = K) {o i : Expr} {to ti : TE} {pos : Pos} (ho : PE X o to) (hi : PE X i ti) (hs : NoSl i) : PE X (.Subscript o i pos) (tOp (rTabIx K) to ti) := by
  refine ⟨fun pins s σ H Q I h => ?_⟩
  refine subD_of PySem.F.slot_dict_getitem.lookup hs (thn (ho.run pins s σ H _ I h) fun u s1 ⟨x, H1, I1, rx, q1⟩ => thn (hi.run pins s1 σ H1 _ I1 q1) fun iv s2 ⟨y, H2, I2, ry, k, a, D, z, ex, ey, T, hz, q2⟩ => ?_)
  subst ex; subst ey
  obtain rfl : u = Value.ref a := rx
  obtain ⟨t, rfl⟩ := ry
  have Hr := tab_here T hK I2
  refine ⟨Hr.typeIs, ?_⟩
  unfold getItem
  try with_reducible refine wpAny_holding ?_
  refine wpAny_bind (wpAny_sequenceKey Hr.typeIs (by decide) ?_)
  refine wpAny_bind (wpAny_callSpecial?_slot (name := Str.ofString "__getitem__") Hr.typeIs PySem.F.slot_dict_getitem
    (wpAny_call_entry PySem.F.slot_dict_getitem Hr.typeIs PySem.F.entry_dict_getitem ?_ (PySem.args_dict_getitem _ _)))
  show wpAny _ _ (dictGet a (.str k t) >>= _) _ _ s2
  refine wpAny_bind (KTD.dictGet_text Hr (fun d v ha hv => wpAny_pure ⟨v, rfl, wpAny_pure ?_⟩) fun hn => ?_)
  · rw [datum_get, hz] at ha
    cases ha
    have hv : PyProof.V.Flat v (.int z) := hv
    cases hv s2.heap
    exact ⟨.int z, H2, I2.tok _, ⟨_, rfl⟩, q2⟩
  · rw [datum_get, hz] at hn
    cases hn
end
end TL
/-! ### class methods; a class in a name, called -/
namespace TL
open PySem L2 PyProof.Rows PySem.Calls
open PySem.W (Frag)
/-- C.m(..), m a class method; x the class's name -/
structure CMethBy (P : Program) (w : World) (K : Frag) (mg : Str → Option Value) (base : Heap) (CX : CXT) (k : Nat) (C : Addr) (x m : Str) (ps : List Str) (sp : Sp) : Prop where
  ex : ∃ (p g : Addr) (mc : Value) (fd : FuncData), mg x = some (.ref C) ∧ ClX.CRead K C mc ∧ ClX.CMet K C mc m p g ∧ FnOk P w K mg base CX k g fd ps sp ∧ Binds K fd ps []
def tCMethS (C : Addr) (sp : Sp) (E : L2.St → XK) (t : TA) : TE := fun σ H Q => t σ H fun vs H1 => sp (.ref C :: vs) H1 Q (E σ)
section
variable {X : Cx} {k : Nat} {C : Addr} {x m : Str} {ps : List Str} {sp : Sp} {p pos apos : Pos} {o e : Expr} {es : List Expr} {t : TA} {ta : TE} {E : L2.St → XK} {CX : CXT}
theorem pe_cmethG {pl : Sem Bool} (c : CMethBy X.prog X.w X.K X.mg X.base CX k C x m ps sp) (hr : Room k X.A) (hx : ∀ σ, PassesAt CX X σ (E σ)) (hg : Gl X x) (ha : PA X (e :: es) t) (hdb : (x == ("__debug__" : Str)) = false)
    (hst : starEach (e :: es) X.env = (false, eval e X.env) :: starEach es X.env) (hpl : (backTo pos (starEach es X.env)).any (·.1) = false)
    (ht : eval (.Call (.Attribute (.Name x p) m apos) (e :: es) [] pos) X.env = (do
      let ov ← eval (.Name x p) X.env
      standAt apos.atName
      let (f, first) ← holding [ov] (getMethod ov m pl)
      callWith pos f first (backTo pos (starEach (e :: es) X.env)) (backToKw pos (keywordEach [] X.env)))) :
    PE X (.Call (.Attribute (.Name x p) m apos) (e :: es) [] pos) (tCMethS C sp E t) := by
  obtain ⟨q, g, mc, fd, hm, r, cm, F, hb⟩ := c.ex
  refine ⟨fun pins s σ H Q I h => ?_⟩
  refine PySem.W.methodCall_KW (pl := pl) (ld_glob I hg hm ?_ hdb) ht
  refine ClX.getmethcm_ok I r cm fun s2 I2 => ?_
  refine ClX.callwith_cm I2 (ClX.base_none I (Nat.le_refl _)) cm.fi (thn (ha.run pos _ s2 σ H _ I2 h) fun us s3 ⟨vs, H2, I3, rv, q2⟩ => ⟨⟨ClX.pin_at I3, I3.kIn⟩, ?_⟩) hst hpl
  have hl : (Value.ref C :: us).length = ps.length := by
    have := F.len _ _ _ _ q2
    rw [← this]; simp [rv.length]
  have b := hb s3 (.ref C :: us) I3.kIn (by rw [List.append_nil]; exact hl)
  rw [List.append_nil] at b
  have z : wpAny (model X.prog X.w) X.A (call (.ref s.heap.objs.size) us) (EP X ((s.heap.objs.size, PySem.W.methodObj (.ref g) (.ref C)) :: pins) σ Q) X.xe s3 :=
    wpAny_call (PySem.W.method_call (ClX.pin_at I3) (codeAny_mono (F.run X.A X.stack s3 H2 ⟨.ref C :: us, []⟩ (.ref C :: us) (.ref C :: vs) Q (E σ) hr I3.env0 b (.cons rfl rv) q2) fun r s' hq => by
      cases r with
      | error e => exact hx σ _ H2 s3 e s' I3 hq
      | ok fl =>
        cases fl with
        | ret u => exact I3.after hq
        | next => exact False.elim hq
        | brk => exact False.elim hq
        | cont => exact False.elim hq))
  exact thn z fun _ _ y => ClX.unpinE y
theorem pe_cmeth {pl : Sem Bool} (c : CMethBy X.prog X.w X.K X.mg X.base CX0 k C x m ps sp) (hr : Room k X.A) (hg : Gl X x) (ha : PA X (e :: es) t) (hdb : (x == ("__debug__" : Str)) = false := by decide)
    (hst : starEach (e :: es) X.env = (false, eval e X.env) :: starEach es X.env := by rfl) (hpl : (backTo pos (starEach es X.env)).any (·.1) = false := by rfl)
    (ht : eval (.Call (.Attribute (.Name x p) m apos) (e :: es) [] pos) X.env = (do
      let ov ← eval (.Name x p) X.env
      standAt apos.atName
      let (f, first) ← holding [ov] (getMethod ov m pl)
      callWith pos f first (backTo pos (starEach (e :: es) X.env)) (backToKw pos (keywordEach [] X.env))) := by rfl) :
    PE X (.Call (.Attribute (.Name x p) m apos) (e :: es) [] pos) (tCMethS C sp (fun _ => E0) t) := pe_cmethG c hr (fun _ _ _ _ _ _ _ z => z.elim) hg ha hdb hst hpl ht
theorem pe_cmethX {W : WX} {pl : Sem Bool} (c : CMethBy X.prog X.w X.K X.mg X.base (L2.CX X.prog X.w) k C x m ps sp) (hr : Room k X.A) (tk : Takes X W) (hg : Gl X x) (ha : PA X (e :: es) t) (hdb : (x == ("__debug__" : Str)) = false := by decide)
    (hst : starEach (e :: es) X.env = (false, eval e X.env) :: starEach es X.env := by rfl) (hpl : (backTo pos (starEach es X.env)).any (·.1) = false := by rfl)
    (ht : eval (.Call (.Attribute (.Name x p) m apos) (e :: es) [] pos) X.env = (do
      let ov ← eval (.Name x p) X.env
      standAt apos.atName
      let (f, first) ← holding [ov] (getMethod ov m pl)
      callWith pos f first (backTo pos (starEach (e :: es) X.env)) (backToKw pos (keywordEach [] X.env))) := by rfl) :
    PE X (.Call (.Attribute (.Name x p) m apos) (e :: es) [] pos) (tCMethS C sp (WE W) t) := pe_cmethG c hr (fun σ => passAt tk σ) hg ha hdb hst hpl ht
def tMakeV (C : Addr) (sp : Sp) (dvs : List V) (E : XK) (tf : TE) (t : TA) : TE := fun σ H Q => tf σ H fun x H1 => x = .ref C ∧ tMake C sp dvs E t σ H1 Q
/-- f(..), f a name that holds the class at C -/
theorem pe_makeV (hf : PE X o ta) (c : MadeBy X.prog X.w X.K X.mg X.base CX0 k C x ps sp) (hr : Room (k + 1) X.A) (ha : PA X (e :: es) t)
    (ht : eval (.Call o (e :: es) [] pos) X.env = (do callWith pos (← eval o X.env) [] (backTo pos (starEach (e :: es) X.env)) (backToKw pos (keywordEach [] X.env))) := by rfl)
    (he : starEach (e :: es) X.env = (false, eval e X.env) :: starEach es X.env := by rfl) (hpl : (backTo pos (starEach es X.env)).any (·.1) = false := by rfl) : PE X (.Call o (e :: es) [] pos) (tMakeV C sp [] E0 ta t) := by
  refine ⟨fun pins s σ H Q I h => ?_⟩
  obtain ⟨f, fd, M, hm, F, hb⟩ := c.ex
  refine Call_ (thn (hf.run pins s σ H _ I h) fun u s1 ⟨y, H1, I1, ry, ey, q⟩ => ?_) ht
  subst ey
  obtain rfl : u = Value.ref C := ry
  refine PySem.W.callWith_K (h₀ := X.base) I1.ok.mod.kin M.kp (thn (ha.run pos pins s1 σ H1 _ I1 q) fun us s2 ⟨vs, H2, I2, r, q2⟩ => ⟨I2.kIn, ?_⟩) he hpl
  exact run_make M F hr hb .nil pass0 I2 r q2
end
end TL

/-! # TL: rules for TLSW TLSX TLSY -/
namespace TL
open PySem L2
open PySem.W (Frag)
section
variable {K : Frag} {w : Wd} {n : Option Nat} {Γ Γ' : Env} {α β γ δ ρ A : Type} {t : Ty α} {u : Ty β} {ta tb te : TE} {tr : TA} {ts ts' : TS} {res : ρ → Ent} {nx bk ct : NK} {rt : ρ → Option Nat → Prop} {xp xo : Err → NK} {W : WX} {C : Addr} {fs : List Str}
theorem sizeOk {n : Nat} (h : n ≤ 100000) : n ≤ sizeLine := Nat.le_trans h (by decide)
theorem we_isdigit {k : Bool → NK} (h : WpE K w n Γ te tX (fun a n Γ => (∀ c ∈ a, c < 128) ∧ k (!a.isEmpty && a.all dgB) n Γ)) : WpE K w n Γ (tM0 rIsdigit te) tBo k := fun σ B H ok Q cc =>
  h σ B H ok _ fun a v n1 Γ1 B1 H1 ⟨ha, q⟩ e o r => ⟨⟨_, r⟩, _, r, rfl, trivial, by rw [isdigit_S ha]; exact cc _ _ n1 Γ1 B1 H1 q e o rfl⟩
theorem we_remPre {s : Str} {c : Nat} (hs : s = SX.S [c]) {k : List Nat → NK} (h : WpE K w n Γ te tX (fun a n Γ => a.length ≤ 100000 ∧ k (unsg c a) n Γ)) : WpE K w n Γ (tM1 rRemPre te (tC (.str s))) tX k := fun σ B H ok Q cc =>
  h σ B H ok _ fun a v n1 Γ1 B1 H1 ⟨ha, q⟩ e o r => ⟨⟨_, r⟩, _, _, r, by rw [hs], by rw [SX.S_len]; exact sizeOk ha, by rw [remPre_S]; exact cc _ _ n1 Γ1 B1 H1 q e o rfl⟩
theorem we_intX {k : Int → NK} (h : WpE K w n Γ te tX (fun a n Γ => NumOk a ∧ k (numOf a) n Γ)) : WpE K w n Γ (tCB rIntX (tCons te tNil)) tI k := fun σ B H ok Q cc =>
  h σ B H ok _ fun a v n1 Γ1 B1 H1 ⟨ha, q⟩ e o r => ⟨SX.S a, _, by rw [show v = V.str (SX.S a) from r], intText_S ha, by rw [SX.S_len]; exact Nat.le_trans ha.2.2 (by decide), cc _ _ n1 Γ1 B1 H1 q e o rfl⟩
theorem we_strX {k : List Nat → NK} (h : WpE K w n Γ te tI (fun i n Γ => i.natAbs < 10 ^ 4300 ∧ k (txI i) n Γ)) : WpE K w n Γ (tCB rStrX (tCons te tNil)) tX k := fun σ B H ok Q cc =>
  h σ B H ok _ fun i v n1 Γ1 B1 H1 ⟨hz, q⟩ e o r => ⟨i, by rw [show v = V.int i from r], hz, cc _ _ n1 Γ1 B1 H1 q e o (by show V.str _ = V.str _; rw [txI_S])⟩
/-- s.join(texts) -/
theorem we_joinS {s : Str} {b : List Nat} (hs : s = SX.S b) {k : List Nat → NK} (h : WpE K w n Γ te (tL tX) (fun ys n Γ => (ys.map List.length).sum + ys.length * b.length ≤ 100000 ∧ k (TL.joinL b ys) n Γ)) : WpE K w n Γ (tM1 (rJoinS K) (tC (.str s)) te) tX k := fun σ B H ok Q c =>
  ⟨⟨s, rfl⟩, h σ B H ok _ fun ys v n1 Γ1 B1 H1 ⟨hz, q⟩ e o ⟨a, vs, hv, hl, p⟩ => by
    refine ⟨s, a, ys.map SX.S, rfl, by rw [hv], .inl (by rw [← pw_strs p]; exact SqL.of (o.ex _ _ hl)), ?_, ?_⟩
    · have e1 : ((ys.map SX.S).map (·.length)).sum = (ys.map List.length).sum := congrArg List.sum (SX.lens ys)
      rw [e1, hs, SX.S_len, List.length_map]; omega
    · rw [hs, SX.join_S]
      exact c _ _ n1 Γ1 B1 H1 q e o rfl⟩
/-- the module's table that has the entries D -/
def tTabN (K : Frag) (D : List (Str × Int)) : TE := fun σ H Q => ∀ a, Tab K a D → Q (.ref a) H
theorem pe_tabN {X : Cx} (K : Frag) {x : Str} {pos : Pos} {D : List (Str × Int)} (hg : Gl X x) (h : ∃ a, X.mg x = some (.ref a) ∧ Tab K a D) (hd : (x == ("__debug__" : Str)) = false := by decide) : PE X (.Name x pos) (tTabN K D) := by
  obtain ⟨a, h1, h2⟩ := h
  exact ⟨fun pins s σ H Q I q => (C8.pe_gc (v := .ref a) hg ⟨_, h1, rfl⟩ hd).run pins s σ H Q I (q a h2)⟩
theorem we_tabIn {D : List (Str × Int)} {k : Bool → NK} (h : WpE K w n Γ ta tX (fun x n Γ => k (getI D (SX.S x)).isSome n Γ)) : WpE K w n Γ (tOp (rTabIn K) ta (tTabN K D)) tBo k := fun σ B H ok Q cc =>
  h σ B H ok _ fun x v n1 Γ1 B1 H1 q e o r => fun a T => ⟨_, a, D, r, rfl, T, cc _ _ n1 Γ1 B1 H1 q e o rfl⟩
theorem we_tabNotIn {D : List (Str × Int)} {k : Bool → NK} (h : WpE K w n Γ ta tX (fun x n Γ => k (!(getI D (SX.S x)).isSome) n Γ)) : WpE K w n Γ (tOp (rTabNotIn K) ta (tTabN K D)) tBo k := fun σ B H ok Q cc =>
  h σ B H ok _ fun x v n1 Γ1 B1 H1 q e o r => fun a T => ⟨_, a, D, r, rfl, T, cc _ _ n1 Γ1 B1 H1 q e o rfl⟩
theorem we_tabIx {D : List (Str × Int)} {k : Int → NK} (h : WpE K w n Γ tb tX (fun x n Γ => ∃ i, getI D (SX.S x) = some i ∧ k i n Γ)) : WpE K w n Γ (tOp (rTabIx K) (tTabN K D) tb) tI k := fun σ B H ok Q cc =>
  fun a T => h σ B H ok _ fun x v n1 Γ1 B1 H1 ⟨i, hi, q⟩ e o r => ⟨_, a, D, i, rfl, r, T, hi, cc _ _ n1 Γ1 B1 H1 q e o rfl⟩
def enumS (z : Int) (xs : List α) : List (Int × α) := (enumL xs).map fun p => (p.1 + z, p.2)
theorem enumS_get {z : Int} {xs : List α} {i : Nat} {x : Int × α} (h : (enumS z xs)[i]? = some x) : x.1 = i + z ∧ xs[i]? = some x.2 := by
  unfold enumS at h
  rw [List.getElem?_map] at h
  cases q : (enumL xs)[i]? with
  | none => rw [q] at h; cases h
  | some y =>
    rw [q] at h; cases h
    obtain ⟨h1, h2⟩ := enumL_get q
    exact ⟨by show y.1 + z = _; rw [h1], h2⟩
theorem enumS_length {z : Int} {xs : List α} : (enumS z xs).length = xs.length := by unfold enumS; rw [List.length_map, enumL_length]
theorem wi_enumS {z : Int} {kk : List (Int × α) → NK} (h : WpE K w n Γ ta (tL t) (fun xs n Γ => kk (enumS z xs) n Γ)) : WpI K w n Γ (TZ.iEnumS K z (tCons ta tNil)) (tP tI t) kk := fun σ B H ok R c =>
  h σ B H ok _ fun xs v n1 Γ1 B1 H1 q e o ⟨a, vs, hv, s1, p⟩ => by
    subst hv
    have l1 := pw_len p
    have h1 : TZ.SqK .l K B1 a vs := SqL.of s1
    refine ⟨a, vs, rfl, SqKmono o.ex h1, c _ _ n1 Γ1 B1 H1 q e o ⟨fun H1 e => ⟨vs, SqKmono e h1, by rw [enumS_length]; omega⟩, fun i H1 e hi => ?_, fun i x H1 B1 v H' hx e1 e2 hy => ?_⟩⟩
    · rw [enumS_length] at hi
      exact ⟨vs, vs[i]'(by omega), SqKmono e h1, by simp⟩
    · obtain ⟨T, x1, rfl, hT, rfl, r1⟩ := hy
      have g1 := r1 vs (SqKmono (e1.trans e2) h1)
      obtain ⟨hi, hx'⟩ := enumS_get hx
      obtain ⟨v1, k1, f1⟩ := pw_getR p hx'
      rw [g1] at k1; cases k1
      have gr := Grow.new (o := .tup [.int ((i : Nat) + z), x1]) e2 hT
      exact ⟨_, gr, T, .int ((i : Nat) + z), x1, rfl, upd_same, by show V.int _ = V.int _; rw [hi], t.mono (e1.trans gr.b) f1⟩
/-- f(..), f a slot with a class -/
theorem we_makeV {i : Nat} {sp : Sp} {dvs : List V} {E : XK} {tr : TA} {k : α → NK} (hi : Γ[i]? = some (.im (tCls C) ())) (h : WpE K w n Γ (tMake C sp dvs E tr) t k) : WpE K w n Γ (tMakeV C sp dvs E (tVar i) tr) t k := fun σ B H ok Q c => by
  obtain ⟨v, h1, h2⟩ := ok.sl i _ hi
  exact ⟨v, h1, h2, h σ B H ok Q c⟩
/-- C.m(..), m a class method that may raise -/
theorem we_cmethX {S : FX K} {R : TyA A} {s : Ty S.ρ} {k : S.ρ → NK} (hW : Wish K w xp W) (up : A → S.A) (hup : ∀ {d B vs a}, R.rep d B vs a → S.args.rep d B (.ref C :: vs) (up a)) (hres : S.res = fun x => .im s x)
    (h : WpA K w n Γ tr R (fun a n Γ => S.pre (up a) ∧ May S.cost n ∧ (∀ r n', S.post (up a) r → Costs S.cost n n' → k r n' Γ) ∧ ∀ er n', S.xpost (up a) er → Costs S.cost n n' → xp er n' Γ)) : WpE K w n Γ (tCMethS C S.sp (WE W) tr) s k := fun σ B H ok Q c =>
  h σ B H ok _ fun a vs n1 Γ1 B1 H1 ⟨hp, hm, q, qx⟩ e o r => by
    refine ⟨w.d, w.ca, w.cs, n1, B1, up a, o.entry, hup r, hp, hm, fun r v' n' B' H' hx hcc e' o' sl => ?_, fun er cls dd n' B' H' hx hc e' o' r' => hW cls dd er n' Γ1 σ B' H' (qx er n' hx hc) (o.back o') r'⟩
    rw [hres] at sl
    obtain ⟨v2, g1, g2⟩ := sl
    cases g1
    exact c r v' n' Γ1 B' H' (q r n' hx hcc) (e.trans e') (o.back o') g2
/-- .. which does not raise -/
theorem we_cmeth {S : FS K} {sp : Sp} (sub : ∀ vs H Q X, S.sp vs H Q X → sp vs H Q X) {R : TyA A} {s : Ty S.ρ} {k : S.ρ → NK} (up : A → S.A) (hup : ∀ {d B vs a}, R.rep d B vs a → S.args.rep d B (.ref C :: vs) (up a)) (hres : S.res = fun x => .im s x) (hc : S.cost = 0)
    (h : WpA K w n Γ tr R (fun a n Γ => S.pre (up a) ∧ ∀ r, S.post (up a) r → k r n Γ)) : WpE K w n Γ (tCMethS C sp (fun _ => E0) tr) s k := fun σ B H ok Q c =>
  h σ B H ok _ fun a vs n1 Γ1 B1 H1 ⟨hp, q⟩ e o r =>
    sub _ _ _ _ (own_val (k := k) hres hc o (hup r) hp q fun x v B' H' hk e' o' r' => c x v n1 Γ1 B' H' hk (e.trans e') o' r')
theorem pi_enumSK {X : Cx} (K : Frag) (hK : X.K = K) {e : Expr} {ta : TA} {p pos tpos c0 kp : Pos} {elts : List Expr} {kk j : Nat} {z : Int} (hg : Gl X "enumerate") (hm : X.mg "enumerate" = none) (ha : PA X [e] ta) (h0 : -(2 ^ 63) ≤ z) (h1 : z < 2 ^ 63) (hs : backTo pos (starEach [e] X.env) = (false, eval e X.env) :: backTo pos (starEach [] X.env) := by rfl) :
    PI X (.Tuple elts kk tpos) (.Call (.Name "enumerate" p) [e] [⟨some "start", .Constant (.int z) j c0, kp⟩] pos) (TZ.iEnumS K z ta) := hK ▸ TZ.pi_enumS hg hm ha h0 h1 hs
/-! ### comprehensions whose elements raise -/
def For3X (A B C : Prop) : Prop := A ∧ B ∧ C
theorem wm_lcX {wi : TI} {g : TG} {tt : TT} {te : WX → TE} {vs : List Nat} {kk : Rs → NK} {Wout : WX} (u : Ty β) (I : List α → Nat → List β → Option Nat → Prop) (xq : List α → Nat → Err → Option Nat → Prop) (hW : Wish K w xp Wout) (hg : GSl g vs)
    (h : WpI K w n Γ wi t (fun xs n Γ => I xs 0 [] n ∧ (∀ i er n', xq xs i er n' → xp er n' Γ) ∧ (∀ (w' : Wd) (W : WX) (i : Nat) x ys n, w'.d = w.d → w'.ca = w.ca → w'.cs = w.cs → xs[i]? = some x → I xs i ys n → Wish K w' (fun er n' _ => xq xs i er n') W →
      SetE (hideE Γ vs) fun Γh => WpG K w' n Γh g t x (fun n Γ => WpT K w' n Γ tt (fun n Γ => WpE K w' n Γ (te W) u (fun y n _ => ys.length < 100000 ∧ I xs (i + 1) (ys ++ [y]) n)) (fun n _ => I xs (i + 1) ys n))) ∧
      (∀ ys n, I xs xs.length ys n → kk (rL u ys) n Γ))) : WpM K w n Γ (LcX.tLcX wi g tt te vs Wout) kk := fun σ B H ok Q c => by
  unfold LcX.tLcX
  refine h σ B H ok _ fun xs J n0 Γ0 B0 H0 ⟨hu, hxq, hs, he⟩ e0 o0 it => ?_
  intro D hD
  refine ⟨fun i m H => m + i = xs.length ∧ ∃ ys n B1 acc, I xs i ys n ∧ Ex B0 B1 ∧ Ok K w n Γ0 σ B1 H ∧ Own w Γ0 σ B1 H (rL u ys) D ∧ H D = some (.lst acc) ∧ Paired (u.rep B1) acc ys, ?_, ?_⟩
  · exact ⟨xs.length, rfl, [], n0, B0, [], hu, Ex.refl _, o0.grow (Grow.open o0.ex hD), Own.new o0 hD ⟨[], rfl, .nil⟩, upd_same, .nil⟩
  · rintro i m H1 ⟨hm, ys, n1, B1, acc, hI, e1, o1, ow1, hacc, pacc⟩
    by_cases hi : i < xs.length
    · refine .inr ⟨it.go i H1 (e1.trans o1.ex) hi, fun H' => ∃ ys n B1 acc, I xs (i + 1) ys n ∧ Ex B0 B1 ∧ Ok K w n Γ0 σ B1 H' ∧ Own w Γ0 σ B1 H' (rL u ys) D ∧ H' D = some (.lst acc) ∧ Paired (u.rep B1) acc ys, ?_, ?_⟩
      · rintro H' hN
        exact ⟨m - 1, by omega, by omega, hN⟩
      · intro v H' hy
        obtain ⟨B2, gr, rp⟩ := it.yld i _ H1 B1 v H' (List.getElem?_eq_getElem hi) e1 o1.ex hy
        have o2 := o1.grow gr
        have ow2 := ow1.grow gr
        have hD2 : H' D = some (.lst acc) := gr.h _ _ hacc
        have ned : D ≠ w.d := ow2.ned o2
        -- behind the element: the list stands as it stood
        have back : ∀ {n' B' H''}, Ok K ⟨w.d, w.ca, w.cs, B2, H'⟩ n' [] [] B' H'' → Ok K w n' Γ0 σ B' H'' ∧ H'' D = some (.lst acc) ∧ B' D = none := fun {n' B' H''} o => by
          refine ⟨o2.back o, o.kp D _ hD2 ned, ?_⟩
          cases q : B' D with
          | none => rfl
          | some z =>
            rcases o.nw D z q with r | r
            · have r' : B2 D = some z := r
              rw [ow2.b] at r'; cases r'
            · have r' : H' D = none := r
              rw [hD2] at r'; cases r'
        have key := hs ⟨w.d, w.ca, w.cs, B2, H'⟩ (fun cls d _ H' => Wout cls d σ H') i _ ys n1 rfl rfl rfl (List.getElem?_eq_getElem hi) hI
          (fun cls d er n' Γ' σ' B H hx o r => hW cls d er n' Γ0 σ B H (hxq i er n' hx) (back o.nil).1 r) (wipe σ vs) B2 H' (o2.inner vs) v rp _ fun n3 Γ3 σ3 B3 H3 q3 e3 o3 => q3 σ3 B3 H3 o3 (fun b H3 =>
            if b = true then te (fun cls d _ H' => Wout cls d σ H') σ3 H3 fun y H4 => ∃ acc, H4 D = some (.lst acc) ∧ acc.length < sizeLine ∧ ∃ ys n B1 acc', I xs (i + 1) ys n ∧ Ex B0 B1 ∧ Ok K w n Γ0 σ B1 (upd H4 D (.lst (acc ++ [y]))) ∧ Own w Γ0 σ B1 (upd H4 D (.lst (acc ++ [y]))) (rL u ys) D ∧ (upd H4 D (.lst (acc ++ [y]))) D = some (.lst acc') ∧ Paired (u.rep B1) acc' ys
            else ∃ ys n B1 acc, I xs (i + 1) ys n ∧ Ex B0 B1 ∧ Ok K w n Γ0 σ B1 H3 ∧ Own w Γ0 σ B1 H3 (rL u ys) D ∧ H3 D = some (.lst acc) ∧ Paired (u.rep B1) acc ys)
          (fun n4 Γ4 B4 H4 q4 e4 o4 => by
            rw [if_pos rfl]
            refine q4 σ3 B4 H4 o4 _ fun y yv n5 Γ5 B5 H5 ⟨hz, hI5⟩ e5 o5 ry => ?_
            obtain ⟨ok5, hd5, bd5⟩ := back o5.nil
            have ex25 : Ex B2 B5 := (e3.trans e4).trans e5
            have pr : Paired (u.rep B5) (acc ++ [yv]) (ys ++ [y]) := pw_snoc (pw_mono (fun _ _ => u.mono (gr.b.trans ex25)) pacc) ry
            refine ⟨acc, hd5, by rw [pw_len pacc]; exact szl hz, ys ++ [y], n5, B5, acc ++ [yv], hI5, (e1.trans gr.b).trans ex25, ?_, ?_, upd_same, pr⟩
            · exact ok5.chg bd5 ow1.h0 rfl (fun j e q => .inr ⟨q, ow1.df j e q⟩) (fun x e q => .inr ⟨e, q, fun a ha => ha⟩)
            · exact ⟨⟨_, upd_same, acc ++ [yv], rfl, pr⟩, bd5, ow1.h0, ow1.df⟩) (fun n4 Γ4 B4 H4 q4 e4 o4 => by
            rw [if_neg Bool.false_ne_true]
            obtain ⟨ok5, hd5, bd5⟩ := back o4.nil
            have ex25 : Ex B2 B4 := e3.trans e4
            have pr : Paired (u.rep B4) acc ys := pw_mono (fun _ _ => u.mono (gr.b.trans ex25)) pacc
            exact ⟨ys, n4, B4, acc, q4, (e1.trans gr.b).trans ex25, ok5, ⟨⟨_, hd5, acc, rfl, pr⟩, bd5, ow1.h0, ow1.df⟩, hd5, pr⟩)
        have key2 := hg v (wipe σ vs) H' _ key
        rw [wipe_wipe] at key2
        exact key2
    · have hi2 : i = xs.length := by omega
      subst hi2
      exact .inl ⟨it.stop H1 (e1.trans o1.ex), c _ D n1 Γ0 B1 H1 (he ys n1 hI) (e0.trans e1) o1 ow1⟩
/-- each item's image; G: what is known of those that were read; an item that raises -/
theorem wm_mapX {wi : TI} {g : TG} {te : WX → TE} {vs : List Nat} {kk : Rs → NK} {Wout : WX} (u : Ty β) (f : α → β) (G : α → Prop) (xq : List α → Nat → Err → Option Nat → Prop) (hW : Wish K w xp Wout) (hg : GSl g vs)
    (h : WpI K w n Γ wi t (fun xs n1 Γ => n1 = n ∧ xs.length ≤ 100000 ∧ (∀ i er n', xq xs i er n' → xp er n' Γ) ∧ (∀ (w' : Wd) (W : WX) (i : Nat) x, xs[i]? = some x → (∀ j y, j < i → xs[j]? = some y → G y) → Wish K w' (fun er n' _ => xq xs i er n') W →
      SetE (hideE Γ vs) fun Γh => WpG K w' n Γh g t x (fun n1 Γ => WpE K w' n1 Γ (te W) u (fun y n2 _ => y = f x ∧ n2 = n ∧ G x))) ∧ ((∀ x ∈ xs, G x) → kk (rL u (xs.map f)) n Γ))) : WpM K w n Γ (LcX.tLcX wi g tYes te vs Wout) kk := by
  refine wm_lcX u (fun xs i ys n' => ys = (xs.take i).map f ∧ n' = n ∧ ∀ j y, j < i → xs[j]? = some y → G y) xq hW hg (wi_mono h ?_)
  rintro xs n1 Γ1 ⟨rfl, hl, hx, hs, he⟩
  refine ⟨⟨by simp, rfl, fun j y h => absurd h (Nat.not_lt_zero j)⟩, hx, ?_, ?_⟩
  · rintro w' W i x ys n2 _ _ _ hx ⟨rfl, rfl, hG⟩ hW'
    refine wg_mono (hs w' W i x hx hG hW') fun n3 Γ3 q => wt_yes (we_mono q ?_)
    rintro y n4 Γ4 ⟨rfl, rfl, gx⟩
    have hi := get_lt hx
    refine ⟨by simp; omega, ?_, rfl, fun j y hj hy => ?_⟩
    · rw [List.take_add_one, hx]; simp
    · by_cases hji : j = i
      · subst hji
        rw [hx] at hy; cases hy
        exact gx
      · exact hG j y (by omega) hy
  · rintro ys n2 ⟨rfl, rfl, hG⟩
    rw [List.take_length]
    exact he fun x hx => by
      obtain ⟨i, hi, rfl⟩ := List.mem_iff_getElem.mp hx
      exact hG i _ hi (List.getElem?_eq_getElem hi)
/-- named: a comprehension whose element raises -/
theorem pe_lcXK (K : Frag) {X : Cx} (hK : X.K = K) {elt tg iter : Expr} {ifs : List Expr} {scope : Scope} {own : List (Str × Nat)} {pos : Pos} {wi : TI} {g : TG} {tt : TT} {te : WX → TE} {Wout : WX} (hc : X.calm = true) (hst : X.stack = X.env :: X.outer) (hff : X.env.frame = some X.env.locals) (hN : X.N.Nodup) (tk : Takes X Wout) (hi : PI X tg iter wi) (ok : BlkOk X.N X.env.scope scope own)
    (hg : ∀ (s : Shared) (H : Hp) (C : Addr) (cl : List (Str × Addr)) (fp : List Addr), PG (X.blk s H scope (compEnvC scope cl C X.env) fp) tg g) (ht : ∀ (s : Shared) (H : Hp) (C : Addr) (cl : List (Str × Addr)) (fp : List Addr), PTs (X.blk s H scope (compEnvC scope cl C X.env) fp) ifs tt)
    (he : ∀ (s : Shared) (H : Hp) (C : Addr) (cl : List (Str × Addr)) (fp : List Addr) (W : WX) (pn : List (Addr × Obj)) (xe : Value → Shared → Prop), Takes ((X.blk s H scope (compEnvC scope cl C X.env) fp).tr pn xe) W → PE ((X.blk s H scope (compEnvC scope cl C X.env) fp).tr pn xe) elt (te W))
    (hs : ∀ x, foldedSetIterable iter X.env x = pure x := by intro _; rfl) :
    PE X (.ListComp elt [⟨tg, iter, ifs, 0⟩] scope pos) (LcX.tLcX wi g tt te (own.map (·.2)) Wout) := LcX.pe_lcX hc hst hff hN tk hi ok hg ht he hs
end
theorem CMethBy.quiet {P : Program} {w : World} {K : Frag} {mg : Str → Option Value} {base : Heap} {k : Nat} {C : Addr} {x m : Str} {ps : List Str} {sp sp0 : Sp} (c : CMethBy P w K mg base (L2.CX P w) k C x m ps sp) (h : ∀ vs H Q E, sp0 vs H Q E → sp vs H Q E0) : CMethBy P w K mg base CX0 k C x m ps sp0 := by
  obtain ⟨p, g, mc, fd, h1, h2, h3, h4, h5⟩ := c.ex
  exact ⟨p, g, mc, fd, h1, h2, h3, fn_quiet h4 h, h5⟩
theorem ws_cutP' {K : Frag} {w : Wd} {n : Option Nat} {Γ : TL.Env} {ρ : Type} {res : ρ → Ent} {ts ts' : TS} {nx bk ct : NK} {rt : ρ → Option Nat → Prop} (P : NK) (h1 : WpS K w n Γ ts res P bk ct rt) (h2 : ∀ n' Γ', P n' Γ' → WpS K w n' Γ' ts' res nx bk ct rt) : WpS K w n Γ (tSeq ts ts') res nx bk ct rt :=
  ws_seq <| ws_mono h1 h2 (fun _ _ h => h) (fun _ _ h => h) (fun _ _ h => h)
/-- {"a": 1, ..}[x] -/
theorem we_dispGet' {K : Frag} {w : Wd} {n : Option Nat} {Γ : TL.Env} {α : Type} {u : Ty α} {trs : List (TE × TE)} {i : Nat} {f : Str} {k : α → NK} (hi : Γ[i]? = some (.im tS f)) (h : WpM K w n Γ (tDisp trs) (fun r n' Γ' => Γ' = Γ ∧ ∃ fl y, r = rS fl ∧ fl.lookup f = some ⟨u, y⟩ ∧ k y n' Γ)) : WpE K w n Γ (tDGet (tDisp trs) (tVar i)) u k := fun σ B H ok Q c =>
  h σ B H ok _ fun r l n' Γ' B' H' ⟨hg, fl, y, hr, hl, q⟩ e o ow => by
    subst hg; subst hr
    obtain ⟨⟨ob, k1, kvs, rfl, k5, k6⟩, _⟩ := ow
    obtain ⟨v, g1, g2⟩ := (k6 f).2 _ hl
    obtain ⟨vf, hs, hv⟩ := o.sl i _ hi
    have hv : vf = .str f := hv
    subst hv
    exact ⟨.str f, hs, l, v, rfl, .inl ⟨kvs, .inr f, .inl k1, rfl, g1.symm⟩, c y v n' Γ' B' H' q e o g2⟩
def strKeys (es : Array DictEntry) : Bool := es.all fun e => match e.key with | .str _ _ => true | _ => false
theorem Dig.of {K : Frag} {o : Obj} {es : Array DictEntry} {n : Nat} (h1 : PySem.W.nsIn K cStatics "sys.int_max_str_digits" = some none) (h2 : K.lookup cStatics = some o) (h3 : o.data = .dict es n) (h4 : strKeys es = true) : Dig K := by
  refine ⟨h1, ?_⟩
  unfold PySem.W.nsOkIn
  rw [h2]
  obtain ⟨a, b, c, d⟩ := o
  dsimp only at h3
  subst h3
  exact h4
section
variable {K : Frag} {w : Wd} {n : Option Nat} {Γ Γ' : Env} {α β γ δ ρ A : Type} {t : Ty α} {u : Ty β} {ta tb te td ty : TE}
/-- the signs of a text -/
theorem iter_str {B : Hp} {a : List Nat} : Iter tX (a.map fun c => [c]) (Its (SX.S a)) B :=
  ⟨fun H1 e => by show (SX.S a).cps.size ≤ _; simp [SX.S], fun i H1 e hi => by show i < (SX.S a).cps.size; simpa [SX.S] using hi, fun i x H1 B1 v H' hx e1 e2 hy => by
    obtain ⟨rfl, c, hc, rfl⟩ := hy
    refine ⟨B1, Grow.refl e2, ?_⟩
    rw [List.getElem?_map] at hx
    have hc : a[i]? = some c := by simpa [SX.S] using hc
    rw [hc] at hx
    cases hx
    rfl⟩
theorem wi_str {k : List (List Nat) → NK} (h : WpE K w n Γ te tX (fun a n Γ => k (a.map fun c => [c]) n Γ)) : WpI K w n Γ (iStr te) tX k := fun σ B H ok R c =>
  h σ B H ok _ fun a v n1 Γ1 B1 H1 q e o r => ⟨SX.S a, r, c _ _ n1 Γ1 B1 H1 q e o iter_str⟩
theorem we_notInX {k : Bool → NK} (h : WpE K w n Γ ta tX (fun a n Γ => WpE K w n Γ tb tX (fun b n Γ => ∃ c, a = [c] ∧ k (!decide (c ∈ b)) n Γ))) : WpE K w n Γ (tOp rNotInStr ta tb) tBo k := fun σ B H ok Q c =>
  h σ B H ok _ fun a v n1 Γ1 B1 H1 q1 e1 o1 r1 => q1 σ B1 H1 o1 _ fun b v2 n2 Γ2 B2 H2 ⟨x, hx, q⟩ e2 o2 r2 => by
    subst hx
    exact ⟨_, _, r1, r2, by rw [SX.in_one]; exact c _ _ n2 Γ2 B2 H2 q (e1.trans e2) o2 rfl⟩
theorem we_notInLX {k : Bool → NK} (h : WpE K w n Γ ta tX (fun a n Γ => WpE K w n Γ tb (tL tX) (fun b n Γ => k (!decide (a ∈ b)) n Γ))) : WpE K w n Γ (tOp (rIn K true) ta tb) tBo k := fun σ B H ok Q c =>
  h σ B H ok _ fun a v n1 Γ1 B1 H1 q1 e1 o1 r1 => q1 σ B1 H1 o1 _ fun b v2 n2 Γ2 B2 H2 q e2 o2 ⟨l, vs, hv, hs, p⟩ => by
    obtain ⟨p1, p2⟩ := inV_X (a := a) p
    cases r1
    exact ⟨l, vs, hv, .inl (SqL.of (o2.ex _ _ hs)), rfl, p1, by rw [p2]; exact c _ _ n2 Γ2 B2 H2 q (e1.trans e2) o2 rfl⟩
/-- a dict written out, as a datum -/
theorem we_ofSDM {flds : α → Flds} {k : α → NK} (h : WpM K w n Γ te (fun r n Γ => ∃ x, r = rS (flds x) ∧ k x n Γ)) : WpE K w n Γ te (tSD flds) k := fun σ B H ok Q c =>
  h σ B H ok _ fun r l n' Γ' B' H' ⟨x, hr, q⟩ e o ow => by
    subst hr
    have ow' := ow
    obtain ⟨⟨ob, h1, kvs, rfl, hlen, p⟩, h3, h4, df⟩ := ow'
    have eb : Ex B' (upd B' l (.dK kvs)) := Ex.new h3
    have ned : l ≠ w.d := ow.ned o
    refine c x _ n' Γ' (upd B' l (.dK kvs)) H' q (e.trans eb) ?_ ⟨l, kvs, rfl, upd_same, p.mono eb⟩
    refine o.frz eb (fun a u q => ?_) rfl fun j e' q => .inr ⟨q, fun a ha => ?_⟩
    · by_cases z : a = l
      · subst z; rw [upd_same] at q; cases q; exact .inr ⟨h1, h4⟩
      · rw [upd_ne z] at q; exact .inl q
    · have ne : a ≠ l := fun zz => df j e' q (by rw [← zz]; exact ha)
      obtain ⟨_, _, hb, _⟩ := (o.sl j e' q).owned ha
      rw [upd_ne ne]; exact hb
/-- d[x], x a text -/
theorem we_dgetP {k : α → NK} (h : WpE K w n Γ td (tSD (flP t)) (fun l n Γ => WpE K w n Γ ty tX (fun f n Γ => ∃ y, l.lookup (SX.S f) = some y ∧ k y n Γ))) : WpE K w n Γ (tDGet td ty) t k := fun σ B H ok Q c =>
  h σ B H ok _ fun l v n1 Γ1 B1 H1 q1 e1 o1 ⟨a, kv, hv, hs, p⟩ => by
    subst hv
    refine q1 σ B1 H1 o1 _ fun f v2 n2 Γ2 B2 H2 ⟨y, hy, q2⟩ e2 o2 r2 => ?_
    have r2 : v2 = .str (SX.S f) := r2
    subst r2
    have pf := (p (SX.S f)).2 ⟨t, y⟩ (by rw [flP_get, hy]; rfl)
    obtain ⟨v, g1, g2⟩ := pf
    exact ⟨a, v, rfl, .inl ⟨kv, .inr (SX.S f), .inl (o2.ex _ _ (e2 _ _ hs)), rfl, g1.symm⟩, c y v n2 Γ2 B2 H2 q2 (e1.trans e2) o2 (t.mono e2 g2)⟩
theorem View.asS {i : Nat} {x : List Nat} (h : Γ[i]? = Option.some (.im tX x)) : View K w n Γ n (Γ.set i (.im tS (SX.S x))) := fun σ B H ok => by
  obtain ⟨v, h1, h2⟩ := ok.sl i _ h
  have o2 := ok.setIm (i := i) (t := tS) (x := SX.S x) (v := v) h2
  rw [slot_same h1] at o2
  exact ⟨B, Ex.refl _, o2⟩
end
end TL

namespace Lw
open PySem L2 TL
open PySem.W (Frag)
/-! ### how the walk goes on -/
local macro_rules | `(tactic| walk_at "sd") => `(tactic| with_unfolding_all (first | omega | (simp only [List.length_cons, List.length_nil]; omega) | (constructor <;> omega) | (refine Or.inl (Or.inl ?_); constructor <;> omega) | (refine Or.inl (Or.inr ?_); constructor <;> omega) | (refine divw ?_ ?_ <;> omega) | (refine ⟨?_, ?_, ?_⟩ <;> omega) | (simp only [Int.reduceToNat] at *; first | omega | (constructor <;> omega))))
local macro_rules | `(tactic| walk_at "gs") => `(tactic| first
  | ((with_reducible refine ws_seq ?_); walk_at "gs")
  | ((with_reducible refine ws_ret ?_); walk_at "gs")
  | ((with_reducible refine ws_next ?_); walk_at "gs")
  | ((with_reducible apply ws_set); walk_at "gs")
  | ((with_reducible refine we_int ?_); walk_at "gs")
  | ((with_reducible refine we_var (by with_unfolding_all rfl) ?_); walk_at "gs")
  | ((with_reducible refine setE_go (by dsimp only [List.set, hideE, Ent.hide, List.map]) ?_); walk_at "gs")
  | ((with_reducible refine we_add ?_); walk_at "gs")
  | ((with_reducible refine we_sub ?_); walk_at "gs")
  | ((with_reducible refine we_mul ?_); walk_at "gs")
  | ((with_reducible refine we_mod ?_); walk_at "gs")
  | ((with_reducible refine we_div ?_); walk_at "gs")
  | ((with_reducible refine we_pow ?_); walk_at "gs")
  | ((with_reducible refine we_neg ?_); walk_at "gs")
  | ((with_reducible refine we_intc ?_); walk_at "gs")
  | ((with_reducible refine we_lenVL (by with_unfolding_all rfl) ?_); walk_at "gs")
  | ((with_reducible refine we_lenVM (by with_unfolding_all rfl) ?_); walk_at "gs")
  | ((with_reducible refine we_lenVU (by with_unfolding_all rfl) ?_); walk_at "gs")
  | ((with_reducible refine we_lenVLs (by with_unfolding_all rfl) ?_); walk_at "gs")
  | ((with_reducible refine we_ixAny (t := tI) ?_); walk_at "gs")
  | ((with_reducible refine we_ixVL (by with_unfolding_all rfl) ?_); walk_at "gs")
  | ((with_reducible refine we_ixVM (by with_unfolding_all rfl) ?_); walk_at "gs")
  | ((with_reducible refine we_ixVU (by with_unfolding_all rfl) ?_); walk_at "gs")
  | ((with_reducible refine wt_val ?_); walk_at "gs")
  | ((with_reducible refine we_lt ?_); walk_at "gs")
  | ((with_reducible refine we_le ?_); walk_at "gs")
  | ((with_reducible refine we_gt ?_); walk_at "gs")
  | ((with_reducible refine we_ge ?_); walk_at "gs")
  | ((with_reducible refine we_neNil ?_); walk_at "gs")
  | ((with_reducible refine we_eqNil ?_); walk_at "gs")
  | ((with_reducible refine we_eqI ?_); walk_at "gs")
  | ((with_reducible refine we_neI ?_); walk_at "gs")
  | ((with_reducible refine wt_and ?_); walk_at "gs")
  | ((with_reducible refine wt_or ?_); walk_at "gs")
  | ((with_reducible refine wt_not ?_); walk_at "gs")
  | ((with_reducible refine we_if ?_); walk_at "gs")
  | ((with_reducible refine dec2 (fun _ => ?_) (fun _ => ?_)) <;> walk_at "gs")
  | ((with_reducible refine dec2n (fun _ => ?_) (fun _ => ?_)) <;> walk_at "gs")
  | ((with_reducible refine we_draw (by with_unfolding_all rfl) ?_); walk_at "gs")
  | ((with_reducible refine we_below (by with_unfolding_all rfl) ?_); walk_at "gs")
  | ((with_reducible refine we_far (by with_unfolding_all rfl) ?_); walk_at "gs")
  | ((with_reducible refine we_little (by with_unfolding_all rfl) ?_); walk_at "gs")
  | ((with_reducible refine we_size (by with_unfolding_all rfl) ?_); walk_at "gs")
  | ((with_reducible refine Exists.intro _ (And.intro rfl (And.intro (by omega) (fun _ _ _ => ?_)))); walk_at "gs")
  | ((with_reducible apply we_lst); walk_at "gs")
  | ((with_reducible refine wal_cons ?_); walk_at "gs")
  | ((with_reducible refine wal_nil ?_); walk_at "gs")
  | ((with_reducible refine wi_range1 ?_); walk_at "gs")
  | ((with_reducible refine wi_range2 ?_); walk_at "gs")
  | ((with_reducible refine wg_name ?_); walk_at "gs")
  | ((with_reducible refine CLe_some ?_); omega)
  | ((with_reducible exact CLe_refl))
  | ((with_reducible refine wt_yes ?_); walk_at "gs")
  | ((with_reducible refine wt_truB ?_); walk_at "gs")
  | ((with_reducible refine we_isiI_int ?_); walk_at "gs")
  | ((with_reducible refine we_isiI_bool ?_); walk_at "gs")
  | ((with_reducible refine true2 ?_); walk_at "gs")
  | ((with_reducible refine false2 ?_); walk_at "gs")
  | ((with_reducible refine And.intro (by walk_at "sd") ?_); walk_at "gs")
  | skip)
local macro_rules | `(tactic| walk_at "go") => `(tactic| first
  | ((with_reducible refine ws_seq ?_); walk_at "go")
  | ((with_reducible refine ws_ret ?_); walk_at "go")
  | ((with_reducible refine ws_if ?_); walk_at "go")
  | ((with_reducible refine ws_next ?_); walk_at "go")
  | ((with_reducible apply ws_set); walk_at "go")
  | ((with_reducible refine we_int ?_); walk_at "go")
  | ((with_reducible refine we_var (by with_unfolding_all rfl) ?_); walk_at "go")
  | ((with_reducible refine setE_go (by dsimp only [List.set, hideE, Ent.hide, List.map]) ?_); walk_at "go")
  | ((with_reducible refine we_add ?_); walk_at "go")
  | ((with_reducible refine we_sub ?_); walk_at "go")
  | ((with_reducible refine we_mul ?_); walk_at "go")
  | ((with_reducible refine we_mod ?_); walk_at "go")
  | ((with_reducible refine we_div ?_); walk_at "go")
  | ((with_reducible refine we_pow ?_); walk_at "go")
  | ((with_reducible refine we_neg ?_); walk_at "go")
  | ((with_reducible refine we_intc ?_); walk_at "go")
  | ((with_reducible refine we_lenVL (by with_unfolding_all rfl) ?_); walk_at "go")
  | ((with_reducible refine we_lenVM (by with_unfolding_all rfl) ?_); walk_at "go")
  | ((with_reducible refine we_lenVU (by with_unfolding_all rfl) ?_); walk_at "go")
  | ((with_reducible refine we_lenVLs (by with_unfolding_all rfl) ?_); walk_at "go")
  | ((with_reducible refine we_ixAny (t := tI) ?_); walk_at "go")
  | ((with_reducible refine we_ixVL (by with_unfolding_all rfl) ?_); walk_at "go")
  | ((with_reducible refine we_ixVM (by with_unfolding_all rfl) ?_); walk_at "go")
  | ((with_reducible refine we_ixVU (by with_unfolding_all rfl) ?_); walk_at "go")
  | ((with_reducible refine wt_val ?_); walk_at "go")
  | ((with_reducible refine we_lt ?_); walk_at "go")
  | ((with_reducible refine we_le ?_); walk_at "go")
  | ((with_reducible refine we_gt ?_); walk_at "go")
  | ((with_reducible refine we_ge ?_); walk_at "go")
  | ((with_reducible refine we_neNil ?_); walk_at "go")
  | ((with_reducible refine we_eqNil ?_); walk_at "go")
  | ((with_reducible refine we_eqI ?_); walk_at "go")
  | ((with_reducible refine we_neI ?_); walk_at "go")
  | ((with_reducible refine wt_and ?_); walk_at "go")
  | ((with_reducible refine wt_or ?_); walk_at "go")
  | ((with_reducible refine wt_not ?_); walk_at "go")
  | ((with_reducible refine we_if ?_); walk_at "go")
  | ((with_reducible refine dec2 (fun _ => ?_) (fun _ => ?_)) <;> walk_at "go")
  | ((with_reducible refine dec2n (fun _ => ?_) (fun _ => ?_)) <;> walk_at "go")
  | ((with_reducible refine we_draw (by with_unfolding_all rfl) ?_); walk_at "go")
  | ((with_reducible refine we_below (by with_unfolding_all rfl) ?_); walk_at "go")
  | ((with_reducible refine we_far (by with_unfolding_all rfl) ?_); walk_at "go")
  | ((with_reducible refine we_little (by with_unfolding_all rfl) ?_); walk_at "go")
  | ((with_reducible refine we_size (by with_unfolding_all rfl) ?_); walk_at "go")
  | ((with_reducible refine Exists.intro _ (And.intro rfl (And.intro (by omega) (fun _ _ _ => ?_)))); walk_at "go")
  | ((with_reducible apply we_lst); walk_at "go")
  | ((with_reducible refine wal_cons ?_); walk_at "go")
  | ((with_reducible refine wal_nil ?_); walk_at "go")
  | ((with_reducible refine wi_range1 ?_); walk_at "go")
  | ((with_reducible refine wi_range2 ?_); walk_at "go")
  | ((with_reducible refine wg_name ?_); walk_at "go")
  | ((with_reducible refine CLe_some ?_); omega)
  | ((with_reducible exact CLe_refl))
  | ((with_reducible refine wt_yes ?_); walk_at "go")
  | ((with_reducible refine wt_truB ?_); walk_at "go")
  | ((with_reducible refine we_isiI_int ?_); walk_at "go")
  | ((with_reducible refine we_isiI_bool ?_); walk_at "go")
  | ((with_reducible refine true2 ?_); walk_at "go")
  | ((with_reducible refine false2 ?_); walk_at "go")
  | ((with_reducible refine And.intro (by walk_at "sd") ?_); walk_at "go")
  | skip)

def topS (i : Nat) : Stmt := PySem.Challenge.pw_tugtext_k09_wrong_rows_anywhere.main.body.getD i (.Pass ⟨0, 0, 0, 0⟩)
structure Bts (K : Frag) (mg : Str → Option Value) : Prop where
  b_enumerate : mg "enumerate" = none
  b_int : mg "int" = none
  b_isinstance : mg "isinstance" = none
  b_len : mg "len" = none
  b_list : mg "list" = none
  b_min : mg "min" = none
  b_range : mg "range" = none
  b_str : mg "str" = none
  b_tuple : mg "tuple" = none
  tb_COUNTS : ∃ a, mg "COUNTS" = some (.ref a) ∧ Tab K a [("dot", 2), ("line", 4), ("box", 4), ("ring", 3)]
  dig : Dig K
  g_DIGITS : ∃ u, mg "DIGITS" = some u ∧ RelV (.int (700)) u
structure Cl_Shape (K : Frag) (C : Addr) : Prop where
  cl : Cls K C
  n_kind : NoAttr K C "kind"
  n_numbers : NoAttr K C "numbers"
  n_handles : NoAttr K C "handles"
structure Cl_Dot (K : Frag) (C : Addr) : Prop where
  cl : Cls K C
  n_kind : NoAttr K C "kind"
  n_numbers : NoAttr K C "numbers"
  n_handles : NoAttr K C "handles"
structure Cl_Line (K : Frag) (C : Addr) : Prop where
  cl : Cls K C
  n_kind : NoAttr K C "kind"
  n_numbers : NoAttr K C "numbers"
  n_handles : NoAttr K C "handles"
structure Cl_Box (K : Frag) (C : Addr) : Prop where
  cl : Cls K C
  n_kind : NoAttr K C "kind"
  n_numbers : NoAttr K C "numbers"
  n_handles : NoAttr K C "handles"
structure Cl_Ring (K : Frag) (C : Addr) : Prop where
  cl : Cls K C
  n_kind : NoAttr K C "kind"
  n_numbers : NoAttr K C "numbers"
  n_handles : NoAttr K C "handles"
structure Cl_Drawing (K : Frag) (C : Addr) : Prop where
  cl : Cls K C
  n_shapes : NoAttr K C "shapes"
  n_kinds : NoAttr K C "kinds"
  n_row : NoAttr K C "row"
abbrev s_Shape_init : Stmt := inClass (topS 8) 0
theorem sc_Shape_init : FnScope ["self", "kind", "numbers", "handles"] ["self", "kind", "numbers", "handles"] (defScope s_Shape_init) := ⟨rfl, rfl, rfl, by decide +kernel, rfl, by decide +kernel, by decide +kernel⟩
abbrev s_Dot_init : Stmt := inClass (topS 9) 0
theorem su_Dot_init : Su.Body (defBody s_Dot_init) (Su.supArgs s_Dot_init) := ⟨_, _, _, _, _, by with_unfolding_all rfl, fun _ => ⟨_, by with_unfolding_all rfl⟩⟩
abbrev s_Line_init : Stmt := inClass (topS 10) 0
theorem su_Line_init : Su.Body (defBody s_Line_init) (Su.supArgs s_Line_init) := ⟨_, _, _, _, _, by with_unfolding_all rfl, fun _ => ⟨_, by with_unfolding_all rfl⟩⟩
abbrev s_Box_init : Stmt := inClass (topS 11) 0
theorem su_Box_init : Su.Body (defBody s_Box_init) (Su.supArgs s_Box_init) := ⟨_, _, _, _, _, by with_unfolding_all rfl, fun _ => ⟨_, by with_unfolding_all rfl⟩⟩
abbrev s_Ring_init : Stmt := inClass (topS 12) 0
theorem su_Ring_init : Su.Body (defBody s_Ring_init) (Su.supArgs s_Ring_init) := ⟨_, _, _, _, _, by with_unfolding_all rfl, fun _ => ⟨_, by with_unfolding_all rfl⟩⟩
abbrev s_Drawing_init : Stmt := inClass (topS 18) 0
theorem sc_Drawing_init : FnScope ["self", "shapes", "shape", "number"] ["self", "shapes"] (defScope s_Drawing_init) := ⟨rfl, rfl, rfl, by decide +kernel, rfl, by decide +kernel, by decide +kernel⟩
abbrev s_Drawing_read : Stmt := inClass (topS 18) 1
theorem sc_Drawing_read : FnScope ["cls", "text", "rows", "line", "row"] ["cls", "text"] (defScope s_Drawing_read) := ⟨rfl, rfl, rfl, by decide +kernel, rfl, by decide +kernel, by decide +kernel⟩
abbrev s_shape_of : Stmt := topS 14
theorem sc_shape_of : FnScope ["kind", "numbers"] ["kind", "numbers"] (defScope s_shape_of) := ⟨rfl, rfl, rfl, by decide +kernel, rfl, by decide +kernel, by decide +kernel⟩
abbrev s_read_row : Stmt := topS 21
theorem sc_read_row : FnScope ["row", "line", "kind", "words", "word"] ["row", "line"] (defScope s_read_row) := ⟨rfl, rfl, rfl, by decide +kernel, rfl, by decide +kernel, by decide +kernel⟩
abbrev s_is_integer : Stmt := topS 22
theorem sc_is_integer : FnScope ["word", "digits"] ["word"] (defScope s_is_integer) := ⟨rfl, rfl, rfl, by decide +kernel, rfl, by decide +kernel, by decide +kernel⟩
abbrev s__law_pen : Stmt := topS 24
theorem sc__law_pen : FnScope ["_law_script"] ["_law_script"] (defScope s__law_pen) := ⟨rfl, rfl, rfl, by decide +kernel, rfl, by decide +kernel, by decide +kernel⟩
abbrev s__law_draw : Stmt := topS 25
theorem sc__law_draw : FnScope ["_law_pen_here", "_law_many", "_law_digit", "_law_at", "_law_cell", "_law_mixed"] ["_law_pen_here", "_law_many"] (defScope s__law_draw) := ⟨rfl, rfl, rfl, by decide +kernel, rfl, by decide +kernel, by decide +kernel⟩
abbrev s__law_pick : Stmt := topS 26
theorem sc__law_pick : FnScope ["_law_pen_here", "_law_items"] ["_law_pen_here", "_law_items"] (defScope s__law_pick) := ⟨rfl, rfl, rfl, by decide +kernel, rfl, by decide +kernel, by decide +kernel⟩
abbrev s__law_far : Stmt := topS 27
theorem sc__law_far : FnScope ["_law_pen_here", "_law_size", "_law_drawn", "_law_k"] ["_law_pen_here"] (defScope s__law_far) := ⟨rfl, rfl, rfl, by decide +kernel, rfl, by decide +kernel, by decide +kernel⟩
abbrev s__law_integer : Stmt := topS 28
theorem sc__law_integer : FnScope ["_law_word", "_law_digits", "_law_c"] ["_law_word"] (defScope s__law_integer) := ⟨rfl, rfl, rfl, by decide +kernel, rfl, by decide +kernel, by decide +kernel⟩
abbrev s__law_row : Stmt := topS 29
theorem sc__law_row : FnScope ["_law_row_here", "_law_words", "_law_word"] ["_law_row_here"] (defScope s__law_row) := ⟨rfl, rfl, rfl, by decide +kernel, rfl, by decide +kernel, by decide +kernel⟩
abbrev s__law_due : Stmt := topS 30
theorem sc__law_due : FnScope ["_law_text", "_law_lines", "_law_k", "_law_line"] ["_law_text"] (defScope s__law_due) := ⟨rfl, rfl, rfl, by decide +kernel, rfl, by decide +kernel, by decide +kernel⟩
abbrev s__law_told : Stmt := topS 31
theorem sc__law_told : FnScope ["_law_text", "_law_drawing", "e", "_law_shape"] ["_law_text"] (defScope s__law_told) := ⟨rfl, rfl, rfl, by decide +kernel, rfl, by decide +kernel, by decide +kernel⟩
abbrev s__law_rows : Stmt := topS 32
theorem sc__law_rows : FnScope ["_law_pen_here", "_law_rows_here", "_law_k", "_law_kind", "_law_numbers", "_law_at", "_law_n"] ["_law_pen_here"] (defScope s__law_rows) := ⟨rfl, rfl, rfl, by decide +kernel, rfl, by decide +kernel, by decide +kernel⟩
abbrev s__law_bent : Stmt := topS 33
theorem sc__law_bent : FnScope ["_law_pen_here", "_law_row_here", "_law_words", "_law_at", "_law_sort", "_law_place", "_law_letters", "_law_odd"] ["_law_pen_here", "_law_row_here"] (defScope s__law_bent) := ⟨rfl, rfl, rfl, by decide +kernel, rfl, by decide +kernel, by decide +kernel⟩
abbrev s_law : Stmt := topS 34
theorem sc_law : FnScope ["_law_script", "_law_pen_here", "_law_turn", "_law_rows_here", "_law_change", "_law_at", "_law_text"] ["_law_script"] (defScope s_law) := ⟨rfl, rfl, rfl, by decide +kernel, rfl, by decide +kernel, by decide +kernel⟩
abbrev es_BadRow : Stmt := inClass (topS 3) 0
theorem eb_BadRow : Er.Body (defBody es_BadRow) ["line"] := ⟨_, _, _, _, _, _, _, _, _, by with_unfolding_all rfl, (.cons .nil), fun _ => ⟨_, by with_unfolding_all rfl⟩⟩
structure Xc (P : Program) (K : Frag) (mg : Str → Option Value) (C_BadRow C_TugError : Addr) : Prop where
  g_BadRow : mg "BadRow" = some (.ref C_BadRow)
  e_BadRow : Er.ErrC P K mg C_BadRow "BadRow" es_BadRow ["line"]
  x_BadRow : XfC K C_BadRow
  i_BadRow : ExcC K C_BadRow
  c_BadRow : PySem.W.typeIn K (.ref C_BadRow) = some (.type "type")
  s_BadRow_BadRow : PySem.W.subIn K (.ref C_BadRow) (.ref C_BadRow) = some true
  s_BadRow_TugError : PySem.W.subIn K (.ref C_BadRow) (.ref C_TugError) = some true
  g_TugError : mg "TugError" = some (.ref C_TugError)
  x_TugError : XfC K C_TugError
  i_TugError : ExcC K C_TugError
  c_TugError : PySem.W.typeIn K (.ref C_TugError) = some (.type "type")
  s_TugError_BadRow : PySem.W.subIn K (.ref C_TugError) (.ref C_BadRow) = some false
  s_TugError_TugError : PySem.W.subIn K (.ref C_TugError) (.ref C_TugError) = some true

/-! ### shapes: four classes over one -/
abbrev Shp := S4 × List Int
def kindS : S4 → Str
  | .a => "dot"
  | .b => "line"
  | .c => "box"
  | .d => "ring"
def handS : S4 → List Str
  | .a => ["at"]
  | .b => ["from", "to"]
  | .c => ["a", "b", "c", "d"]
  | .d => ["mid", "rim"]
def manyS : S4 → Nat
  | .a => 2
  | .b => 4
  | .c => 4
  | .d => 3
def fldsShp (x : Shp) : Flds := [("handles", ⟨tU tS, handS x.1⟩), ("numbers", ⟨tU (tI), x.2⟩), ("kind", ⟨tS, kindS x.1⟩)]
abbrev tShp (CD CL CB CR : Addr) : Ty Shp := tFam (fun x => C4 CD CL CB CR x.1) (fldsShp)
def S_Shape_init (K : Frag) (C : Addr) : IS K := { C := C, A := Str × List Int × List Str × Unit, args := aCons tS (aCons (tU (tI)) (aCons (tU tS) aNil)), ρ := Str × List Int × List Str, flds := fun y => [("handles", ⟨tU tS, y.2.2⟩), ("numbers", ⟨tU (tI), y.2.1⟩), ("kind", ⟨tS, y.1⟩)], cost := 0, pre := fun _ => True, post := fun a r => r = (a.1, a.2.1, a.2.2.1) }
abbrev sp_Shape_init (K : Frag) (C : Addr) : Sp := (S_Shape_init K C).sp
instance (K : Frag) (C : Addr) : Ents (S_Shape_init K C).args := inferInstanceAs (Ents (aCons tS (aCons (tU (tI)) (aCons (tU tS) aNil))))
theorem ok_Shape_init_Dot {P : Program} {w : World} {K : Frag} {mg : Str → Option Value} {base : Heap} {f C_Shape C_Dot C_Line C_Box C_Ring C_Drawing C_BadRow C_TugError : Addr} {fd : FuncData} (F : Fun K "__init__" "Shape.__init__" s_Shape_init f fd) (T : Bts K mg) (cl_Shape : Cl_Shape K C_Shape) (cl_Dot : Cl_Dot K C_Dot) (cl_Line : Cl_Line K C_Line) (cl_Box : Cl_Box K C_Box) (cl_Ring : Cl_Ring K C_Ring) (cl_Drawing : Cl_Drawing K C_Drawing) (XC : Xc P K mg C_BadRow C_TugError) (FM_Shp : FamF4 K C_Shape C_Dot C_Line C_Box C_Ring) : FnOk P w K mg base CX0 1 f fd ["self", "kind", "numbers", "handles"] (sp_Shape_init K C_Dot) := by
  refine F.ok sc_Shape_init (fun vs H Q E h => is_len h) (fun cdv A outer s H vs Q E hr h => ⟨_, (pss_cons (ps_fld (pv 0) (pv 1) rfl)
      (pss_cons (ps_fld (pv 0) (pv 2) rfl)
      (pss_one (ps_fld (pv 0) (pv 3) rfl)))), is_body (Nat.le_of_ble_eq_true rfl) h fun w n a p hp hm => ?_⟩)
  try dsimp only [S_Shape_init_Dot, List.map_cons, List.map_nil] at hp hm ⊢

  obtain ⟨kd, nums, hs, _⟩ := a
  show WpS K w n [.mu (TL.rI C_Dot p []), .im tS kd, .im (tU (tI)) nums, .im (tU tS) hs] _ (fun _ : Unit => Ent.no) _ _ _ _
  refine ws_seq <| ws_fldO (t := tS) (p := p) cl_Dot.cl cl_Dot.n_kind <| we_var rfl ⟨[], rfl, by simp, setE_go (by dsimp only [List.set]) ?_⟩
  refine ws_seq <| ws_fldO (t := tU (tI)) (p := p) cl_Dot.cl cl_Dot.n_numbers <| we_var rfl ⟨_, rfl, by simp, setE_go (by dsimp only [List.set]) ?_⟩
  refine ws_fldO (t := tU tS) (p := p) cl_Dot.cl cl_Dot.n_handles <| we_var rfl ⟨_, rfl, by simp, setE_go (by dsimp only [List.set]) ?_⟩
  exact ⟨(kd, nums, hs), _, rfl, CLe_refl, rfl, fun f => rfl⟩
theorem ok_Shape_init_Line {P : Program} {w : World} {K : Frag} {mg : Str → Option Value} {base : Heap} {f C_Shape C_Dot C_Line C_Box C_Ring C_Drawing C_BadRow C_TugError : Addr} {fd : FuncData} (F : Fun K "__init__" "Shape.__init__" s_Shape_init f fd) (T : Bts K mg) (cl_Shape : Cl_Shape K C_Shape) (cl_Dot : Cl_Dot K C_Dot) (cl_Line : Cl_Line K C_Line) (cl_Box : Cl_Box K C_Box) (cl_Ring : Cl_Ring K C_Ring) (cl_Drawing : Cl_Drawing K C_Drawing) (XC : Xc P K mg C_BadRow C_TugError) (FM_Shp : FamF4 K C_Shape C_Dot C_Line C_Box C_Ring) : FnOk P w K mg base CX0 1 f fd ["self", "kind", "numbers", "handles"] (sp_Shape_init K C_Line) := by
  refine F.ok sc_Shape_init (fun vs H Q E h => is_len h) (fun cdv A outer s H vs Q E hr h => ⟨_, (pss_cons (ps_fld (pv 0) (pv 1) rfl)
      (pss_cons (ps_fld (pv 0) (pv 2) rfl)
      (pss_one (ps_fld (pv 0) (pv 3) rfl)))), is_body (Nat.le_of_ble_eq_true rfl) h fun w n a p hp hm => ?_⟩)
  try dsimp only [S_Shape_init_Line, List.map_cons, List.map_nil] at hp hm ⊢

  obtain ⟨kd, nums, hs, _⟩ := a
  show WpS K w n [.mu (TL.rI C_Line p []), .im tS kd, .im (tU (tI)) nums, .im (tU tS) hs] _ (fun _ : Unit => Ent.no) _ _ _ _
  refine ws_seq <| ws_fldO (t := tS) (p := p) cl_Line.cl cl_Line.n_kind <| we_var rfl ⟨[], rfl, by simp, setE_go (by dsimp only [List.set]) ?_⟩
  refine ws_seq <| ws_fldO (t := tU (tI)) (p := p) cl_Line.cl cl_Line.n_numbers <| we_var rfl ⟨_, rfl, by simp, setE_go (by dsimp only [List.set]) ?_⟩
  refine ws_fldO (t := tU tS) (p := p) cl_Line.cl cl_Line.n_handles <| we_var rfl ⟨_, rfl, by simp, setE_go (by dsimp only [List.set]) ?_⟩
  exact ⟨(kd, nums, hs), _, rfl, CLe_refl, rfl, fun f => rfl⟩
theorem ok_Shape_init_Box {P : Program} {w : World} {K : Frag} {mg : Str → Option Value} {base : Heap} {f C_Shape C_Dot C_Line C_Box C_Ring C_Drawing C_BadRow C_TugError : Addr} {fd : FuncData} (F : Fun K "__init__" "Shape.__init__" s_Shape_init f fd) (T : Bts K mg) (cl_Shape : Cl_Shape K C_Shape) (cl_Dot : Cl_Dot K C_Dot) (cl_Line : Cl_Line K C_Line) (cl_Box : Cl_Box K C_Box) (cl_Ring : Cl_Ring K C_Ring) (cl_Drawing : Cl_Drawing K C_Drawing) (XC : Xc P K mg C_BadRow C_TugError) (FM_Shp : FamF4 K C_Shape C_Dot C_Line C_Box C_Ring) : FnOk P w K mg base CX0 1 f fd ["self", "kind", "numbers", "handles"] (sp_Shape_init K C_Box) := by
  refine F.ok sc_Shape_init (fun vs H Q E h => is_len h) (fun cdv A outer s H vs Q E hr h => ⟨_, (pss_cons (ps_fld (pv 0) (pv 1) rfl)
      (pss_cons (ps_fld (pv 0) (pv 2) rfl)
      (pss_one (ps_fld (pv 0) (pv 3) rfl)))), is_body (Nat.le_of_ble_eq_true rfl) h fun w n a p hp hm => ?_⟩)
  try dsimp only [S_Shape_init_Box, List.map_cons, List.map_nil] at hp hm ⊢

  obtain ⟨kd, nums, hs, _⟩ := a
  show WpS K w n [.mu (TL.rI C_Box p []), .im tS kd, .im (tU (tI)) nums, .im (tU tS) hs] _ (fun _ : Unit => Ent.no) _ _ _ _
  refine ws_seq <| ws_fldO (t := tS) (p := p) cl_Box.cl cl_Box.n_kind <| we_var rfl ⟨[], rfl, by simp, setE_go (by dsimp only [List.set]) ?_⟩
  refine ws_seq <| ws_fldO (t := tU (tI)) (p := p) cl_Box.cl cl_Box.n_numbers <| we_var rfl ⟨_, rfl, by simp, setE_go (by dsimp only [List.set]) ?_⟩
  refine ws_fldO (t := tU tS) (p := p) cl_Box.cl cl_Box.n_handles <| we_var rfl ⟨_, rfl, by simp, setE_go (by dsimp only [List.set]) ?_⟩
  exact ⟨(kd, nums, hs), _, rfl, CLe_refl, rfl, fun f => rfl⟩
theorem ok_Shape_init_Ring {P : Program} {w : World} {K : Frag} {mg : Str → Option Value} {base : Heap} {f C_Shape C_Dot C_Line C_Box C_Ring C_Drawing C_BadRow C_TugError : Addr} {fd : FuncData} (F : Fun K "__init__" "Shape.__init__" s_Shape_init f fd) (T : Bts K mg) (cl_Shape : Cl_Shape K C_Shape) (cl_Dot : Cl_Dot K C_Dot) (cl_Line : Cl_Line K C_Line) (cl_Box : Cl_Box K C_Box) (cl_Ring : Cl_Ring K C_Ring) (cl_Drawing : Cl_Drawing K C_Drawing) (XC : Xc P K mg C_BadRow C_TugError) (FM_Shp : FamF4 K C_Shape C_Dot C_Line C_Box C_Ring) : FnOk P w K mg base CX0 1 f fd ["self", "kind", "numbers", "handles"] (sp_Shape_init K C_Ring) := by
  refine F.ok sc_Shape_init (fun vs H Q E h => is_len h) (fun cdv A outer s H vs Q E hr h => ⟨_, (pss_cons (ps_fld (pv 0) (pv 1) rfl)
      (pss_cons (ps_fld (pv 0) (pv 2) rfl)
      (pss_one (ps_fld (pv 0) (pv 3) rfl)))), is_body (Nat.le_of_ble_eq_true rfl) h fun w n a p hp hm => ?_⟩)
  try dsimp only [S_Shape_init_Ring, List.map_cons, List.map_nil] at hp hm ⊢

  obtain ⟨kd, nums, hs, _⟩ := a
  show WpS K w n [.mu (TL.rI C_Ring p []), .im tS kd, .im (tU (tI)) nums, .im (tU tS) hs] _ (fun _ : Unit => Ent.no) _ _ _ _
  refine ws_seq <| ws_fldO (t := tS) (p := p) cl_Ring.cl cl_Ring.n_kind <| we_var rfl ⟨[], rfl, by simp, setE_go (by dsimp only [List.set]) ?_⟩
  refine ws_seq <| ws_fldO (t := tU (tI)) (p := p) cl_Ring.cl cl_Ring.n_numbers <| we_var rfl ⟨_, rfl, by simp, setE_go (by dsimp only [List.set]) ?_⟩
  refine ws_fldO (t := tU tS) (p := p) cl_Ring.cl cl_Ring.n_handles <| we_var rfl ⟨_, rfl, by simp, setE_go (by dsimp only [List.set]) ?_⟩
  exact ⟨(kd, nums, hs), _, rfl, CLe_refl, rfl, fun f => rfl⟩
def S_Dot_init (K : Frag) (C : Addr) : IS K := { C := C, A := Int × Int × Unit, args := aCons (tI) (aCons (tI) (aNil)), ρ := Shp, flds := fldsShp, cost := 0, pre := fun _ => True, post := fun a r => r = (.a, [a.1, a.2.1]) }
abbrev sp_Dot_init (K : Frag) (C : Addr) : Sp := (S_Dot_init K C).sp
instance (K : Frag) (C : Addr) : Ents (S_Dot_init K C).args := inferInstanceAs (Ents (aCons (tI) (aCons (tI) (aNil))))
theorem ok_Dot_init {P : Program} {w : World} {K : Frag} {mg : Str → Option Value} {base : Heap} {f fS C_Shape C_Dot C_Line C_Box C_Ring C_Drawing C_BadRow C_TugError : Addr} {fd fdS : FuncData} (SC : Su.SuperC P K mg C_Dot f fS fd s_Dot_init ["self", "x", "y"]) (FS : FnOk P w K mg base CX0 1 fS fdS ["self", "kind", "numbers", "handles"] (sp_Shape_init K C_Dot)) (bS : L2.Binds K fdS ["self", "kind", "numbers", "handles"] []) (bd : ∀ (s : Shared) (us : List Value), us.length = [("self" : Str), ("x" : Str), ("y" : Str)].length → BindsTo s fd ⟨us, []⟩ ([("self" : Str), ("x" : Str), ("y" : Str)].zip us)) (T : Bts K mg) (cl_Shape : Cl_Shape K C_Shape) (cl_Dot : Cl_Dot K C_Dot) (cl_Line : Cl_Line K C_Line) (cl_Box : Cl_Box K C_Box) (cl_Ring : Cl_Ring K C_Ring) (cl_Drawing : Cl_Drawing K C_Drawing) (XC : Xc P K mg C_BadRow C_TugError) (FM_Shp : FamF4 K C_Shape C_Dot C_Line C_Box C_Ring) : FnOk P w K mg base CX0 2 f fd ["self", "x", "y"] (sp_Dot_init K C_Dot) := by
  obtain ⟨_, _, _, _, _, _, _, _, _, _, _, _, _, _, _, _, _, _, _, _, hfd, _⟩ := id SC.ini
  subst hfd
  refine Su.fn_super SC su_Dot_init ⟨_, _, rfl, fun _ => rfl, fun _ _ => rfl⟩ FS bS bd (fun vs H Q E h => is_len h) (fun A outer s H vs Q E hr h => Su.is_super (S := (S_Dot_init K C_Dot)) (T := S_Shape_init K C_Dot) (pa_cons pe_str (pa_cons (pe_tup (pa_cons (pv 1) (pa_cons (pv 2) pa_nil))) (pa_cons (pe_tup (pa_cons pe_str pa_nil)) pa_nil))) rfl rfl rfl (Nat.le_of_ble_eq_true rfl) h fun w n a p hp => ?_)
  try dsimp only [S_Dot_init, List.map_cons, List.map_nil] at hp ⊢

  obtain ⟨x, y, _⟩ := a
  show WpA K w n [.mu (TL.rI C_Dot p []), .im (tI) x, .im (tI) y] _ (aCons tS (aCons (tU (tI)) (aCons (tU tS) aNil))) _
  refine wa_cons <| we_str <| wa_cons <| we_tupU <| wal_cons <| we_var rfl <| wal_cons <| we_var rfl <| wal_nil ⟨by simp, ?_⟩
  refine wa_cons <| we_tupU <| wal_cons <| we_str <| wal_nil ⟨by simp, ?_⟩
  refine wa_nil ⟨rfl, rfl, trivial, ?_⟩
  rintro _ rfl
  exact ⟨(.a, [x, y]), rfl, fun f => rfl⟩
def S_Line_init (K : Frag) (C : Addr) : IS K := { C := C, A := Int × Int × Int × Int × Unit, args := aCons (tI) (aCons (tI) (aCons (tI) (aCons (tI) (aNil)))), ρ := Shp, flds := fldsShp, cost := 0, pre := fun _ => True, post := fun a r => r = (.b, [a.1, a.2.1, a.2.2.1, a.2.2.2.1]) }
abbrev sp_Line_init (K : Frag) (C : Addr) : Sp := (S_Line_init K C).sp
instance (K : Frag) (C : Addr) : Ents (S_Line_init K C).args := inferInstanceAs (Ents (aCons (tI) (aCons (tI) (aCons (tI) (aCons (tI) (aNil))))))
theorem ok_Line_init {P : Program} {w : World} {K : Frag} {mg : Str → Option Value} {base : Heap} {f fS C_Shape C_Dot C_Line C_Box C_Ring C_Drawing C_BadRow C_TugError : Addr} {fd fdS : FuncData} (SC : Su.SuperC P K mg C_Line f fS fd s_Line_init ["self", "x", "y", "u", "v"]) (FS : FnOk P w K mg base CX0 1 fS fdS ["self", "kind", "numbers", "handles"] (sp_Shape_init K C_Line)) (bS : L2.Binds K fdS ["self", "kind", "numbers", "handles"] []) (bd : ∀ (s : Shared) (us : List Value), us.length = [("self" : Str), ("x" : Str), ("y" : Str), ("u" : Str), ("v" : Str)].length → BindsTo s fd ⟨us, []⟩ ([("self" : Str), ("x" : Str), ("y" : Str), ("u" : Str), ("v" : Str)].zip us)) (T : Bts K mg) (cl_Shape : Cl_Shape K C_Shape) (cl_Dot : Cl_Dot K C_Dot) (cl_Line : Cl_Line K C_Line) (cl_Box : Cl_Box K C_Box) (cl_Ring : Cl_Ring K C_Ring) (cl_Drawing : Cl_Drawing K C_Drawing) (XC : Xc P K mg C_BadRow C_TugError) (FM_Shp : FamF4 K C_Shape C_Dot C_Line C_Box C_Ring) : FnOk P w K mg base CX0 2 f fd ["self", "x", "y", "u", "v"] (sp_Line_init K C_Line) := by
  obtain ⟨_, _, _, _, _, _, _, _, _, _, _, _, _, _, _, _, _, _, _, _, hfd, _⟩ := id SC.ini
  subst hfd
  refine Su.fn_super SC su_Line_init ⟨_, _, rfl, fun _ => rfl, fun _ _ => rfl⟩ FS bS bd (fun vs H Q E h => is_len h) (fun A outer s H vs Q E hr h => Su.is_super (S := (S_Line_init K C_Line)) (T := S_Shape_init K C_Line) (pa_cons pe_str (pa_cons (pe_tup (pa_cons (pv 1) (pa_cons (pv 2) (pa_cons (pv 3) (pa_cons (pv 4) pa_nil))))) (pa_cons (pe_tup (pa_cons pe_str (pa_cons pe_str pa_nil))) pa_nil))) rfl rfl rfl (Nat.le_of_ble_eq_true rfl) h fun w n a p hp => ?_)
  try dsimp only [S_Line_init, List.map_cons, List.map_nil] at hp ⊢

  obtain ⟨x, y, u, v, _⟩ := a
  show WpA K w n [.mu (TL.rI C_Line p []), .im (tI) x, .im (tI) y, .im (tI) u, .im (tI) v] _ (aCons tS (aCons (tU (tI)) (aCons (tU tS) aNil))) _
  refine wa_cons <| we_str <| wa_cons <| we_tupU <| wal_cons <| we_var rfl <| wal_cons <| we_var rfl <| wal_cons <| we_var rfl <| wal_cons <| we_var rfl <| wal_nil ⟨by simp, ?_⟩
  refine wa_cons <| we_tupU <| wal_cons <| we_str <| wal_cons <| we_str <| wal_nil ⟨by simp, ?_⟩
  refine wa_nil ⟨rfl, rfl, trivial, ?_⟩
  rintro _ rfl
  exact ⟨(.b, [x, y, u, v]), rfl, fun f => rfl⟩
def S_Box_init (K : Frag) (C : Addr) : IS K := { C := C, A := Int × Int × Int × Int × Unit, args := aCons (tI) (aCons (tI) (aCons (tI) (aCons (tI) (aNil)))), ρ := Shp, flds := fldsShp, cost := 0, pre := fun _ => True, post := fun a r => r = (.c, [a.1, a.2.1, a.2.2.1, a.2.2.2.1]) }
abbrev sp_Box_init (K : Frag) (C : Addr) : Sp := (S_Box_init K C).sp
instance (K : Frag) (C : Addr) : Ents (S_Box_init K C).args := inferInstanceAs (Ents (aCons (tI) (aCons (tI) (aCons (tI) (aCons (tI) (aNil))))))
theorem ok_Box_init {P : Program} {w : World} {K : Frag} {mg : Str → Option Value} {base : Heap} {f fS C_Shape C_Dot C_Line C_Box C_Ring C_Drawing C_BadRow C_TugError : Addr} {fd fdS : FuncData} (SC : Su.SuperC P K mg C_Box f fS fd s_Box_init ["self", "x", "y", "u", "v"]) (FS : FnOk P w K mg base CX0 1 fS fdS ["self", "kind", "numbers", "handles"] (sp_Shape_init K C_Box)) (bS : L2.Binds K fdS ["self", "kind", "numbers", "handles"] []) (bd : ∀ (s : Shared) (us : List Value), us.length = [("self" : Str), ("x" : Str), ("y" : Str), ("u" : Str), ("v" : Str)].length → BindsTo s fd ⟨us, []⟩ ([("self" : Str), ("x" : Str), ("y" : Str), ("u" : Str), ("v" : Str)].zip us)) (T : Bts K mg) (cl_Shape : Cl_Shape K C_Shape) (cl_Dot : Cl_Dot K C_Dot) (cl_Line : Cl_Line K C_Line) (cl_Box : Cl_Box K C_Box) (cl_Ring : Cl_Ring K C_Ring) (cl_Drawing : Cl_Drawing K C_Drawing) (XC : Xc P K mg C_BadRow C_TugError) (FM_Shp : FamF4 K C_Shape C_Dot C_Line C_Box C_Ring) : FnOk P w K mg base CX0 2 f fd ["self", "x", "y", "u", "v"] (sp_Box_init K C_Box) := by
  obtain ⟨_, _, _, _, _, _, _, _, _, _, _, _, _, _, _, _, _, _, _, _, hfd, _⟩ := id SC.ini
  subst hfd
  refine Su.fn_super SC su_Box_init ⟨_, _, rfl, fun _ => rfl, fun _ _ => rfl⟩ FS bS bd (fun vs H Q E h => is_len h) (fun A outer s H vs Q E hr h => Su.is_super (S := (S_Box_init K C_Box)) (T := S_Shape_init K C_Box) (pa_cons pe_str (pa_cons (pe_tup (pa_cons (pv 1) (pa_cons (pv 2) (pa_cons (pv 3) (pa_cons (pv 4) pa_nil))))) (pa_cons (pe_tup (pa_cons pe_str (pa_cons pe_str (pa_cons pe_str (pa_cons pe_str pa_nil))))) pa_nil))) rfl rfl rfl (Nat.le_of_ble_eq_true rfl) h fun w n a p hp => ?_)
  try dsimp only [S_Box_init, List.map_cons, List.map_nil] at hp ⊢

  obtain ⟨x, y, u, v, _⟩ := a
  show WpA K w n [.mu (TL.rI C_Box p []), .im (tI) x, .im (tI) y, .im (tI) u, .im (tI) v] _ (aCons tS (aCons (tU (tI)) (aCons (tU tS) aNil))) _
  refine wa_cons <| we_str <| wa_cons <| we_tupU <| wal_cons <| we_var rfl <| wal_cons <| we_var rfl <| wal_cons <| we_var rfl <| wal_cons <| we_var rfl <| wal_nil ⟨by simp, ?_⟩
  refine wa_cons <| we_tupU <| wal_cons <| we_str <| wal_cons <| we_str <| wal_cons <| we_str <| wal_cons <| we_str <| wal_nil ⟨by simp, ?_⟩
  refine wa_nil ⟨rfl, rfl, trivial, ?_⟩
  rintro _ rfl
  exact ⟨(.c, [x, y, u, v]), rfl, fun f => rfl⟩
def S_Ring_init (K : Frag) (C : Addr) : IS K := { C := C, A := Int × Int × Int × Unit, args := aCons (tI) (aCons (tI) (aCons (tI) (aNil))), ρ := Shp, flds := fldsShp, cost := 0, pre := fun _ => True, post := fun a r => r = (.d, [a.1, a.2.1, a.2.2.1]) }
abbrev sp_Ring_init (K : Frag) (C : Addr) : Sp := (S_Ring_init K C).sp
instance (K : Frag) (C : Addr) : Ents (S_Ring_init K C).args := inferInstanceAs (Ents (aCons (tI) (aCons (tI) (aCons (tI) (aNil)))))
theorem ok_Ring_init {P : Program} {w : World} {K : Frag} {mg : Str → Option Value} {base : Heap} {f fS C_Shape C_Dot C_Line C_Box C_Ring C_Drawing C_BadRow C_TugError : Addr} {fd fdS : FuncData} (SC : Su.SuperC P K mg C_Ring f fS fd s_Ring_init ["self", "x", "y", "r"]) (FS : FnOk P w K mg base CX0 1 fS fdS ["self", "kind", "numbers", "handles"] (sp_Shape_init K C_Ring)) (bS : L2.Binds K fdS ["self", "kind", "numbers", "handles"] []) (bd : ∀ (s : Shared) (us : List Value), us.length = [("self" : Str), ("x" : Str), ("y" : Str), ("r" : Str)].length → BindsTo s fd ⟨us, []⟩ ([("self" : Str), ("x" : Str), ("y" : Str), ("r" : Str)].zip us)) (T : Bts K mg) (cl_Shape : Cl_Shape K C_Shape) (cl_Dot : Cl_Dot K C_Dot) (cl_Line : Cl_Line K C_Line) (cl_Box : Cl_Box K C_Box) (cl_Ring : Cl_Ring K C_Ring) (cl_Drawing : Cl_Drawing K C_Drawing) (XC : Xc P K mg C_BadRow C_TugError) (FM_Shp : FamF4 K C_Shape C_Dot C_Line C_Box C_Ring) : FnOk P w K mg base CX0 2 f fd ["self", "x", "y", "r"] (sp_Ring_init K C_Ring) := by
  obtain ⟨_, _, _, _, _, _, _, _, _, _, _, _, _, _, _, _, _, _, _, _, hfd, _⟩ := id SC.ini
  subst hfd
  refine Su.fn_super SC su_Ring_init ⟨_, _, rfl, fun _ => rfl, fun _ _ => rfl⟩ FS bS bd (fun vs H Q E h => is_len h) (fun A outer s H vs Q E hr h => Su.is_super (S := (S_Ring_init K C_Ring)) (T := S_Shape_init K C_Ring) (pa_cons pe_str (pa_cons (pe_tup (pa_cons (pv 1) (pa_cons (pv 2) (pa_cons (pv 3) pa_nil)))) (pa_cons (pe_tup (pa_cons pe_str (pa_cons pe_str pa_nil))) pa_nil))) rfl rfl rfl (Nat.le_of_ble_eq_true rfl) h fun w n a p hp => ?_)
  try dsimp only [S_Ring_init, List.map_cons, List.map_nil] at hp ⊢

  obtain ⟨x, y, r, _⟩ := a
  show WpA K w n [.mu (TL.rI C_Ring p []), .im (tI) x, .im (tI) y, .im (tI) r] _ (aCons tS (aCons (tU (tI)) (aCons (tU tS) aNil))) _
  refine wa_cons <| we_str <| wa_cons <| we_tupU <| wal_cons <| we_var rfl <| wal_cons <| we_var rfl <| wal_cons <| we_var rfl <| wal_nil ⟨by simp, ?_⟩
  refine wa_cons <| we_tupU <| wal_cons <| we_str <| wal_cons <| we_str <| wal_nil ⟨by simp, ?_⟩
  refine wa_nil ⟨rfl, rfl, trivial, ?_⟩
  rintro _ rfl
  exact ⟨(.d, [x, y, r]), rfl, fun f => rfl⟩

/-! ### rules for shapes -/
section
variable {K : Frag} {w : Wd} {n : Option Nat} {Γ : TL.Env} {α β : Type} {t : Ty α} {u : Ty β} {ta tb : TE}
theorem wg_U2 {a b : Nat} {x y : α} {k : NK} (h : SetE ((Γ.set a (.im t x)).set b (.im t y)) (k n)) : WpG K w n Γ (gTup K 2 (gCons (gName a) (gCons (gName b) gNil))) (tU t) [x, y] k := fun σ B H ok v ⟨p, vs, hv, hs, pw⟩ Q q => by
  cases pw with | cons h1 pw => cases pw with | cons h2 pw =>
  cases pw
  exact ⟨p, _, hv, SqT.of (ok.ex _ _ hs), rfl, _, _, rfl, _, [], rfl, rfl, q n _ _ B H h (Ex.refl _) ((ok.setIm h1).setIm h2)⟩
theorem wg_U3 {a b c : Nat} {x y z : α} {k : NK} (h : SetE (((Γ.set a (.im t x)).set b (.im t y)).set c (.im t z)) (k n)) : WpG K w n Γ (gTup K 3 (gCons (gName a) (gCons (gName b) (gCons (gName c) gNil)))) (tU t) [x, y, z] k := fun σ B H ok v ⟨p, vs, hv, hs, pw⟩ Q q => by
  cases pw with | cons h1 pw => cases pw with | cons h2 pw => cases pw with | cons h3 pw =>
  cases pw
  exact ⟨p, _, hv, SqT.of (ok.ex _ _ hs), rfl, _, _, rfl, _, _, rfl, _, [], rfl, rfl, q n _ _ B H h (Ex.refl _) (((ok.setIm h1).setIm h2).setIm h3)⟩
theorem wg_U4 {a b c d : Nat} {x y z r : α} {k : NK} (h : SetE ((((Γ.set a (.im t x)).set b (.im t y)).set c (.im t z)).set d (.im t r)) (k n)) : WpG K w n Γ (gTup K 4 (gCons (gName a) (gCons (gName b) (gCons (gName c) (gCons (gName d) gNil))))) (tU t) [x, y, z, r] k := fun σ B H ok v ⟨p, vs, hv, hs, pw⟩ Q q => by
  cases pw with | cons h1 pw => cases pw with | cons h2 pw => cases pw with | cons h3 pw => cases pw with | cons h4 pw =>
  cases pw
  exact ⟨p, _, hv, SqT.of (ok.ex _ _ hs), rfl, _, _, rfl, _, _, rfl, _, _, rfl, _, [], rfl, rfl, q n _ _ B H h (Ex.refl _) ((((ok.setIm h1).setIm h2).setIm h3).setIm h4)⟩
/-- a name, as another kind -/
theorem we_varC {i : Nat} {x : α} {y : β} {k : β → NK} (hi : Γ[i]? = some (.im t x)) (hr : ∀ {B v}, t.rep B v x → u.rep B v y) (q : k y n Γ) : WpE K w n Γ (tVar i) u k := fun σ B H ok Q c => by
  obtain ⟨v, h1, h2⟩ := ok.sl i _ hi
  exact ⟨v, h1, c y v n Γ B H q (Ex.refl _) ok (hr h2)⟩
theorem we_fldFam {C : α → Addr} {flds : α → Flds} {f : Str} {k : β → NK} (cl : ∀ x, Cls K (C x)) (na : ∀ x, NoAttr K (C x) f) (y : α → β) (hl : ∀ x, (flds x).lookup f = some ⟨u, y x⟩) (h : WpE K w n Γ ta (tFam C flds) (fun x n Γ => k (y x) n Γ)) : WpE K w n Γ (tFld K ta f) u k := fun σ B H ok Q c =>
  h σ B H ok _ fun x v n1 Γ1 B1 H1 q e o ⟨a, dx, fs, h1, h2, h3⟩ => by
    obtain ⟨y', h4, h5⟩ := (h3 f).2 _ (hl x)
    exact ⟨a, C x, dx, fs, y', h1, o.ex _ _ h2, cl x, na x, h4, c _ y' n1 Γ1 B1 H1 q e o h5⟩
theorem inV_strs {x : Str} : ∀ {xs : List Str}, inV (.str x) (xs.map V.str) = decide (x ∈ xs) ∧ (xs.map V.str).all flatV = true
  | [] => ⟨by simp [inV], rfl⟩
  | y :: r => by
    obtain ⟨h1, h2⟩ := inV_strs (x := x) (xs := r)
    refine ⟨?_, by rw [List.map_cons, List.all_cons, h2]; rfl⟩
    have e : inV (.str x) ((y :: r).map V.str) = ((y == x) || inV (.str x) (r.map V.str)) := rfl
    rw [e, h1]
    by_cases z : y = x
    · subst z; simp
    · have z' : ¬ x = y := fun q => z q.symm
      simp [z, z']
theorem pw_strEq : ∀ {vs : List V} {xs : List Str}, Paired (fun (v : V) (x : Str) => v = V.str x) vs xs → vs = xs.map V.str
  | _, _, .nil => rfl
  | _, _, .cons h r => by rw [h, pw_strEq r]; rfl
/-- a text in a tuple of texts -/
theorem we_inUS {b : Bool} {k : Bool → NK} (h : WpE K w n Γ ta tS (fun a n Γ => WpE K w n Γ tb (tU tS) (fun xs n Γ => k (if b then !decide (a ∈ xs) else decide (a ∈ xs)) n Γ))) : WpE K w n Γ (tOp (rIn K b) ta tb) tBo k := fun σ B H ok Q c =>
  h σ B H ok _ fun a x n1 Γ1 B1 H1 q1 e1 o1 r1 => q1 σ B1 H1 o1 _ fun xs y n2 Γ2 B2 H2 q2 e2 o2 r2 => by
    have r1 : x = .str a := r1
    subst r1
    obtain ⟨p, vs, hv, hs, pv⟩ := r2
    have ev := pw_strEq (show Paired (fun (v : V) (x : Str) => v = V.str x) vs xs from pv)
    subst ev
    obtain ⟨i1, i2⟩ := inV_strs (x := a) (xs := xs)
    refine ⟨p, _, hv, .inr (SqT.of (o2.ex _ _ hs)), rfl, i2, ?_⟩
    rw [i1]
    cases b <;> exact c _ _ n2 Γ2 B2 H2 q2 (e1.trans e2) o2 rfl
end
/-- the family's classes, as they are used -/
structure FamC (K : Frag) (C : S4 → Addr) : Prop where
  cl : ∀ i, Cls K (C i)
  kind : ∀ i, NoAttr K (C i) "kind"
  nums : ∀ i, NoAttr K (C i) "numbers"
  hnds : ∀ i, NoAttr K (C i) "handles"
section
variable {K : Frag} {w : Wd} {n : Option Nat} {Γ : TL.Env} {ta tb : TE} {C : Addr}
theorem we_hnd {k : List Str → NK} (cl : Cls K C) (na : NoAttr K C "handles") (h : WpE K w n Γ ta (tObj C (fldsShp)) (fun x n Γ => k (handS x.1) n Γ)) : WpE K w n Γ (tFld K ta "handles") (tU tS) k := we_fldF cl na (fun x : Shp => handS x.1) (fun _ => rfl) h
theorem we_num {k : List Int → NK} (cl : Cls K C) (na : NoAttr K C "numbers") (h : WpE K w n Γ ta (tObj C (fldsShp)) (fun x n Γ => k x.2 n Γ)) : WpE K w n Γ (tFld K ta "numbers") (tU (tI)) k := we_fldF cl na (fun x : Shp => x.2) (fun _ => rfl) h
theorem we_hndF {C : S4 → Addr} {k : List Str → NK} (F : FamC K C) (h : WpE K w n Γ ta (tFam (fun x : Shp => C x.1) (fldsShp)) (fun x n Γ => k (handS x.1) n Γ)) : WpE K w n Γ (tFld K ta "handles") (tU tS) k := we_fldFam (fun _ => F.cl _) (fun _ => F.hnds _) (fun x : Shp => handS x.1) (fun _ => rfl) h
theorem we_numF {C : S4 → Addr} {k : List Int → NK} (F : FamC K C) (h : WpE K w n Γ ta (tFam (fun x : Shp => C x.1) (fldsShp)) (fun x n Γ => k x.2 n Γ)) : WpE K w n Γ (tFld K ta "numbers") (tU (tI)) k := we_fldFam (fun _ => F.cl _) (fun _ => F.nums _) (fun x : Shp => x.2) (fun _ => rfl) h
theorem we_kindF {C : S4 → Addr} {k : Str → NK} (F : FamC K C) (h : WpE K w n Γ ta (tFam (fun x : Shp => C x.1) (fldsShp)) (fun x n Γ => k (kindS x.1) n Γ)) : WpE K w n Γ (tFld K ta "kind") tS k := we_fldFam (fun _ => F.cl _) (fun _ => F.kind _) (fun x : Shp => kindS x.1) (fun _ => rfl) h
end

theorem we_mk0 {K : Frag} {w : Wd} {n : Option Nat} {Γ : TL.Env} {tr : TA} {E : XK} {S : IS K} {k : S.ρ → NK} (f : S.A → S.ρ) (hc : S.cost = 0) (hpre : ∀ a, S.pre a) (hpost : ∀ a x, S.post a x → x = f a) (h : WpA K w n Γ tr S.args (fun a n Γ => k (f a) n Γ)) : WpE K w n Γ (tMake S.C S.sp [] E tr) (tObj S.C S.flds) k :=
  we_make (S := S) (fun _ _ _ _ z => z) (R := S.args) (fun a => a) (fun {d B vs a} h => by rw [List.append_nil]; exact h)
    (fun σ B H ok Q c => h σ B H ok Q fun a vs n' Γ' B' H' h2 => c a vs n' Γ' B' H' ⟨hpre a, .inl hc, fun x n2 hx hcc => by
      have hx := hpost a x hx
      subst hx
      rcases hcc with ⟨_, rfl⟩ | ⟨m, rfl, rfl⟩
      · exact h2
      · rw [hc]; exact h2⟩)
theorem len2 {α : Type} : ∀ {l : List α}, l.length = 2 → ∃ a b, l = [a, b]
  | [a, b], _ => ⟨a, b, rfl⟩
theorem len3 {α : Type} : ∀ {l : List α}, l.length = 3 → ∃ a b c, l = [a, b, c]
  | [a, b, c], _ => ⟨a, b, c, rfl⟩
theorem len4 {α : Type} : ∀ {l : List α}, l.length = 4 → ∃ a b c d, l = [a, b, c, d]
  | [a, b, c, d], _ => ⟨a, b, c, d, rfl⟩
/-! ### words, rows, texts of drawings with integers -/
abbrev Tx := List Nat
def kindX (i : S4) : Tx := (kindS i).cps.toList
theorem kindX_S (i : S4) : SX.S (kindX i) = kindS i := SX.S_tl _
def isInt (a : Tx) : Bool := (!(unsg 45 a).isEmpty && (unsg 45 a).all dgB) && decide ((unsg 45 a).length ≤ 700) && (decide (a = [48]) || !decide ((unsg 45 a).head? = some 48))
def tabC : List (Str × Int) := [("dot", 2), ("line", 4), ("box", 4), ("ring", 3)]
def kOf (k : Tx) : S4 := if k = kindX .a then .a else if k = kindX .d then .d else if k = kindX .b then .b else .c
theorem getI_kind {k : Tx} {m : Int} (h : getI tabC (SX.S k) = some m) : ∃ i, k = kindX i ∧ m = (manyS i : Int) := by
  have key : ∀ i, SX.S k = kindS i → k = kindX i := fun i e => SX.S_inj (e.trans (kindX_S i).symm)
  unfold getI tabC at h
  by_cases h1 : SX.S k = "dot"
  · rw [h1] at h
    exact ⟨.a, key .a h1, by have e : List.lookup ("dot" : Str) [("dot", (2 : Int)), ("line", 4), ("box", 4), ("ring", 3)] = some 2 := by decide
                             rw [e] at h; exact (Option.some.inj h).symm⟩
  by_cases h2 : SX.S k = "line"
  · rw [h2] at h
    exact ⟨.b, key .b h2, by have e : List.lookup ("line" : Str) [("dot", (2 : Int)), ("line", 4), ("box", 4), ("ring", 3)] = some 4 := by decide
                             rw [e] at h; exact (Option.some.inj h).symm⟩
  by_cases h3 : SX.S k = "box"
  · rw [h3] at h
    exact ⟨.c, key .c h3, by have e : List.lookup ("box" : Str) [("dot", (2 : Int)), ("line", 4), ("box", 4), ("ring", 3)] = some 4 := by decide
                             rw [e] at h; exact (Option.some.inj h).symm⟩
  by_cases h4 : SX.S k = "ring"
  · rw [h4] at h
    exact ⟨.d, key .d h4, by have e : List.lookup ("ring" : Str) [("dot", (2 : Int)), ("line", 4), ("box", 4), ("ring", 3)] = some 3 := by decide
                             rw [e] at h; exact (Option.some.inj h).symm⟩
  · exfalso
    have b1 : (SX.S k == ("dot" : Str)) = false := beq_eq_false_iff_ne.mpr h1
    have b2 : (SX.S k == ("line" : Str)) = false := beq_eq_false_iff_ne.mpr h2
    have b3 : (SX.S k == ("box" : Str)) = false := beq_eq_false_iff_ne.mpr h3
    have b4 : (SX.S k == ("ring" : Str)) = false := beq_eq_false_iff_ne.mpr h4
    simp only [List.lookup, b1, b2, b3, b4] at h
    cases h
theorem getI_of (i : S4) : getI tabC (SX.S (kindX i)) = some (manyS i : Int) := by
  rw [kindX_S]
  cases i <;> decide
theorem kOf_kindX (i : S4) : kOf (kindX i) = i := by cases i <;> decide +kernel
theorem kindX_inj {i j : S4} (h : kindX i = kindX j) : i = j := by rw [← kOf_kindX i, h, kOf_kindX]
/-- a row that is right -/
def rowOk (r : Tx) : Bool := match spl [32] 0 [] r with
  | [] => false
  | k :: ws => match getI tabC (SX.S k) with
    | none => false
    | some m => decide ((ws.length : Int) = m) && ws.all isInt
def shpOf (r : Tx) : Shp := match spl [32] 0 [] r with
  | [] => (.a, [])
  | k :: ws => (kOf k, ws.map numOf)
def rowsX (t : Tx) : List Tx := if t = [] then [] else spl [10] 0 [] t
theorem isInt_ok {a : Tx} (h : isInt a = true) : NumOk a := by
  unfold isInt at h
  rw [Bool.and_eq_true, Bool.and_eq_true, Bool.and_eq_true] at h
  obtain ⟨⟨⟨h1, h2⟩, h3⟩, _⟩ := h
  have h3 := of_decide_eq_true h3
  refine ⟨(fun z => by rw [z] at h1; exact absurd h1 (by decide)), h2, ?_⟩
  unfold unsg at h3
  split at h3
  · rw [List.length_tail] at h3; omega
  · omega
theorem rowOk_len {r : Tx} (h : rowOk r = true) : (shpOf r).2.length = manyS (shpOf r).1 := by
  unfold rowOk at h
  unfold shpOf
  split at h
  · cases h
  · rename_i k ws e
    split at h
    · cases h
    · rename_i m hm
      obtain ⟨i, rfl, rfl⟩ := getI_kind hm
      rw [Bool.and_eq_true] at h
      have := of_decide_eq_true h.1
      dsimp only
      rw [List.length_map, kOf_kindX]
      omega
/-- the text of a shape, of shapes -/
def rowX (s : Shp) : Tx := TL.joinL [32] (kindX s.1 :: s.2.map txI)
def drwX (l : List Shp) : Tx := TL.joinL [10] (l.map rowX)

/-! ### made, told, read -/
theorem fam_of {K : Frag} {CD CL CB CR : Addr} (a : Cl_Dot K CD) (b : Cl_Line K CL) (c : Cl_Box K CB) (d : Cl_Ring K CR) : FamC K (C4 CD CL CB CR) :=
  ⟨fun i => match i with | .a => a.cl | .b => b.cl | .c => c.cl | .d => d.cl, fun i => match i with | .a => a.n_kind | .b => b.n_kind | .c => c.n_kind | .d => d.n_kind,
    fun i => match i with | .a => a.n_numbers | .b => b.n_numbers | .c => c.n_numbers | .d => d.n_numbers, fun i => match i with | .a => a.n_handles | .b => b.n_handles | .c => c.n_handles | .d => d.n_handles⟩
section
variable {K : Frag} {w : Wd} {n : Option Nat} {Γ : TL.Env} {te ta tb : TE} {CD CL CB CR : Addr}
theorem we_asShp {C : Addr} {k : Shp → NK} (h : WpE K w n Γ te (tObj C fldsShp) (fun x n Γ => C4 CD CL CB CR x.1 = C ∧ k x n Γ)) : WpE K w n Γ te (tShp CD CL CB CR) k := fun σ B H ok Q c => h σ B H ok Q fun x v n' Γ' B' H' ⟨hx, q⟩ e o r => c x v n' Γ' B' H' q e o (by
  show (tObj (C4 CD CL CB CR x.1) fldsShp).rep B' v x
  rw [hx]; exact r)
/-- a text known by its signs -/
theorem we_SX {k : Tx → NK} (h : WpE K w n Γ te tS (fun x n Γ => k x.cps.toList n Γ)) : WpE K w n Γ te tX k := fun σ B H ok Q c => h σ B H ok Q fun x v n' Γ' B' H' q e o r => c _ v n' Γ' B' H' q e o (by
  show v = V.str (SX.S x.cps.toList)
  rw [SX.S_tl]; exact r)
end
def S_shape_of (K : Frag) (CD CL CB CR : Addr) : FS K := { A := Tx × List Int × Unit, args := aCons tX (aCons (tL tI) aNil), ρ := Shp, res := fun x => .im (tShp CD CL CB CR) x, cost := 0, pre := fun a => ∃ i, a.1 = kindX i ∧ a.2.1.length = manyS i, post := fun a r => r = (kOf a.1, a.2.1) }
abbrev sp_shape_of (K : Frag) (CD CL CB CR : Addr) : Sp := (S_shape_of K CD CL CB CR).sp
instance (K : Frag) (CD CL CB CR : Addr) : Ents (S_shape_of K CD CL CB CR).args := inferInstanceAs (Ents (aCons tX (aCons (tL tI) aNil)))
theorem cps_ne {i j : S4} (h : kindX i = (kindS j).cps.toList) : i = j := kindX_inj h
theorem ok_shape_of {P : Program} {w : World} {K : Frag} {mg : Str → Option Value} {base : Heap} {f C_Shape C_Dot C_Line C_Box C_Ring C_Drawing C_BadRow C_TugError : Addr} {fd : FuncData} (F : Fun K "shape_of" "shape_of" s_shape_of f fd) (T : Bts K mg) (cl_Shape : Cl_Shape K C_Shape) (cl_Dot : Cl_Dot K C_Dot) (cl_Line : Cl_Line K C_Line) (cl_Box : Cl_Box K C_Box) (cl_Ring : Cl_Ring K C_Ring) (cl_Drawing : Cl_Drawing K C_Drawing) (XC : Xc P K mg C_BadRow C_TugError) (FM_Shp : FamF4 K C_Shape C_Dot C_Line C_Box C_Ring) (m_Box : MadeBy P w K mg base CX0 2 C_Box "Box" ["self", "x", "y", "u", "v"] (sp_Box_init K C_Box)) (m_Line : MadeBy P w K mg base CX0 2 C_Line "Line" ["self", "x", "y", "u", "v"] (sp_Line_init K C_Line)) (m_Ring : MadeBy P w K mg base CX0 2 C_Ring "Ring" ["self", "x", "y", "r"] (sp_Ring_init K C_Ring)) (m_Dot : MadeBy P w K mg base CX0 2 C_Dot "Dot" ["self", "x", "y"] (sp_Dot_init K C_Dot)) : FnOk P w K mg base CX0 4 f fd ["kind", "numbers"] (sp_shape_of K C_Dot C_Line C_Box C_Ring) := by
  refine F.ok sc_shape_of (fun vs H Q E h => fs_len h) (fun cdv A outer s H vs Q E hr h => ⟨_, (pss_cons (ps_if (pt_cmpR (op_eqK K rfl hr.units) (pv 0) pe_str (nomark _)) (pss_one (ps_ret (pe_makeC m_Dot (hr.mono (by decide)) rfl (pa_cons (pe_ix (ix_seqK K rfl) (pv 1) pe_int (fun _ _ => rfl)) (pa_cons (pe_ix (ix_seqK K rfl) (pv 1) pe_int (fun _ _ => rfl)) pa_nil))))) pss_nil)
      (pss_cons (ps_if (pt_cmpR (op_eqK K rfl hr.units) (pv 0) pe_str (nomark _)) (pss_one (ps_ret (pe_makeC m_Ring (hr.mono (by decide)) rfl (pa_cons (pe_ix (ix_seqK K rfl) (pv 1) pe_int (fun _ _ => rfl)) (pa_cons (pe_ix (ix_seqK K rfl) (pv 1) pe_int (fun _ _ => rfl)) (pa_cons (pe_ix (ix_seqK K rfl) (pv 1) pe_int (fun _ _ => rfl)) pa_nil)))))) pss_nil)
      (pss_cons (ps_if (pt_cmpR (op_eqK K rfl hr.units) (pv 0) pe_str (nomark _)) (pss_one (ps_ret (pe_makeC m_Line (hr.mono (by decide)) rfl (pa_cons (pe_ix (ix_seqK K rfl) (pv 1) pe_int (fun _ _ => rfl)) (pa_cons (pe_ix (ix_seqK K rfl) (pv 1) pe_int (fun _ _ => rfl)) (pa_cons (pe_ix (ix_seqK K rfl) (pv 1) pe_int (fun _ _ => rfl)) (pa_cons (pe_ix (ix_seqK K rfl) (pv 1) pe_int (fun _ _ => rfl)) pa_nil))))))) pss_nil)
      (pss_one (ps_ret (pe_makeC m_Box (hr.mono (by decide)) rfl (pa_cons (pe_ix (ix_seqK K rfl) (pv 1) pe_int (fun _ _ => rfl)) (pa_cons (pe_ix (ix_seqK K rfl) (pv 1) pe_int (fun _ _ => rfl)) (pa_cons (pe_ix (ix_seqK K rfl) (pv 1) pe_int (fun _ _ => rfl)) (pa_cons (pe_ix (ix_seqK K rfl) (pv 1) pe_int (fun _ _ => rfl)) pa_nil)))))))))), fs_body (Nat.le_of_ble_eq_true rfl) h fun w n a hp hm => ?_⟩)
  try dsimp only [S_shape_of, List.map_cons, List.map_nil] at hp hm ⊢

  obtain ⟨kd, nums, _⟩ := a
  obtain ⟨i, hk, hl⟩ : ∃ i, kd = kindX i ∧ nums.length = manyS i := hp
  subst hk
  show WpS K w n [.im tX (kindX i), .im (tL tI) nums] _ (fun x => .im (tShp C_Dot C_Line C_Box C_Ring) x) _ _ _ (fun r n' => r = (kOf (kindX i), nums) ∧ CLe 0 n n')
  rw [kOf_kindX]
  cases i with
  | a =>
    obtain ⟨x, y, rfl⟩ := len2 hl
    refine ws_seq <| ws_if <| wt_val <| we_eqX <| we_var rfl <| we_X <| dec2 (fun _ => ?_) (fun h => absurd (show kindX .a = _ from rfl) h)
    refine ws_ret <| we_asShp <| we_mk0 (S := S_Dot_init K C_Dot) (fun a => (.a, [a.1, a.2.1])) rfl (fun _ => trivial) (fun _ _ h => h) <| ?_
    exact wa_cons <| we_ixL <| we_var rfl <| we_int ⟨_, rfl, wa_cons <| we_ixL <| we_var rfl <| we_int ⟨_, rfl, wa_nil ⟨rfl, rfl, CLe_refl⟩⟩⟩
  | d =>
    obtain ⟨x, y, u, rfl⟩ := len3 hl
    refine ws_seq <| ws_if <| wt_val <| we_eqX <| we_var rfl <| we_X <| dec2 (fun h => absurd (cps_ne (j := .a) h) (by decide)) (fun _ => ws_next ?_)
    refine ws_seq <| ws_if <| wt_val <| we_eqX <| we_var rfl <| we_X <| dec2 (fun _ => ?_) (fun h => absurd (show kindX .d = _ from rfl) h)
    refine ws_ret <| we_asShp <| we_mk0 (S := S_Ring_init K C_Ring) (fun a => (.d, [a.1, a.2.1, a.2.2.1])) rfl (fun _ => trivial) (fun _ _ h => h) <| ?_
    exact wa_cons <| we_ixL <| we_var rfl <| we_int ⟨_, rfl, wa_cons <| we_ixL <| we_var rfl <| we_int ⟨_, rfl, wa_cons <| we_ixL <| we_var rfl <| we_int ⟨_, rfl, wa_nil ⟨rfl, rfl, CLe_refl⟩⟩⟩⟩
  | b =>
    obtain ⟨x, y, u, v, rfl⟩ := len4 hl
    refine ws_seq <| ws_if <| wt_val <| we_eqX <| we_var rfl <| we_X <| dec2 (fun h => absurd (cps_ne (j := .a) h) (by decide)) (fun _ => ws_next ?_)
    refine ws_seq <| ws_if <| wt_val <| we_eqX <| we_var rfl <| we_X <| dec2 (fun h => absurd (cps_ne (j := .d) h) (by decide)) (fun _ => ws_next ?_)
    refine ws_seq <| ws_if <| wt_val <| we_eqX <| we_var rfl <| we_X <| dec2 (fun _ => ?_) (fun h => absurd (show kindX .b = _ from rfl) h)
    refine ws_ret <| we_asShp <| we_mk0 (S := S_Line_init K C_Line) (fun a => (.b, [a.1, a.2.1, a.2.2.1, a.2.2.2.1])) rfl (fun _ => trivial) (fun _ _ h => h) <| ?_
    exact wa_cons <| we_ixL <| we_var rfl <| we_int ⟨_, rfl, wa_cons <| we_ixL <| we_var rfl <| we_int ⟨_, rfl, wa_cons <| we_ixL <| we_var rfl <| we_int ⟨_, rfl, wa_cons <| we_ixL <| we_var rfl <| we_int ⟨_, rfl, wa_nil ⟨rfl, rfl, CLe_refl⟩⟩⟩⟩⟩
  | c =>
    obtain ⟨x, y, u, v, rfl⟩ := len4 hl
    refine ws_seq <| ws_if <| wt_val <| we_eqX <| we_var rfl <| we_X <| dec2 (fun h => absurd (cps_ne (j := .a) h) (by decide)) (fun _ => ws_next ?_)
    refine ws_seq <| ws_if <| wt_val <| we_eqX <| we_var rfl <| we_X <| dec2 (fun h => absurd (cps_ne (j := .d) h) (by decide)) (fun _ => ws_next ?_)
    refine ws_seq <| ws_if <| wt_val <| we_eqX <| we_var rfl <| we_X <| dec2 (fun h => absurd (cps_ne (j := .b) h) (by decide)) (fun _ => ws_next ?_)
    refine ws_ret <| we_asShp <| we_mk0 (S := S_Box_init K C_Box) (fun a => (.c, [a.1, a.2.1, a.2.2.1, a.2.2.2.1])) rfl (fun _ => trivial) (fun _ _ h => h) <| ?_
    exact wa_cons <| we_ixL <| we_var rfl <| we_int ⟨_, rfl, wa_cons <| we_ixL <| we_var rfl <| we_int ⟨_, rfl, wa_cons <| we_ixL <| we_var rfl <| we_int ⟨_, rfl, wa_cons <| we_ixL <| we_var rfl <| we_int ⟨_, rfl, wa_nil ⟨rfl, rfl, CLe_refl⟩⟩⟩⟩⟩
/-! ### a word, a row -/
def Asc (a : Tx) : Prop := ∀ c ∈ a, c < 128
theorem Asc.unsg {a : Tx} {c : Nat} (h : Asc a) : Asc (unsg c a) := by
  unfold TL.unsg
  split
  · exact fun d hd => h d (List.mem_of_mem_tail hd)
  · exact h
theorem unsg_len {a : Tx} {c : Nat} : (unsg c a).length ≤ a.length := by
  unfold TL.unsg
  split
  · rw [List.length_tail]; omega
  · exact Nat.le_refl _
def S_is_integer (K : Frag) : FS K := { A := Tx × Unit, args := aCons tX aNil, ρ := Bool, res := fun x => .im tBo x, cost := 0, pre := fun a => Asc a.1 ∧ a.1.length ≤ 100000, post := fun a r => r = isInt a.1 }
abbrev sp_is_integer (K : Frag) : Sp := (S_is_integer K).sp
instance (K : Frag) : Ents (S_is_integer K).args := inferInstanceAs (Ents (aCons tX aNil))
theorem ok_is_integer {P : Program} {w : World} {K : Frag} {mg : Str → Option Value} {base : Heap} {f C_Shape C_Dot C_Line C_Box C_Ring C_Drawing C_BadRow C_TugError : Addr} {fd : FuncData} (F : Fun K "is_integer" "is_integer" s_is_integer f fd) (T : Bts K mg) (cl_Shape : Cl_Shape K C_Shape) (cl_Dot : Cl_Dot K C_Dot) (cl_Line : Cl_Line K C_Line) (cl_Box : Cl_Box K C_Box) (cl_Ring : Cl_Ring K C_Ring) (cl_Drawing : Cl_Drawing K C_Drawing) (XC : Xc P K mg C_BadRow C_TugError) (FM_Shp : FamF4 K C_Shape C_Dot C_Line C_Box C_Ring) : FnOk P w K mg base CX0 1 f fd ["word"] (sp_is_integer K) := by
  refine F.ok sc_is_integer (fun vs H Q E h => fs_len h) (fun cdv A outer s H vs Q E hr h => ⟨_, (pss_cons (ps_set (i := 1) sc_is_integer.nd rfl (by first | exact Or.inl rfl | exact Or.inr rfl) (pe_m1 PySem.F.slot_str_removeprefix PySem.F.type_str_removeprefix mt_remPre (pv 0) pe_str))
      (pss_cons (ps_if (PW.pt (pw_or (pt_not (pt_truthK K rfl (pe_m0 PySem.F.slot_str_isdigit PySem.F.type_str_isdigit mt_isdigitK (pv 1)) (by intro _; rfl))) (pw_or1 (pt_cmpR op_gtU (pe_callB (call_lenK K rfl) (by rfl) T.b_len PySem.boot_len (pa_cons (pv 1) pa_nil)) (C8.pe_gc (v := (.int (700))) rfl T.g_DIGITS) (nomark _))))) (pss_one (ps_ret pe_bl)) pss_nil)
      (pss_one (ps_ret (pe_or (pe_cmpR (op_eqK K rfl hr.units) (pv 0) pe_str (nomark _)) (pe_one (pe_not (pe_m1 PySem.F.slot_str_startswith PySem.F.type_str_startswith mt_starts (pv 1) pe_str)))))))), fs_body (Nat.le_of_ble_eq_true rfl) h fun w n a hp hm => ?_⟩)
  try dsimp only [S_is_integer, List.map_cons, List.map_nil] at hp hm ⊢

  obtain ⟨a, _⟩ := a
  obtain ⟨ha, hl⟩ : Asc a ∧ a.length ≤ 100000 := hp
  show WpS K w n [.im tX a, .no] _ (fun x => .im tBo x) _ _ _ (fun r n' => r = isInt a ∧ CLe 0 n n')
  have hu := unsg_len (a := a) (c := 45)
  refine ws_seq <| ws_set (t := tX) <| we_remPre (c := 45) rfl <| we_var rfl ⟨hl, setE_go (by dsimp only [List.set]) ?_⟩
  have red : isInt a = (((!(unsg 45 a).isEmpty && (unsg 45 a).all dgB) && decide ((unsg 45 a).length ≤ 700)) && (decide (a = [48]) || !decide ((unsg 45 a).head? = some 48))) := rfl
  refine ws_seq <| ws_if <| wt_or <| wt_not <| wt_truB <| we_isdigit <| we_var rfl ⟨ha.unsg, ?_⟩
  cases h1 : (!(unsg 45 a).isEmpty && (unsg 45 a).all dgB) with
  | false =>
    refine false2 <| ws_ret <| we_bool ⟨?_, CLe_refl⟩
    rw [red, h1]; rfl
  | true =>
    refine true2 <| wt_val <| we_gt <| we_lenX <| we_var rfl ⟨by omega, we_int <| dec2 (fun h2 => ?_) (fun h2 => ws_next ?_)⟩
    · refine ws_ret <| we_bool ⟨?_, CLe_refl⟩
      rw [red, h1, show decide ((unsg 45 a).length ≤ 700) = false from decide_eq_false (by omega)]; rfl
    · refine ws_ret <| we_orV <| we_eqX <| we_var rfl <| we_X ⟨fun h3 => ⟨?_, CLe_refl⟩, fun h3 => we_notV <| we_starts1 (c := 48) rfl <| we_var rfl ⟨?_, CLe_refl⟩⟩
      · rw [red, h1, show decide ((unsg 45 a).length ≤ 700) = true from decide_eq_true (by omega), show decide (a = [48]) = true from h3]; rfl
      · rw [red, h1, show decide ((unsg 45 a).length ≤ 700) = true from decide_eq_true (by omega), show decide (a = [48]) = false from h3]; rfl

def badRow (C : Addr) (l : Int) : Err := ⟨C, [("line", ⟨tI, l⟩)]⟩
theorem spl_mem {sep : Tx} : ∀ (a : Tx) (k : Nat) (cur p : Tx), p ∈ spl sep k cur a → (∀ c ∈ p, c ∈ cur ∨ c ∈ a) ∧ p.length ≤ cur.length + a.length
  | [], k, cur, p, h => by
    rw [TL.spl_nil] at h
    rw [List.mem_singleton.mp h]
    exact ⟨fun c hc => .inl hc, by simp⟩
  | c :: r, k + 1, cur, p, h => by
    have h : p ∈ spl sep k cur r := h
    obtain ⟨h1, h2⟩ := spl_mem r k cur p h
    exact ⟨fun d hd => (h1 d hd).imp id fun z => List.mem_cons_of_mem _ z, by rw [List.length_cons]; omega⟩
  | c :: r, 0, cur, p, h => by
    have e : spl sep 0 cur (c :: r) = if TL.pre sep (c :: r) = true then cur :: spl sep (sep.length - 1) [] r else spl sep 0 (cur ++ [c]) r := rfl
    rw [e] at h
    split at h
    · rcases List.mem_cons.mp h with rfl | h
      · exact ⟨fun d hd => .inl hd, by rw [List.length_cons]; omega⟩
      · obtain ⟨h1, h2⟩ := spl_mem r _ [] p h
        refine ⟨fun d hd => .inr ((h1 d hd).elim (fun z => by cases z) fun z => List.mem_cons_of_mem _ z), ?_⟩
        rw [List.length_cons]
        have : ([] : Tx).length = 0 := rfl
        omega
    · obtain ⟨h1, h2⟩ := spl_mem r 0 (cur ++ [c]) p h
      refine ⟨fun d hd => ?_, by rw [List.length_append] at h2; rw [List.length_cons]; simp at h2; omega⟩
      rcases h1 d hd with z | z
      · rcases List.mem_append.mp z with z | z
        · exact .inl z
        · rw [List.mem_singleton.mp z]; exact .inr List.mem_cons_self
      · exact .inr (List.mem_cons_of_mem _ z)
theorem spl_many {sep : Tx} : ∀ (a : Tx) (k : Nat) (cur : Tx), (spl sep k cur a).length ≤ a.length + 1
  | [], k, cur => by rw [TL.spl_nil]; simp
  | c :: r, k + 1, cur => by
    have h := spl_many (sep := sep) r k cur
    show (spl sep k cur r).length ≤ _
    rw [List.length_cons]; omega
  | c :: r, 0, cur => by
    have e : spl sep 0 cur (c :: r) = if TL.pre sep (c :: r) = true then cur :: spl sep (sep.length - 1) [] r else spl sep 0 (cur ++ [c]) r := rfl
    rw [e]
    split
    · have h := spl_many (sep := sep) r (sep.length - 1) []
      rw [List.length_cons, List.length_cons]; omega
    · have h := spl_many (sep := sep) r 0 (cur ++ [c])
      rw [List.length_cons]; omega
theorem spl_ne {sep : Tx} : ∀ (a : Tx) (k : Nat) (cur : Tx), spl sep k cur a ≠ []
  | [], k, cur => by rw [TL.spl_nil]; simp
  | c :: r, k + 1, cur => spl_ne (sep := sep) r k cur
  | c :: r, 0, cur => by
    have e : spl sep 0 cur (c :: r) = if TL.pre sep (c :: r) = true then cur :: spl sep (sep.length - 1) [] r else spl sep 0 (cur ++ [c]) r := rfl
    rw [e]
    split
    · simp
    · exact spl_ne (sep := sep) r 0 (cur ++ [c])
theorem spl_cons (a : Tx) : ∃ k ws, spl [32] 0 [] a = k :: ws := by
  cases h : spl [32] 0 [] a with
  | nil => exact absurd h (spl_ne _ _ _)
  | cons k ws => exact ⟨k, ws, rfl⟩
theorem spl_all {sep a p : Tx} (ha : Asc a) (h : p ∈ spl sep 0 [] a) : Asc p ∧ p.length ≤ a.length := by
  obtain ⟨h1, h2⟩ := spl_mem a 0 [] p h
  exact ⟨fun c hc => ha c ((h1 c hc).elim (fun z => by cases z) id), by simpa using h2⟩
def S_read_row (K : Frag) (CD CL CB CR CE : Addr) : FX K := { A := Tx × Int × Unit, args := aCons tX (aCons tI aNil), ρ := Shp, res := fun x => .im (tShp CD CL CB CR) x, cost := 0, pre := fun a => Asc a.1 ∧ a.1.length ≤ 90000, post := fun a r => rowOk a.1 = true ∧ r = shpOf a.1, xpost := fun a er => rowOk a.1 = false ∧ er = badRow CE a.2.1 }
abbrev sp_read_row (K : Frag) (CD CL CB CR CE : Addr) : Sp := (S_read_row K CD CL CB CR CE).sp
instance (K : Frag) (CD CL CB CR CE : Addr) : Ents (S_read_row K CD CL CB CR CE).args := inferInstanceAs (Ents (aCons tX (aCons tI aNil)))
theorem ok_read_row {P : Program} {w : World} {K : Frag} {mg : Str → Option Value} {base : Heap} {f C_Shape C_Dot C_Line C_Box C_Ring C_Drawing C_BadRow C_TugError : Addr} {fd : FuncData} (F : Fun K "read_row" "read_row" s_read_row f fd) (T : Bts K mg) (cl_Shape : Cl_Shape K C_Shape) (cl_Dot : Cl_Dot K C_Dot) (cl_Line : Cl_Line K C_Line) (cl_Box : Cl_Box K C_Box) (cl_Ring : Cl_Ring K C_Ring) (cl_Drawing : Cl_Drawing K C_Drawing) (XC : Xc P K mg C_BadRow C_TugError) (FM_Shp : FamF4 K C_Shape C_Dot C_Line C_Box C_Ring) (c_shape_of : Callee P w K mg base CX0 4 "shape_of" ["kind", "numbers"] (sp_shape_of K C_Dot C_Line C_Box C_Ring)) (c_is_integer : Callee P w K mg base CX0 1 "is_integer" ["word"] (sp_is_integer K)) : FnOk P w K mg base (L2.CX P w) 5 f fd ["row", "line"] (sp_read_row K C_Dot C_Line C_Box C_Ring C_BadRow) := by
  refine F.okX sc_read_row (fun vs H Q E h => fx_len h) (fun cdv A outer s H vs Q E hr h => ⟨_, (pss_cons (ps_asg (pe_m1 PySem.F.slot_str_split PySem.F.type_str_split mt_splitS (pv 0) pe_str) (pg_star K rfl rfl (pgs_cons (pg_name (i := 2) sc_read_row.nd rfl (by first | exact Or.inl rfl | exact Or.inr rfl)) (pgs_starred (pg_name (i := 3) sc_read_row.nd rfl (by first | exact Or.inl rfl | exact Or.inr rfl)) pgs_nil))))
      (pss_cons (ps_if (PW.pt (pw_or (pt_cmpR (op_tabNotIn K rfl) (pv 2) (pe_tabN K (D := [("dot", 2), ("line", 4), ("box", 4), ("ring", 3)]) rfl T.tb_COUNTS) (by with_unfolding_all rfl)) (pw_or1 (pt_cmpR (op_neK K rfl hr.units) (pe_callB (call_lenK K rfl) (by rfl) T.b_len PySem.boot_len (pa_cons (pv 3) pa_nil)) (pe_tabIx K rfl (pe_tabN K (D := [("dot", 2), ("line", 4), ("box", 4), ("ring", 3)]) rfl T.tb_COUNTS) (pv 2) (fun _ _ => rfl)) (nomark _))))) (pss_one (ps_raiseE rfl XC.e_BadRow hr (by decide) (takes_of rfl rfl rfl rfl) rfl (pa_cons (pv 1) pa_nil))) pss_nil)
      (pss_cons (ps_for (passes_of rfl) rfl (pi_seqK K rfl (pv 3)) (pg_name (i := 4) sc_read_row.nd rfl (by first | exact Or.inl rfl | exact Or.inr rfl)) (pss_one (ps_if (pt_not (pt_truthK K rfl (pe_callC c_is_integer (hr.mono (by decide)) rfl (pa_cons (pv 4) pa_nil)) (by intro _; rfl))) (pss_one (ps_raiseE rfl XC.e_BadRow hr (by decide) (takes_of rfl rfl rfl rfl) rfl (pa_cons (pv 1) pa_nil))) pss_nil)))
      (pss_one (ps_ret (pe_callC c_shape_of (hr.mono (by decide)) rfl (pa_cons (pv 2) (pa_cons (pe_lc (own := [("word", 4)]) rfl sc_read_row.nd (pi_seqK K rfl (pv 3)) (blkOk_by (N := ["row", "line", "kind", "words", "word"]) (sc := defScope s_read_row) (by decide +kernel)) (fun _ _ _ _ _ => (pg_name (i := 4) sc_read_row.nd rfl (by first | exact Or.inl rfl | exact Or.inr rfl))) (fun _ _ _ _ _ => pts_nil) (fun _ _ _ _ _ => (pe_callTy (call_intX T.dig) (by rfl) T.b_int PyProof.Rows.boot_int (pa_cons (pv 4) pa_nil)))) pa_nil)))))))), fx_body (Nat.le_of_ble_eq_true rfl) h fun w n a hp hm hW => ?_⟩)
  try dsimp only [S_read_row, List.map_cons, List.map_nil] at hp hm hW ⊢

  obtain ⟨a, ln, _⟩ := a
  obtain ⟨ha, hl⟩ : Asc a ∧ a.length ≤ 90000 := hp
  obtain ⟨kd, ws, hsp⟩ := spl_cons a
  have hin : ∀ p ∈ kd :: ws, Asc p ∧ p.length ≤ 100000 := fun p hp => by
    rw [← hsp] at hp
    obtain ⟨h1, h2⟩ := spl_all ha hp
    exact ⟨h1, by omega⟩
  have rok : rowOk a = (match getI tabC (SX.S kd) with | none => false | some m => decide ((ws.length : Int) = m) && ws.all isInt) := by unfold rowOk; rw [hsp] <;> rfl
  have rsh : shpOf a = (kOf kd, ws.map numOf) := by unfold shpOf; rw [hsp]
  have wl : ws.length ≤ 100000 := by
    have h := spl_many (sep := [32]) a 0 []
    rw [hsp, List.length_cons] at h
    omega
  show WpS K w n [.im tX a, .im tI ln, .no, .no, .no] _ (fun x => .im (tShp C_Dot C_Line C_Box C_Ring) x) _ _ _ (fun r n' => (rowOk a = true ∧ r = shpOf a) ∧ CLe 0 n n')
  refine ws_seq <| ws_asg (t := tL tX) <| we_ofM' <| wm_splitX (b := [32]) rfl (by simp) rfl <| we_var rfl ⟨by omega, _, rfl, ?_⟩
  rw [hsp]
  refine wg_star <| setE_go (by dsimp only [List.set]) ?_
  have bad : ∀ {Γ' : TL.Env}, rowOk a = false → WpS K w n [.im tX a, .im tI ln, .im tX kd, .im (tL tX) ws, .no] (tRaiseE C_BadRow ["line"] _ (tCons (tVar 1) tNil)) (fun x => .im (tShp C_Dot C_Line C_Box C_Ring) x) (fun _ _ => False) (fun _ _ => False) (fun _ _ => False) (fun r n' => (rowOk a = true ∧ r = shpOf a) ∧ CLe 0 n n') := fun {_} h => ws_raiseE hW (wf_cons (t := tI) <| we_var rfl <| wf_nil ⟨⟨h, rfl⟩, CLe_refl⟩)
  refine ws_seq <| ws_if <| wt_or <| wt_val <| we_tabNotIn <| we_var rfl ?_
  cases hg : getI tabC (SX.S kd) with
  | none =>
    rw [show getI [("dot", 2), ("line", 4), ("box", 4), ("ring", 3)] (SX.S kd) = none from hg]
    refine true2 <| ws_raiseE hW (wf_cons (t := tI) <| we_var rfl <| wf_nil ⟨⟨?_, rfl⟩, CLe_refl⟩)
    rw [rok, hg]
  | some m =>
    rw [hg] at rok
    have rok : rowOk a = (decide ((ws.length : Int) = m) && ws.all isInt) := rok
    rw [show getI [("dot", 2), ("line", 4), ("box", 4), ("ring", 3)] (SX.S kd) = some m from hg]
    refine false2 <| wt_val <| we_neI <| we_lenL <| we_var rfl <| we_tabIx <| we_var rfl ⟨m, hg, dec2n (fun h1 => ?_) (fun h1 => ws_next ?_)⟩
    · refine ws_raiseE hW (wf_cons (t := tI) <| we_var rfl <| wf_nil ⟨⟨?_, rfl⟩, CLe_refl⟩)
      show rowOk a = false
      rw [rok, show decide ((ws.length : Int) = m) = false from decide_eq_false h1]; rfl
    · rw [show decide ((ws.length : Int) = m) = true from decide_eq_true h1, Bool.true_and] at rok
      refine ws_seq <| ws_for (I := fun xs i n' Γ' => xs = ws ∧ n' = n ∧ (∀ j, j < i → ∀ x, ws[j]? = some x → isInt x = true) ∧ Γ' = [.im tX a, .im tI ln, .im tX kd, .im (tL tX) ws, .no]) <| wi_list <| we_var rfl ⟨Up.of ⟨rfl, rfl, fun j hj => absurd hj (Nat.not_lt_zero _), rfl⟩, ?_, ?_⟩
      · rintro i x n' _ hx ⟨_, rfl, hno, rfl⟩
        refine wg_name <| setE_go (by dsimp only [List.set]) ?_
        obtain ⟨q1, q2⟩ := hin x (List.mem_cons_of_mem _ (List.mem_of_getElem? hx))
        refine ws_if <| wt_not <| wt_truB <| we_call0 (S := S_is_integer K) rfl rfl <| wa_cons <| we_var rfl <| wa_nil ⟨⟨q1, q2⟩, ?_⟩
        rintro _ rfl
        cases h2 : isInt x with
        | false =>
          refine false2 <| ws_raiseE hW (wf_cons (t := tI) <| we_var rfl <| wf_nil ⟨⟨?_, rfl⟩, CLe_refl⟩)
          show rowOk a = false
          rw [rok]
          cases h3 : ws.all isInt with
          | false => rfl
          | true => rw [List.all_eq_true.mp h3 x (List.mem_of_getElem? hx)] at h2; cases h2
        | true =>
          refine true2 <| ws_next (Up.drops [4] ⟨rfl, rfl, fun j hj y hy => ?_, rfl⟩)
          by_cases e : j = i
          · subst e; rw [hx] at hy; cases hy; exact h2
          · exact hno j (by omega) y hy
      · rintro n' _ ⟨_, rfl, hno, rfl⟩
        have hall : ws.all isInt = true := List.all_eq_true.mpr fun x hx => by
          obtain ⟨j, hj, e⟩ := List.mem_iff_getElem.mp hx
          exact hno j hj x (by rw [List.getElem?_eq_getElem hj, e])
        obtain ⟨i, hk, hm⟩ := getI_kind hg
        refine ws_ret <| we_call0 (S := S_shape_of K C_Dot C_Line C_Box C_Ring) rfl rfl <| wa_cons <| we_var rfl <| wa_cons (t := tL tI) <| we_ofM' <| wm_map (t := tX) tI numOf (gsl_name (by decide)) <| wi_list <| we_var rfl ⟨rfl, wl, ?_, ?_⟩
        · rintro w' j x hx
          refine setE_go (by dsimp only [List.set, hideE, Ent.hide, List.map]) <| wg_name <| setE_go (by dsimp only [List.set]) ?_
          exact we_intX <| we_var rfl ⟨isInt_ok (List.all_eq_true.mp hall x (List.mem_of_getElem? hx)), rfl, rfl⟩
        · refine ⟨_, rfl, wa_nil ⟨⟨i, hk, by rw [List.length_map]; omega⟩, ?_⟩⟩
          rintro _ rfl
          exact ⟨⟨by rw [rok, hall], rsh.symm⟩, CLe_refl⟩

/-! ### drawings -/
abbrev Drw := List Shp
def fldsDrw (CD CL CB CR : Addr) (l : Drw) : Flds := [("row", ⟨tL (tI), l.flatMap fun s => s.2⟩), ("kinds", ⟨tU tS, l.map fun s => kindS s.1⟩), ("shapes", ⟨tU (tShp CD CL CB CR), l⟩)]
abbrev tDrw (CW CD CL CB CR : Addr) : Ty Drw := tObj CW (fldsDrw CD CL CB CR)
def DrwOk (l : Drw) : Prop := l.length ≤ 25000 ∧ ∀ s ∈ l, s.2.length = manyS s.1
theorem DrwOk.row {l : Drw} (h : DrwOk l) : (l.flatMap fun s => s.2).length ≤ 100000 := by
  have : ∀ {l : Drw}, (∀ s ∈ l, s.2.length = manyS s.1) → (l.flatMap fun s => s.2).length ≤ 4 * l.length := fun {l} => by
    induction l with
    | nil => intro _; simp
    | cons s l ih =>
      intro h
      have h1 := ih fun t ht => h t (by simp [ht])
      have h2 : s.2.length ≤ 4 := by rw [h s (by simp)]; cases s.1 <;> decide
      rw [List.flatMap_cons, List.length_append, List.length_cons]; omega
  have h1 := this h.2
  have h2 := h.1
  omega
def S_Drawing_init (K : Frag) (CW CD CL CB CR : Addr) (q : TZ.Sk) : IS K := { C := CW, A := Drw × Unit, args := aCons (tQ q (tShp CD CL CB CR)) aNil, ρ := Drw, flds := fldsDrw CD CL CB CR, cost := 0, pre := fun a => DrwOk a.1, post := fun a r => r = a.1 }
abbrev sp_Drawing_init (K : Frag) (CW CD CL CB CR : Addr) : Sp := SpEx fun q => (S_Drawing_init K CW CD CL CB CR q).sp
instance (K : Frag) (CW CD CL CB CR : Addr) (q : TZ.Sk) : Ents (S_Drawing_init K CW CD CL CB CR q).args := inferInstanceAs (Ents (aCons (tQ q (tShp CD CL CB CR)) aNil))
section
variable {q : TZ.Sk}
theorem ok_Drawing_init {P : Program} {w : World} {K : Frag} {mg : Str → Option Value} {base : Heap} {f C_Shape C_Dot C_Line C_Box C_Ring C_Drawing C_BadRow C_TugError : Addr} {fd : FuncData} (F : Fun K "__init__" "Drawing.__init__" s_Drawing_init f fd) (T : Bts K mg) (cl_Shape : Cl_Shape K C_Shape) (cl_Dot : Cl_Dot K C_Dot) (cl_Line : Cl_Line K C_Line) (cl_Box : Cl_Box K C_Box) (cl_Ring : Cl_Ring K C_Ring) (cl_Drawing : Cl_Drawing K C_Drawing) (XC : Xc P K mg C_BadRow C_TugError) (FM_Shp : FamF4 K C_Shape C_Dot C_Line C_Box C_Ring) : FnOk P w K mg base CX0 1 f fd ["self", "shapes"] ((S_Drawing_init K C_Drawing C_Dot C_Line C_Box C_Ring q).sp) := by
  refine F.ok sc_Drawing_init (fun vs H Q E h => is_len h) (fun cdv A outer s H vs Q E hr h => ⟨_, (pss_cons (ps_fld (pv 0) (pe_callTy (call_tupleK K rfl) (by rfl) T.b_tuple PyProof.Rows.boot_tuple (pa_cons (pv 1) pa_nil)) rfl)
      (pss_cons (ps_fld (pv 0) (pe_callTy (call_tupleK K rfl) (by rfl) T.b_tuple PyProof.Rows.boot_tuple (pa_cons (pe_lc (own := [("shape", 2)]) rfl sc_Drawing_init.nd (pi_seqK K rfl (pe_fld (pv 0) rfl)) (blkOk_by (N := ["self", "shapes", "shape", "number"]) (sc := defScope s_Drawing_init) (by decide +kernel)) (fun _ _ _ _ _ => (pg_name (i := 2) sc_Drawing_init.nd rfl (by first | exact Or.inl rfl | exact Or.inr rfl))) (fun _ _ _ _ _ => pts_nil) (fun _ _ _ _ _ => (pe_fldK K rfl (pv 2) rfl))) pa_nil)) rfl)
      (pss_one (ps_fld (pv 0) (pe_lc2 (own := [("shape", 2), ("number", 3)]) (vs1 := [3]) rfl sc_Drawing_init.nd (pi_seqK K rfl (pe_fld (pv 0) rfl)) (blkOk_by (N := ["self", "shapes", "shape", "number"]) (sc := defScope s_Drawing_init) (by decide +kernel)) (by decide) (fun _ _ _ _ _ => (pg_name (i := 2) sc_Drawing_init.nd rfl (by first | exact Or.inl rfl | exact Or.inr rfl))) (fun _ _ _ _ _ => pts_nil) (fun _ _ _ _ _ => (pi_seqK K rfl (pe_fldK K rfl (pv 2) rfl))) (fun _ _ _ _ _ => (pg_name (i := 3) sc_Drawing_init.nd rfl (by first | exact Or.inl rfl | exact Or.inr rfl))) (fun _ _ _ _ _ => pts_nil) (fun _ _ _ _ _ => (pv 3))) rfl)))), is_body (Nat.le_of_ble_eq_true rfl) h fun w n a p hp hm => ?_⟩)
  try dsimp only [S_Drawing_init, List.map_cons, List.map_nil] at hp hm ⊢

  obtain ⟨l, _⟩ := a
  have hp : DrwOk l := hp
  have FC := fam_of cl_Dot cl_Line cl_Box cl_Ring
  have hl := hp.1
  show WpS K w n [.mu (TL.rI C_Drawing p []), .im (tQ q (tShp C_Dot C_Line C_Box C_Ring)) l, .no, .no] _ (fun _ : Unit => Ent.no) _ _ _ _
  refine ws_seq <| ws_fldO (t := tU (tShp C_Dot C_Line C_Box C_Ring)) (p := p) cl_Drawing.cl cl_Drawing.n_shapes <| we_tupleQ3 <| we_var rfl ⟨[], rfl, by simp, setE_go (by dsimp only [List.set]) ?_⟩
  refine ws_seq <| ws_fldO (t := tU tS) (p := p) cl_Drawing.cl cl_Drawing.n_kinds <| we_tupleL <| we_ofM' <| wm_map (t := tShp C_Dot C_Line C_Box C_Ring) tS (fun s => kindS s.1) (gsl_name (by decide)) <| wi_tup <| we_fldO cl_Drawing.cl cl_Drawing.n_shapes rfl rfl ⟨rfl, by omega, ?_, ?_⟩
  · rintro w' i x hx
    refine setE_go (by dsimp only [List.set, hideE, Ent.hide, List.map]) <| wg_name <| setE_go (by dsimp only [List.set]) ?_
    exact we_kindF FC <| we_var rfl ⟨rfl, rfl⟩
  refine ⟨_, rfl, _, rfl, by simp, setE_go (by dsimp only [List.set]) ?_⟩
  refine ws_fldO (t := tL (tI)) (p := p) cl_Drawing.cl cl_Drawing.n_row <| we_ofM' <| wm_lc2 (t := tShp C_Dot C_Line C_Box C_Ring) (tI) (tI) (fun s => s.2) (gsl_name (by decide)) (gsl_name (by decide)) <| wi_tup <| we_fldO cl_Drawing.cl cl_Drawing.n_shapes rfl rfl ⟨rfl, hp.row, ?_, ?_⟩
  · rintro w' i x hx
    refine setE_go (by dsimp only [List.set, hideE, Ent.hide, List.map]) <| wg_name <| setE_go (by dsimp only [List.set]) ⟨rfl, wi_tup <| we_numF FC <| we_var rfl ⟨rfl, rfl, ?_⟩⟩
    rintro w2 j z hz
    refine setE_go (by dsimp only [List.set, hideE, Ent.hide, List.map]) <| wg_name <| setE_go (by dsimp only [List.set]) ?_
    exact we_var rfl ⟨rfl, hz⟩
  exact ⟨_, rfl, _, rfl, by simp, setE_go (by dsimp only [List.set]) ⟨l, _, rfl, CLe_refl, rfl, fun f => rfl⟩⟩
end
section
variable {K : Frag} {w : Wd} {n : Option Nat} {Γ : TL.Env} {tr : TA} {E : XK} {ta tb : TE} {CW CD CL CB CR : Addr}
theorem we_mkDrw (q : TZ.Sk) {k : Drw → NK} (h : WpA K w n Γ tr (aCons (tQ q (tShp CD CL CB CR)) aNil) (fun a n Γ => DrwOk a.1 ∧ k a.1 n Γ)) : WpE K w n Γ (tMake CW (sp_Drawing_init K CW CD CL CB CR) [] E tr) (tDrw CW CD CL CB CR) k :=
  we_make (S := S_Drawing_init K CW CD CL CB CR q) (fun _ _ _ _ z => ⟨q, z⟩) (R := aCons (tQ q (tShp CD CL CB CR)) aNil) (fun a => a) (fun {d B vs a} h => by rw [List.append_nil]; exact h)
    (fun σ B H ok Q c => h σ B H ok Q fun a vs n' Γ' B' H' h2 => c a vs n' Γ' B' H' ⟨h2.1, .inl rfl, fun x n2 hx hcc => by
      have hx : x = a.1 := hx
      subst hx
      rcases hcc with ⟨_, rfl⟩ | ⟨m, rfl, rfl⟩
      · exact h2.2
      · exact h2.2⟩)
theorem we_shapesD {k : List Shp → NK} (cl : Cl_Drawing K CW) (h : WpE K w n Γ ta (tDrw CW CD CL CB CR) (fun x n Γ => k x n Γ)) : WpE K w n Γ (tFld K ta "shapes") (tU (tShp CD CL CB CR)) k := we_fldF cl.cl cl.n_shapes (fun x : Drw => x) (fun _ => rfl) h
theorem we_kindsD {k : List Str → NK} (cl : Cl_Drawing K CW) (h : WpE K w n Γ ta (tDrw CW CD CL CB CR) (fun x n Γ => k (x.map fun s => kindS s.1) n Γ)) : WpE K w n Γ (tFld K ta "kinds") (tU tS) k := we_fldF cl.cl cl.n_kinds (fun x : Drw => x.map fun s => kindS s.1) (fun _ => rfl) h
theorem we_rowD {k : List Int → NK} (cl : Cl_Drawing K CW) (h : WpE K w n Γ ta (tDrw CW CD CL CB CR) (fun x n Γ => k (x.flatMap fun s => s.2) n Γ)) : WpE K w n Γ (tFld K ta "row") (tL (tI)) k := we_fldF cl.cl cl.n_row (fun x : Drw => x.flatMap fun s => s.2) (fun _ => rfl) h
end
def S_Drawing_len (K : Frag) (CW CD CL CB CR : Addr) : FS K := { A := Drw × Unit, args := aCons (tDrw CW CD CL CB CR) aNil, ρ := Int, res := fun x => .im tI x, cost := 0, pre := fun _ => True, post := fun a r => r = (a.1.length : Int) }
abbrev sp_Drawing_len (K : Frag) (CW CD CL CB CR : Addr) : Sp := (S_Drawing_len K CW CD CL CB CR).sp
instance (K : Frag) (CW CD CL CB CR : Addr) : Ents (S_Drawing_len K CW CD CL CB CR).args := inferInstanceAs (Ents (aCons (tDrw CW CD CL CB CR) aNil))
/-! ### drawings: read -/
def S_Drawing_read (K : Frag) (CW CD CL CB CR CE : Addr) : FX K := { A := Unit × Tx × Unit, args := aCons (tCls CW) (aCons tX aNil), ρ := Drw, res := fun x => .im (tDrw CW CD CL CB CR) x, cost := 0, pre := fun a => Asc a.2.1 ∧ a.2.1.length ≤ 90000 ∧ (rowsX a.2.1).length ≤ 25000, post := fun a r => (∀ x ∈ rowsX a.2.1, rowOk x = true) ∧ r = (rowsX a.2.1).map shpOf, xpost := fun a er => ∃ (i : Nat) (x : Tx), (rowsX a.2.1)[i]? = some x ∧ rowOk x = false ∧ (∀ j y, j < i → (rowsX a.2.1)[j]? = some y → rowOk y = true) ∧ er = badRow CE ((i : Int) + 1) }
abbrev sp_Drawing_read (K : Frag) (CW CD CL CB CR CE : Addr) : Sp := (S_Drawing_read K CW CD CL CB CR CE).sp
instance (K : Frag) (CW CD CL CB CR CE : Addr) : Ents (S_Drawing_read K CW CD CL CB CR CE).args := inferInstanceAs (Ents (aCons (tCls CW) (aCons tX aNil)))
theorem ok_Drawing_read {P : Program} {w : World} {K : Frag} {mg : Str → Option Value} {base : Heap} {f C_Shape C_Dot C_Line C_Box C_Ring C_Drawing C_BadRow C_TugError : Addr} {fd : FuncData} (F : Fun K "read" "Drawing.read" s_Drawing_read f fd) (T : Bts K mg) (cl_Shape : Cl_Shape K C_Shape) (cl_Dot : Cl_Dot K C_Dot) (cl_Line : Cl_Line K C_Line) (cl_Box : Cl_Box K C_Box) (cl_Ring : Cl_Ring K C_Ring) (cl_Drawing : Cl_Drawing K C_Drawing) (XC : Xc P K mg C_BadRow C_TugError) (FM_Shp : FamF4 K C_Shape C_Dot C_Line C_Box C_Ring) (m_Drawing : MadeBy P w K mg base CX0 1 C_Drawing "Drawing" ["self", "shapes"] (sp_Drawing_init K C_Drawing C_Dot C_Line C_Box C_Ring)) (c_read_row : Callee P w K mg base (L2.CX P w) 5 "read_row" ["row", "line"] (sp_read_row K C_Dot C_Line C_Box C_Ring C_BadRow)) : FnOk P w K mg base (L2.CX P w) 6 f fd ["cls", "text"] (sp_Drawing_read K C_Drawing C_Dot C_Line C_Box C_Ring C_BadRow) := by
  refine F.okX sc_Drawing_read (fun vs H Q E h => fx_len h) (fun cdv A outer s H vs Q E hr h => ⟨_, (pss_cons (ps_if (pt_cmpR (op_eqK K rfl hr.units) (pv 1) pe_str (nomark _)) (pss_one (ps_ret (pe_makeV (pv 0) m_Drawing (hr.mono (by decide)) (pa_cons (pe_lst pa_nil) pa_nil)))) pss_nil)
      (pss_cons (ps_set (i := 2) sc_Drawing_read.nd rfl (by first | exact Or.inl rfl | exact Or.inr rfl) (pe_m1 PySem.F.slot_str_split PySem.F.type_str_split mt_splitS (pv 1) pe_str))
      (pss_one (ps_ret (pe_makeV (pv 0) m_Drawing (hr.mono (by decide)) (pa_cons (pe_lcXK K rfl (own := [("line", 3), ("row", 4)]) rfl rfl rfl sc_Drawing_read.nd (takes_of rfl rfl rfl rfl) (pi_enumSK K rfl (by rfl) T.b_enumerate (pa_cons (pv 2) pa_nil) (by decide) (by decide)) (blkOk_by (N := ["cls", "text", "rows", "line", "row"]) (sc := defScope s_Drawing_read) (by decide +kernel)) (fun _ _ _ _ _ => (pg_tupK (n := 2) K rfl rfl (pgs_cons (pg_name (i := 3) sc_Drawing_read.nd rfl (by first | exact Or.inl rfl | exact Or.inr rfl)) (pgs_cons (pg_name (i := 4) sc_Drawing_read.nd rfl (by first | exact Or.inl rfl | exact Or.inr rfl)) pgs_nil)))) (fun _ _ _ _ _ => pts_nil) (fun _ _ _ _ _ W pn xe tk => (pe_callX c_read_row (hr.mono (by decide)) tk rfl (pa_cons (pv 4) (pa_cons (pv 3) pa_nil))))) pa_nil)))))), fx_body (Nat.le_of_ble_eq_true rfl) h fun w n a hp hm hW => ?_⟩)
  try dsimp only [S_Drawing_read, List.map_cons, List.map_nil] at hp hm hW ⊢

  obtain ⟨_, a, _⟩ := a
  obtain ⟨ha, hl, hr⟩ : Asc a ∧ a.length ≤ 90000 ∧ (rowsX a).length ≤ 25000 := hp
  show WpS K w n [.im (tCls C_Drawing) (), .im tX a, .no, .no, .no] _ (fun x => .im (tDrw C_Drawing C_Dot C_Line C_Box C_Ring) x) _ _ _ (fun r n' => ((∀ x ∈ rowsX a, rowOk x = true) ∧ r = (rowsX a).map shpOf) ∧ CLe 0 n n')
  refine ws_seq <| ws_if <| wt_val <| we_eqX <| we_var rfl <| we_X <| dec2 (fun h1 => ?_) (fun h1 => ws_next ?_)
  · have h1 : a = [] := h1
    have e : rowsX a = [] := by unfold rowsX; rw [if_pos h1]
    refine ws_ret <| we_makeV rfl <| we_mkDrw .l <| wa_cons (t := tL (tShp C_Dot C_Line C_Box C_Ring)) <| we_ofM' <| wm_lst <| wal_nil ⟨Nat.zero_le _, [], rfl, wa_nil ⟨⟨Nat.zero_le _, fun s hs => by cases hs⟩, ⟨?_, ?_⟩, CLe_refl⟩⟩
    · rw [e]; exact fun x hx => by cases hx
    · rw [e]; rfl
  · have e : rowsX a = spl [10] 0 [] a := by unfold rowsX; exact if_neg h1
    refine ws_seq <| ws_setM <| wm_splitX (b := [10]) rfl (by simp) rfl <| we_var rfl ⟨by omega, ?_⟩
    rw [← e]
    refine setE_go (by dsimp only [List.set]) <| ws_view (View.freezeL (i := 2) rfl) ?_
    refine ws_ret <| we_makeV rfl <| we_mkDrw .l <| wa_cons (t := tL (tShp C_Dot C_Line C_Box C_Ring)) <| we_ofM' <| wm_mapX (t := tP tI tX) (tShp C_Dot C_Line C_Box C_Ring) (fun x => shpOf x.2) (fun x => rowOk x.2 = true)
      (fun xs i er n' => ∃ x : Tx, (rowsX a)[i]? = some x ∧ rowOk x = false ∧ (∀ j y, j < i → (rowsX a)[j]? = some y → rowOk y = true) ∧ er = badRow C_BadRow ((i : Int) + 1) ∧ n' = n) hW (gsl_pair (by decide) (by decide)) <| wi_enumS <| we_var rfl ⟨rfl, ?_, ?_, ?_, ?_⟩
    · rw [enumS_length]; omega
    · rintro i er n' ⟨x, h1, h2, h3, h4, rfl⟩
      exact ⟨⟨i, x, h1, h2, h3, h4⟩, CLe_refl⟩
    · rintro w' W i x hx hG hW'
      obtain ⟨g1, g2⟩ := enumS_get hx
      have hm : x.2 ∈ spl [10] 0 [] a := by rw [← e]; exact List.mem_of_getElem? g2
      obtain ⟨a1, a2⟩ := spl_all ha hm
      refine setE_go (by dsimp only [List.set, hideE, Ent.hide, List.map]) <| wg_pair <| setE_go (by dsimp only [List.set]) ?_
      refine we_callE (S := S_read_row K C_Dot C_Line C_Box C_Ring C_BadRow) hW' rfl <| wa_cons <| we_var rfl <| wa_cons <| we_var rfl <| wa_nil ⟨⟨a1, Nat.le_trans a2 hl⟩, .inl rfl, fun r n' hr hc => ⟨hr.2, Costs.zero hc, hr.1⟩, fun er n' hx' hc => ?_⟩
      have g1 : x.1 = (i : Int) + 1 := g1
      refine ⟨x.2, g2, hx'.1, fun j y hj hy => ?_, by rw [hx'.2, ← g1], Costs.zero hc⟩
      have hj2 : (enumS 1 (rowsX a))[j]? = some ((j : Int) + 1, y) := by
        unfold enumS enumL
        rw [List.getElem?_map]
        have hlt := (List.getElem?_eq_some_iff.mp hy).1
        rw [show ((List.map (fun (i : Nat) => (i : Int)) (List.range (rowsX a).length)).zip (rowsX a))[j]? = some ((j : Int), y) from by
          rw [List.getElem?_zip_eq_some]
          exact ⟨by simp [hlt], hy⟩]
        rfl
      exact hG j _ hj hj2
    · intro hall
      have hall' : ∀ x ∈ rowsX a, rowOk x = true := fun x hx => by
        obtain ⟨j, hj, rfl⟩ := List.mem_iff_getElem.mp hx
        have hl2 : j < (enumS 1 (rowsX a)).length := by rw [enumS_length]; exact hj
        have := hall _ (List.getElem_mem hl2)
        obtain ⟨_, q⟩ := enumS_get (List.getElem?_eq_getElem hl2)
        rw [List.getElem?_eq_getElem hj] at q
        rw [Option.some.inj q]; exact this
      have em : (enumS 1 (rowsX a)).map (fun x => shpOf x.2) = (rowsX a).map shpOf := by
        apply List.ext_getElem?
        intro j
        rw [List.getElem?_map, List.getElem?_map]
        cases q : (enumS 1 (rowsX a))[j]? with
        | none =>
          have := List.getElem?_eq_none_iff.mp q
          rw [enumS_length] at this
          rw [List.getElem?_eq_none this]; rfl
        | some y => rw [(enumS_get q).2]; rfl
      rw [em]
      refine ⟨_, rfl, wa_nil ⟨⟨by rw [List.length_map]; exact hr, fun s hs => ?_⟩, ⟨hall', rfl⟩, CLe_refl⟩⟩
      obtain ⟨x, hx, rfl⟩ := List.mem_map.mp hs
      exact rowOk_len (hall' x hx)

theorem ok__law_draw {P : Program} {w : World} {K : Frag} {mg : Str → Option Value} {base : Heap} {f C_Shape C_Dot C_Line C_Box C_Ring C_Drawing C_BadRow C_TugError : Addr} {fd : FuncData} (F : Fun K "_law_draw" "_law_draw" s__law_draw f fd) (T : Bts K mg) (cl_Shape : Cl_Shape K C_Shape) (cl_Dot : Cl_Dot K C_Dot) (cl_Line : Cl_Line K C_Line) (cl_Box : Cl_Box K C_Box) (cl_Ring : Cl_Ring K C_Ring) (cl_Drawing : Cl_Drawing K C_Drawing) (XC : Xc P K mg C_BadRow C_TugError) (FM_Shp : FamF4 K C_Shape C_Dot C_Line C_Box C_Ring) : FnOk P w K mg base CX0 1 f fd ["_law_pen_here", "_law_many"] (sp__law_draw K) := by
  refine F.ok sc__law_draw (fun vs H Q E h => fs_len h) (fun cdv A outer s H vs Q E hr h => ⟨_, (pss_cons (ps_if (pt_cmpR op_geU (pe_dget (hu_of hr) (pv 0) pe_str (fun _ _ => rfl)) (pv 1) (nomark _)) (pss_cons (ps_set (i := 2) sc__law_draw.nd rfl (by first | exact Or.inl rfl | exact Or.inr rfl) (pe_op op_modU (pe_callTy call_intU (by rfl) T.b_int PyProof.Rows.boot_int (pa_cons (pe_dget (hu_of hr) (pv 0) pe_str (fun _ _ => rfl)) pa_nil)) (pv 1)))
      (pss_cons (ps_dput (hu_of hr) (pv 0) pe_str (pe_op op_divU (pe_dget (hu_of hr) (pv 0) pe_str (fun _ _ => rfl)) (pv 1)) rfl)
      (pss_one (ps_ret (pv 2))))) pss_nil)
      (pss_cons (ps_set (i := 3) sc__law_draw.nd rfl (by first | exact Or.inl rfl | exact Or.inr rfl) (pe_dget (hu_of hr) (pv 0) pe_str (fun _ _ => rfl)))
      (pss_cons (ps_dput (hu_of hr) (pv 0) pe_str (pe_op op_addU (pv 3) pe_int) rfl)
      (pss_cons (ps_set (i := 4) sc__law_draw.nd rfl (by first | exact Or.inl rfl | exact Or.inr rfl) (pe_op op_addU (pe_op op_mulU pe_int (pv 3)) pe_int))
      (pss_cons (ps_if (pt_cmpR (op_neK K rfl hr.units) (pe_dget (hu_of hr) (pv 0) pe_str (fun _ _ => rfl)) (pe_lst pa_nil) (nomark _)) (pss_one (ps_set (i := 4) sc__law_draw.nd rfl (by first | exact Or.inl rfl | exact Or.inr rfl) (pe_ix (ix_seqK K rfl) (pe_dget (hu_of hr) (pv 0) pe_str (fun _ _ => rfl)) (pe_op op_modU (pe_callTy call_intU (by rfl) T.b_int PyProof.Rows.boot_int (pa_cons (pv 3) pa_nil)) (pe_callB (call_lenK K rfl) (by rfl) T.b_len PySem.boot_len (pa_cons (pe_dget (hu_of hr) (pv 0) pe_str (fun _ _ => rfl)) pa_nil))) (fun _ _ => rfl)))) pss_nil)
      (pss_cons (ps_if (PW.pt (pw_and (pt_cmpR op_ltU (pv 3) (pe_callB (call_lenK K rfl) (by rfl) T.b_len PySem.boot_len (pa_cons (pe_dget (hu_of hr) (pv 0) pe_str (fun _ _ => rfl)) pa_nil)) (nomark _)) (pw_and1 (pt_cmpR op_geU (pv 4) (pe_op op_powU pe_int pe_int) (nomark _))))) (pss_cons (ps_dput (hu_of hr) (pv 0) pe_str (pe_op op_divU (pe_op op_subU (pv 4) (pe_op op_powU pe_int pe_int)) (pv 1)) rfl)
      (pss_one (ps_ret (pe_op op_modU (pe_callTy call_intU (by rfl) T.b_int PyProof.Rows.boot_int (pa_cons (pe_op op_subU (pv 4) (pe_op op_powU pe_int pe_int)) pa_nil)) (pv 1))))) pss_nil)
      (pss_cons (ps_set (i := 5) sc__law_draw.nd rfl (by first | exact Or.inl rfl | exact Or.inr rfl) (pe_op op_addU (pe_op op_addU (pe_op op_addU (pe_op op_mulU (pe_op op_modU (pe_callTy call_intU (by rfl) T.b_int PyProof.Rows.boot_int (pa_cons (pv 4) pa_nil)) pe_int) pe_int) (pe_op op_mulU (pe_op op_mulU pe_int (pv 3)) (pv 3))) (pe_op op_mulU pe_int (pv 3))) pe_int))
      (pss_cons (ps_set (i := 5) sc__law_draw.nd rfl (by first | exact Or.inl rfl | exact Or.inr rfl) (pe_op op_modU (pe_callTy call_intU (by rfl) T.b_int PyProof.Rows.boot_int (pa_cons (pv 5) pa_nil)) pe_int))
      (pss_cons (ps_set (i := 5) sc__law_draw.nd rfl (by first | exact Or.inl rfl | exact Or.inr rfl) (pe_op op_modU (pe_callTy call_intU (by rfl) T.b_int PyProof.Rows.boot_int (pa_cons (pe_op op_mulU (pv 5) (pe_op op_addU (pv 5) pe_int)) pa_nil)) pe_int))
      (pss_one (ps_ret (pe_op op_modU (pe_callTy call_intU (by rfl) T.b_int PyProof.Rows.boot_int (pa_cons (pe_op op_divU (pe_op op_modU (pe_callTy call_intU (by rfl) T.b_int PyProof.Rows.boot_int (pa_cons (pe_op op_mulU (pv 5) (pv 5)) pa_nil)) pe_int) pe_int) pa_nil)) (pv 1))))))))))))), fs_body (Nat.le_of_ble_eq_true rfl) h fun w n a hp hm => ?_⟩)
  try dsimp only [S__law_draw, List.map_cons, List.map_nil] at hp hm ⊢

  obtain ⟨many, _⟩ := a
  obtain ⟨h1, h2⟩ := hp
  dsimp only at h1 h2
  obtain ⟨m, rfl, hb⟩ : ∃ m, n = some m ∧ m + 1 ≤ 2 ^ 60 := by
    rcases hm with z | z
    · cases z
    · exact z
  show WpS K w (some m) [.pen, .im tI many, .no, .no, .no, .no] _ _ _ _ _ _
  walk_at "go"
  refine we_penL rfl rfl fun l hl => ?_
  walk_at "go"
  · -- a digit is left
    walk_at "go"
    refine we_penL rfl rfl fun l2 hl2 => ?_
    walk_at "go"
    refine ws_penL rfl ?_
    walk_at "go"
    refine we_penL rfl rfl fun l3 hl3 => ?_
    walk_at "go"
    refine ⟨Int.ediv_nonneg hl3 (by omega), _, rfl, ?_⟩
    walk_at "go"
    exact ⟨mod_in (by omega), .inr ⟨m, m, rfl, rfl, by omega⟩⟩
  walk_at "go"
  refine we_penA rfl rfl fun at0 ha hb' => ?_
  walk_at "go"
  refine ws_penA rfl ?_
  walk_at "go"
  refine ⟨_, m + 1, rfl, by omega, ?_⟩
  walk_at "gs"
  refine ws_cut (fun n Γ => ∃ cell : Int, n = some (m + 1) ∧ Γ = [.pen, .im tI many, .no, .im tI at0, .im tI cell, .no]) ?_ ?_
  · refine ws_if ?_
    walk_at "go"
    refine we_penC rfl rfl fun hc => ?_
    walk_at "go"
    · refine we_ixL (t := tI) ?_
      refine we_penC rfl rfl fun hc => ?_
      walk_at "go"
      refine we_lenL (t := tI) (we_penC rfl rfl fun hc => ?_)
      have hl : 0 < (w.cs.length : Int) := by
        rename_i hne _
        have := List.length_pos_iff.mpr hne
        omega
      walk_at "go"
      have hm2 := mod_in (a := at0) hl
      refine ⟨_, atI_int hm2.1 (by omega), ?_⟩
      walk_at "go"
      exact ⟨_, rfl, rfl⟩
    · walk_at "go"
      exact ⟨_, rfl, rfl⟩
  rintro n Γ ⟨cell, rfl, rfl⟩
  walk_at "gs"
  refine ws_cut (fun n Γ => n = some (m + 1) ∧ Γ = [.pen, .im tI many, .no, .im tI at0, .im tI cell, .no]) ?_ ?_
  · refine ws_if ?_
    walk_at "go"
    refine we_lenL (t := tI) (we_penC rfl rfl fun hc => ?_)
    walk_at "go"
    · refine ws_penL rfl ?_
      walk_at "go"
      refine ⟨Int.ediv_nonneg (by omega) (by omega), _, rfl, ?_⟩
      walk_at "go"
      exact ⟨mod_in (by omega), .inr ⟨m, m + 1, rfl, rfl, by omega⟩⟩
    · walk_at "go"
      exact rfl
    · walk_at "go"
      exact rfl
  rintro n Γ ⟨rfl, rfl⟩
  walk_at "go"
  exact ⟨mod_in (by omega), .inr ⟨m, m + 1, rfl, rfl, by omega⟩⟩

theorem ok__law_far {P : Program} {w : World} {K : Frag} {mg : Str → Option Value} {base : Heap} {f C_Shape C_Dot C_Line C_Box C_Ring C_Drawing C_BadRow C_TugError : Addr} {fd : FuncData} (F : Fun K "_law_far" "_law_far" s__law_far f fd) (T : Bts K mg) (cl_Shape : Cl_Shape K C_Shape) (cl_Dot : Cl_Dot K C_Dot) (cl_Line : Cl_Line K C_Line) (cl_Box : Cl_Box K C_Box) (cl_Ring : Cl_Ring K C_Ring) (cl_Drawing : Cl_Drawing K C_Drawing) (XC : Xc P K mg C_BadRow C_TugError) (FM_Shp : FamF4 K C_Shape C_Dot C_Line C_Box C_Ring) (c__law_draw : Callee P w K mg base CX0 1 "_law_draw" ["_law_pen_here", "_law_many"] (sp__law_draw K)) : FnOk P w K mg base CX0 2 f fd ["_law_pen_here"] (sp__law_far K) := by
  refine F.ok sc__law_far (fun vs H Q E h => fs_len h) (fun cdv A outer s H vs Q E hr h => ⟨_, (pss_cons (ps_set (i := 1) sc__law_far.nd rfl (by first | exact Or.inl rfl | exact Or.inr rfl) (pe_ix (ix_seqK K rfl) (pe_lst (pa_cons pe_int (pa_cons pe_int (pa_cons pe_int (pa_cons (pe_op op_powU pe_int pe_int) (pa_cons (pe_op op_powU pe_int pe_int) pa_nil)))))) (pe_callC c__law_draw (hr.mono (by decide)) rfl (pa_cons (pv 0) (pa_cons pe_int pa_nil))) (fun _ _ => rfl)))
      (pss_cons (ps_set (i := 2) sc__law_far.nd rfl (by first | exact Or.inl rfl | exact Or.inr rfl) pe_int)
      (pss_cons (ps_for PassesOwn.never rfl (pi_range1 (by rfl) T.b_range (pa_cons (pe_ifExp (pt_cmpR op_leU (pv 1) pe_int (nomark _)) pe_int (pe_ifExp (pt_cmpR (op_eqK K rfl hr.units) (pv 1) (pe_op op_powU pe_int pe_int) (nomark _)) pe_int pe_int)) pa_nil)) (pg_name (i := 3) sc__law_far.nd rfl (by first | exact Or.inl rfl | exact Or.inr rfl)) (pss_one (ps_set (i := 2) sc__law_far.nd rfl (by first | exact Or.inl rfl | exact Or.inr rfl) (pe_op op_addU (pe_op op_mulU (pv 2) pe_int) (pe_callC c__law_draw (hr.mono (by decide)) rfl (pa_cons (pv 0) (pa_cons pe_int pa_nil)))))))
      (pss_cons (ps_set (i := 2) sc__law_far.nd rfl (by first | exact Or.inl rfl | exact Or.inr rfl) (pe_op op_modU (pe_callTy call_intU (by rfl) T.b_int PyProof.Rows.boot_int (pa_cons (pv 2) pa_nil)) (pv 1)))
      (pss_one (ps_ret (pe_ifExp (pt_cmpR (op_eqK K rfl hr.units) (pe_callC c__law_draw (hr.mono (by decide)) rfl (pa_cons (pv 0) (pa_cons pe_int pa_nil))) pe_int (nomark _)) (pe_un un_negU (pv 2)) (pv 2)))))))), fs_body (Nat.le_of_ble_eq_true rfl) h fun w n a hp hm => ?_⟩)
  try dsimp only [S__law_far, List.map_cons, List.map_nil] at hp hm ⊢

  obtain ⟨m, rfl, hb⟩ := hm.some
  show WpS K w (some m) [.pen, .no, .no, .no] _ _ _ _ _ _
  walk_at "go"
  intro size hs
  have hs : (1 : Int) ≤ size ∧ size ≤ 10 ^ 60 := (by decide : ∀ y ∈ [(3 : Int), 10, 100, 10 ^ Int.toNat 6, 10 ^ Int.toNat 60], (1 : Int) ≤ y ∧ y ≤ 10 ^ 60) size hs
  walk_at "go"
  refine ws_for (t := tI) (fun xs i n Γ => xs.length ≤ 10 ∧ ∃ v : Int, n = some (m + 1 + i) ∧ Γ = [.pen, .im tI size, .im tI v, .no]) ?_
  refine wi_range1 <| we_mono (k := fun j n' Γ' => (0 ≤ j ∧ j ≤ 10) ∧ n' = some (m + 1) ∧ Γ' = [.pen, .im tI size, .im tI 0, .no]) ?_ ?_
  · walk_at "go"
    all_goals first | exact ⟨by omega, rfl, rfl⟩ | exact ⟨rfl, rfl⟩ | exact rfl
  rintro j _ _ ⟨hj, rfl, rfl⟩
  refine ⟨by omega, Up.of ⟨by simp; omega, 0, rfl, rfl⟩, ?_, ?_⟩
  · rintro i x n Γ hx ⟨hl, v, rfl, rfl⟩
    have hi := get_lt hx
    walk_at "go"
    exact Up.drop 3 ⟨hl, _, rfl, rfl⟩
  · rintro n Γ ⟨hl, v, rfl, rfl⟩
    walk_at "go"
    all_goals
      have h1 := mod_in (a := v) (b := size) (by omega)
      exact ⟨by omega, CLe_some (by omega)⟩

abbrev sp__law_pick (K : Frag) : Sp := (S_pick K tX).sp
theorem ok__law_pick {P : Program} {w : World} {K : Frag} {mg : Str → Option Value} {base : Heap} {f C_Shape C_Dot C_Line C_Box C_Ring C_Drawing C_BadRow C_TugError : Addr} {fd : FuncData} (F : Fun K "_law_pick" "_law_pick" s__law_pick f fd) (T : Bts K mg) (cl_Shape : Cl_Shape K C_Shape) (cl_Dot : Cl_Dot K C_Dot) (cl_Line : Cl_Line K C_Line) (cl_Box : Cl_Box K C_Box) (cl_Ring : Cl_Ring K C_Ring) (cl_Drawing : Cl_Drawing K C_Drawing) (XC : Xc P K mg C_BadRow C_TugError) (FM_Shp : FamF4 K C_Shape C_Dot C_Line C_Box C_Ring) (c__law_draw : Callee P w K mg base CX0 1 "_law_draw" ["_law_pen_here", "_law_many"] (sp__law_draw K)) : FnOk P w K mg base CX0 2 f fd ["_law_pen_here", "_law_items"] (sp__law_pick K) := by
  refine F.ok sc__law_pick (fun vs H Q E h => fs_len h) (fun cdv A outer s H vs Q E hr h => ⟨_, (pss_one (ps_ret (pe_ix (ix_seqK K rfl) (pv 1) (pe_callC c__law_draw (hr.mono (by decide)) rfl (pa_cons (pv 0) (pa_cons (pe_callB (call_lenK K rfl) (by rfl) T.b_len PySem.boot_len (pa_cons (pv 1) pa_nil)) pa_nil))) (fun _ _ => rfl)))), fs_body (Nat.le_of_ble_eq_true rfl) h fun w n a hp hm => ?_⟩)
  try dsimp only [S__law_pick, List.map_cons, List.map_nil] at hp hm ⊢

  obtain ⟨items, _⟩ := a
  dsimp only [S_pick] at hp hm ⊢
  obtain ⟨m, rfl, hb⟩ := hm.some
  obtain ⟨hp1, hp2⟩ := hp
  have hl : 0 < items.length := List.length_pos_iff.mpr hp1
  show WpS K w (some m) [.pen, .im (tL tX) items] _ _ _ _ _ _
  walk_at "go"
  rename_i r h0 h1
  obtain ⟨x, hx, hm⟩ := atI_mem h0 h1
  exact ⟨x, hx, hm, CLe_some (by omega)⟩

/-! ### the law's own reader -/
theorem Asc.strOk {a : Tx} (h : Asc a) : PyData.strOk (SX.S a) = true := by
  unfold PyData.strOk SX.S
  rw [List.all_toArray]
  exact List.all_eq_true.mpr fun c hc => decide_eq_true (Nat.lt_trans (h c hc) (by decide))
theorem layLX {K : Frag} {xs : List Tx} (h : ∀ x ∈ xs, Asc x) : ((iL (iX (K := K))).enc xs).canLay0 = true := layL fun x hx => by
  show PyData.canLay0 (.str (SX.S x)) = true
  simp [PyData.canLay0, (h x hx).strOk]
theorem dgB_mem (c : Nat) : decide (c ∈ ("0123456789" : Str).cps.toList) = dgB c := by
  have e : ("0123456789" : Str).cps.toList = [48, 49, 50, 51, 52, 53, 54, 55, 56, 57] := by decide +kernel
  rw [e]
  unfold dgB
  by_cases h : 48 ≤ c ∧ c ≤ 57
  · obtain ⟨h1, h2⟩ := h
    rw [decide_eq_true h1, decide_eq_true h2]
    refine decide_eq_true ?_
    simp only [List.mem_cons, List.not_mem_nil, or_false]
    omega
  · have : c ∉ [48, 49, 50, 51, 52, 53, 54, 55, 56, 57] := fun z => h (by simp only [List.mem_cons, List.not_mem_nil, or_false] at z; omega)
    rw [decide_eq_false this]
    by_cases h1 : 48 ≤ c
    · rw [decide_eq_true h1, decide_eq_false (fun h2 => h ⟨h1, h2⟩)]; rfl
    · rw [decide_eq_false h1]; rfl
def S__law_integer (K : Frag) : FS K := { A := Tx × Unit, args := aCons tX aNil, ρ := Bool, res := fun x => .im tBo x, cost := 0, pre := fun a => Asc a.1 ∧ a.1.length ≤ 90000, post := fun a r => r = isInt a.1 }
abbrev sp__law_integer (K : Frag) : Sp := (S__law_integer K).sp
instance (K : Frag) : Ents (S__law_integer K).args := inferInstanceAs (Ents (aCons tX aNil))
theorem ok__law_integer {P : Program} {w : World} {K : Frag} {mg : Str → Option Value} {base : Heap} {f C_Shape C_Dot C_Line C_Box C_Ring C_Drawing C_BadRow C_TugError : Addr} {fd : FuncData} (F : Fun K "_law_integer" "_law_integer" s__law_integer f fd) (T : Bts K mg) (cl_Shape : Cl_Shape K C_Shape) (cl_Dot : Cl_Dot K C_Dot) (cl_Line : Cl_Line K C_Line) (cl_Box : Cl_Box K C_Box) (cl_Ring : Cl_Ring K C_Ring) (cl_Drawing : Cl_Drawing K C_Drawing) (XC : Xc P K mg C_BadRow C_TugError) (FM_Shp : FamF4 K C_Shape C_Dot C_Line C_Box C_Ring) : FnOk P w K mg base CX0 1 f fd ["_law_word"] (sp__law_integer K) := by
  refine F.ok sc__law_integer (fun vs H Q E h => fs_len h) (fun cdv A outer s H vs Q E hr h => ⟨_, (pss_cons (ps_set (i := 1) sc__law_integer.nd rfl (by first | exact Or.inl rfl | exact Or.inr rfl) (pe_ifExp (pt_truthK K rfl (pe_m1 PySem.F.slot_str_startswith PySem.F.type_str_startswith mt_starts (pv 0) pe_str) (by intro _; rfl)) (pe_slice C8.sl_txt (pv 0) (po_some pe_int) po_none) (pv 0)))
      (pss_cons (ps_if (PW.pt (pw_or (pt_cmpR (op_eqK K rfl hr.units) (pv 1) pe_str (nomark _)) (pw_or (pt_cmpR op_gtU (pe_callB (call_lenK K rfl) (by rfl) T.b_len PySem.boot_len (pa_cons (pv 1) pa_nil)) pe_int (nomark _)) (pw_or1 (pt_cmpR (op_neK K rfl hr.units) (pe_lc (own := [("_law_c", 2)]) rfl sc__law_integer.nd (pi_str (pv 1)) (blkOk_by (N := ["_law_word", "_law_digits", "_law_c"]) (sc := defScope s__law_integer) (by decide +kernel)) (fun _ _ _ _ _ => (pg_name (i := 2) sc__law_integer.nd rfl (by first | exact Or.inl rfl | exact Or.inr rfl))) (fun _ _ _ _ _ => (pts_one (pt_cmpR op_notInStr (pv 2) pe_str (by with_unfolding_all rfl)))) (fun _ _ _ _ _ => (pv 2))) (pe_lst pa_nil) (nomark _)))))) (pss_one (ps_ret pe_bl)) pss_nil)
      (pss_one (ps_ret (pe_or (pe_cmpR (op_eqK K rfl hr.units) (pv 0) pe_str (nomark _)) (pe_one (pe_cmpR (op_neK K rfl hr.units) (pe_ix (ix_seqK K rfl) (pv 1) pe_int (fun _ _ => rfl)) pe_str (nomark _)))))))), fs_body (Nat.le_of_ble_eq_true rfl) h fun w n a hp hm => ?_⟩)
  try dsimp only [S__law_integer, List.map_cons, List.map_nil] at hp hm ⊢

  obtain ⟨a, _⟩ := a
  obtain ⟨ha, hl⟩ : Asc a ∧ a.length ≤ 90000 := hp
  show WpS K w n [.im tX a, .no, .no] _ (fun x => .im tBo x) _ _ _ (fun r n' => r = isInt a ∧ CLe 0 n n')
  have hu := unsg_len (a := a) (c := 45)
  have hua : Asc (unsg 45 a) := ha.unsg
  have red : isInt a = (((!(unsg 45 a).isEmpty && (unsg 45 a).all dgB) && decide ((unsg 45 a).length ≤ 700)) && (decide (a = [48]) || !decide ((unsg 45 a).head? = some 48))) := rfl
  refine ws_seq <| ws_set (t := tX) <| we_mono (k := fun x n' Γ' => x = unsg 45 a ∧ n' = n ∧ Γ' = [.im tX a, .no, .no]) (we_if <| wt_truB <| we_starts1 (c := 45) rfl <| we_var rfl <| dec2 (fun h => ?_) (fun h => ?_)) ?_
  · refine we_slX <| we_var rfl ⟨by omega, wo_some <| we_int <| wo_none ⟨?_, rfl, rfl⟩⟩
    rw [cutX_from (by decide)]
    unfold TL.unsg
    rw [if_pos h]
    show List.drop 1 a = _
    rw [List.drop_one]
  · refine we_var rfl ⟨?_, rfl, rfl⟩
    unfold TL.unsg
    rw [if_neg h]
  rintro _ n1 _ ⟨rfl, rfl, rfl⟩
  generalize unsg 45 a = d at red hu hua
  refine setE_go (by dsimp only [List.set]) ?_
  refine ws_seq <| ws_if <| wt_or <| wt_val <| we_eqX <| we_var rfl <| we_X <| dec2 (fun h1 => ?_) (fun h1 => ?_)
  · have h1 : d = [] := h1
    refine ws_ret <| we_bool ⟨?_, CLe_refl⟩
    rw [red, h1]; rfl
  have h1 : d ≠ [] := h1
  have he : d.isEmpty = false := by cases d with | nil => exact absurd rfl h1 | cons c r => rfl
  refine wt_or <| wt_val <| we_gt <| we_lenX <| we_var rfl ⟨by omega, we_int <| dec2 (fun h2 => ?_) (fun h2 => ?_)⟩
  · refine ws_ret <| we_bool ⟨?_, CLe_refl⟩
    rw [red, show decide (d.length ≤ 700) = false from decide_eq_false (by omega)]; simp
  have h2 : decide (d.length ≤ 700) = true := decide_eq_true (by omega)
  refine wt_val <| we_neD (iL iX) (Nat.le_of_ble_eq_true rfl) <| we_ofM' <| wm_lc (t := tX) tX (fun xs i ys n2 => xs = d.map (fun c => [c]) ∧ ys = ((d.take i).filter fun c => !dgB c).map (fun c => [c]) ∧ n2 = n1) (gsl_name (by decide)) <| wi_str <| we_var rfl ⟨⟨rfl, rfl, rfl⟩, ?_, ?_⟩
  · rintro w' i x ys n2 _ _ _ hx ⟨_, rfl, rfl⟩
    rw [List.getElem?_map] at hx
    obtain ⟨c, hc, rfl⟩ : ∃ c, d[i]? = some c ∧ x = [c] := by
      cases hq : d[i]? with
      | none => rw [hq] at hx; cases hx
      | some c => rw [hq] at hx; cases hx; exact ⟨c, rfl, rfl⟩
    have hi := get_lt hc
    refine setE_go (by dsimp only [List.set, hideE, Ent.hide, List.map]) <| wg_name <| setE_go (by dsimp only [List.set]) ?_
    refine wt_val <| we_notInX <| we_var rfl <| we_X ⟨c, rfl, ?_⟩
    rw [dgB_mem]
    have e1 : (d.take (i + 1)).filter (fun c => !dgB c) = (d.take i).filter (fun c => !dgB c) ++ ([c].filter fun c => !dgB c) := by rw [List.take_add_one, hc, List.filter_append]; rfl
    cases hd : dgB c with
    | false =>
      refine true2 <| we_var rfl ⟨?_, rfl, ?_, rfl⟩
      · rw [List.length_map]
        have := List.length_filter_le (fun c => !dgB c) (d.take i)
        rw [List.length_take] at this
        omega
      · rw [e1, List.map_append]
        simp [List.filter, hd]
    | true =>
      refine false2 ⟨rfl, ?_, rfl⟩
      rw [e1]
      simp [List.filter, hd]
  · rintro ys n2 ⟨_, rfl, rfl⟩
    rw [List.length_map, List.take_length]
    refine ⟨_, rfl, we_ofM' <| wm_lst <| wal_nil ⟨by simp, [], rfl, ⟨layLX fun x hx => ?_, layLX fun x hx => by cases hx⟩, dec2n (fun h3 => ?_) (fun h3 => ws_next ?_)⟩⟩
    · obtain ⟨c, hc, rfl⟩ := List.mem_map.mp hx
      exact fun z hz => by rw [List.mem_singleton.mp hz]; exact hua c (List.mem_filter.mp hc).1
    · refine ws_ret <| we_bool ⟨?_, CLe_refl⟩
      have : d.all dgB = false := by
        cases hq : d.all dgB with
        | false => rfl
        | true =>
          refine absurd ?_ h3
          rw [List.map_eq_nil_iff, List.filter_eq_nil_iff]
          intro c hc
          rw [List.all_eq_true.mp hq c hc]; decide
      rw [red, this]; simp
    · have h3 : d.all dgB = true := List.all_eq_true.mpr fun c hc => by
        rw [List.map_eq_nil_iff, List.filter_eq_nil_iff] at h3
        have := h3 c hc
        simpa using this
      rw [he, h3, h2] at red
      obtain ⟨c, r, rfl⟩ : ∃ c r, d = c :: r := by cases d with | nil => exact absurd rfl h1 | cons c r => exact ⟨c, r, rfl⟩
      have at0 : atI (c :: r) 0 = some c := (atI_int (i := 0) (by decide) (by simp)).trans rfl
      refine ws_ret <| we_orV <| we_eqX <| we_var rfl <| we_X ⟨fun h4 => ⟨?_, CLe_refl⟩, fun h4 => we_neX <| we_ixX <| we_var rfl <| we_int ⟨by omega, c, at0, we_X ⟨?_, CLe_refl⟩⟩⟩
      · rw [red, show decide (a = [48]) = true from h4]; rfl
      · rw [red, show decide (a = [48]) = false from h4]
        show (!decide ([c] = [48])) = (false || !decide (some c = some 48))
        by_cases hc : c = 48
        · subst hc; rfl
        · rw [decide_eq_false (fun z => hc (List.singleton_inj.mp z)), decide_eq_false (fun z => hc (Option.some.inj z))]; rfl

theorem cut_pre {α : Type} {xs : List α} {k : Nat} : cutL xs none (some (k : Int)) = xs.take k := by
  unfold cutL
  rw [HT.sIx_nat]
  show ((xs.drop 0).take (min k xs.length - 0)) = _
  rw [List.drop_zero, Nat.sub_zero]
  exact List.take_eq_take_min.symm
theorem cut_post {α : Type} {xs : List α} {k : Nat} : cutL xs (some (k : Int)) none = xs.drop k := by
  unfold cutL
  rw [HT.sIx_nat]
  show ((xs.drop (min k xs.length)).take (xs.length - min k xs.length)) = _
  rcases Nat.lt_or_ge k xs.length with z | z
  · rw [Nat.min_eq_left (by omega)]
    exact List.take_of_length_le (by simp)
  · rw [Nat.min_eq_right z, List.drop_length, List.drop_of_length_le z]; simp

abbrev tRow : Ty (Tx × List Int) := tP tX (tU tI)
def rowT (a : Tx) : Option (Tx × List Int) := if rowOk a = true then some (kindX (shpOf a).1, (shpOf a).2) else none
def tabR : List (Str × Int) := [("ring", 3), ("box", 4), ("line", 4), ("dot", 2)]
theorem tabR_of (i : S4) : tabR.lookup (SX.S (kindX i)) = some (manyS i : Int) := by
  rw [kindX_S]
  cases i <;> decide
def kinds4 : List Tx := [kindX .a, kindX .b, kindX .c, kindX .d]
theorem kinds4_of (i : S4) : kindX i ∈ kinds4 := by cases i <;> simp [kinds4]
theorem kinds4_mem {k : Tx} (h : k ∈ kinds4) : ∃ i, k = kindX i := by
  simp only [kinds4, List.mem_cons, List.not_mem_nil, or_false] at h
  rcases h with h | h | h | h
  · exact ⟨.a, h⟩
  · exact ⟨.b, h⟩
  · exact ⟨.c, h⟩
  · exact ⟨.d, h⟩
def S__law_row (K : Frag) : FS K := { A := Tx × Unit, args := aCons tX aNil, ρ := Option (Tx × List Int), res := fun x => .im (tO tRow) x, cost := 0, pre := fun a => Asc a.1 ∧ a.1.length ≤ 90000, post := fun a r => r = rowT a.1 }
abbrev sp__law_row (K : Frag) : Sp := (S__law_row K).sp
instance (K : Frag) : Ents (S__law_row K).args := inferInstanceAs (Ents (aCons tX aNil))
theorem ok__law_row {P : Program} {w : World} {K : Frag} {mg : Str → Option Value} {base : Heap} {f C_Shape C_Dot C_Line C_Box C_Ring C_Drawing C_BadRow C_TugError : Addr} {fd : FuncData} (F : Fun K "_law_row" "_law_row" s__law_row f fd) (T : Bts K mg) (cl_Shape : Cl_Shape K C_Shape) (cl_Dot : Cl_Dot K C_Dot) (cl_Line : Cl_Line K C_Line) (cl_Box : Cl_Box K C_Box) (cl_Ring : Cl_Ring K C_Ring) (cl_Drawing : Cl_Drawing K C_Drawing) (XC : Xc P K mg C_BadRow C_TugError) (FM_Shp : FamF4 K C_Shape C_Dot C_Line C_Box C_Ring) (c__law_integer : Callee P w K mg base CX0 1 "_law_integer" ["_law_word"] (sp__law_integer K)) : FnOk P w K mg base CX0 2 f fd ["_law_row_here"] (sp__law_row K) := by
  refine F.ok sc__law_row (fun vs H Q E h => fs_len h) (fun cdv A outer s H vs Q E hr h => ⟨_, (pss_cons (ps_set (i := 1) sc__law_row.nd rfl (by first | exact Or.inl rfl | exact Or.inr rfl) (pe_m1 PySem.F.slot_str_split PySem.F.type_str_split mt_splitS (pv 0) pe_str))
      (pss_cons (ps_if (pt_cmpR (op_notInSeqK K rfl) (pe_ix (ix_seqK K rfl) (pv 1) pe_int (fun _ _ => rfl)) (pe_lst (pa_cons pe_str (pa_cons pe_str (pa_cons pe_str (pa_cons pe_str pa_nil))))) (by with_unfolding_all rfl)) (pss_one (ps_ret pe_non)) pss_nil)
      (pss_cons (ps_if (pt_cmpR (op_neK K rfl hr.units) (pe_callB (call_lenK K rfl) (by rfl) T.b_len PySem.boot_len (pa_cons (pv 1) pa_nil)) (pe_op op_addU pe_int (pe_dget (hu_of hr) (pe_disp (pps_cons pe_str pe_int (pps_cons pe_str pe_int (pps_cons pe_str pe_int (pps_cons pe_str pe_int pps_nil)))) (by rfl) (by rfl) (fun z => by cases z) (by decide)) (pe_ix (ix_seqK K rfl) (pv 1) pe_int (fun _ _ => rfl)) (fun _ _ => rfl))) (nomark _)) (pss_one (ps_ret pe_non)) pss_nil)
      (pss_cons (ps_if (pt_cmpR (op_neK K rfl hr.units) (pe_lc (own := [("_law_word", 2)]) rfl sc__law_row.nd (pi_seqK K rfl (pe_slice (sl_listK K rfl) (pv 1) (po_some pe_int) po_none)) (blkOk_by (N := ["_law_row_here", "_law_words", "_law_word"]) (sc := defScope s__law_row) (by decide +kernel)) (fun _ _ _ _ _ => (pg_name (i := 2) sc__law_row.nd rfl (by first | exact Or.inl rfl | exact Or.inr rfl))) (fun _ _ _ _ _ => (pts_one (pt_not (pt_truthK K rfl (pe_callC c__law_integer (hr.mono (by decide)) rfl (pa_cons (pv 2) pa_nil)) (by intro _; rfl))))) (fun _ _ _ _ _ => (pv 2))) (pe_lst pa_nil) (nomark _)) (pss_one (ps_ret pe_non)) pss_nil)
      (pss_one (ps_ret (pe_tup (pa_cons (pe_ix (ix_seqK K rfl) (pv 1) pe_int (fun _ _ => rfl)) (pa_cons (pe_callTy (call_tupleK K rfl) (by rfl) T.b_tuple PyProof.Rows.boot_tuple (pa_cons (pe_lc (own := [("_law_word", 2)]) rfl sc__law_row.nd (pi_seqK K rfl (pe_slice (sl_listK K rfl) (pv 1) (po_some pe_int) po_none)) (blkOk_by (N := ["_law_row_here", "_law_words", "_law_word"]) (sc := defScope s__law_row) (by decide +kernel)) (fun _ _ _ _ _ => (pg_name (i := 2) sc__law_row.nd rfl (by first | exact Or.inl rfl | exact Or.inr rfl))) (fun _ _ _ _ _ => pts_nil) (fun _ _ _ _ _ => (pe_callTy (call_intX T.dig) (by rfl) T.b_int PyProof.Rows.boot_int (pa_cons (pv 2) pa_nil)))) pa_nil)) pa_nil))))))))), fs_body (Nat.le_of_ble_eq_true rfl) h fun w n a hp hm => ?_⟩)
  try dsimp only [S__law_row, List.map_cons, List.map_nil] at hp hm ⊢

  obtain ⟨a, _⟩ := a
  obtain ⟨ha, hl⟩ : Asc a ∧ a.length ≤ 90000 := hp
  obtain ⟨kd, ws, hsp⟩ := spl_cons a
  have hin : ∀ p ∈ kd :: ws, Asc p ∧ p.length ≤ 90000 := fun p hp => by
    rw [← hsp] at hp
    obtain ⟨h1, h2⟩ := spl_all ha hp
    exact ⟨h1, by omega⟩
  have rok : rowOk a = (match getI tabC (SX.S kd) with | none => false | some m => decide ((ws.length : Int) = m) && ws.all isInt) := by unfold rowOk; rw [hsp] <;> rfl
  have rsh : shpOf a = (kOf kd, ws.map numOf) := by unfold shpOf; rw [hsp]
  have wl : ws.length + 1 ≤ 90001 := by
    have h := spl_many (sep := [32]) a 0 []
    rw [hsp, List.length_cons] at h
    omega
  have at0 : ∀ {x : Tx}, atI (x :: ws) 0 = some x := (atI_int (i := 0) (by decide) (by simp)).trans rfl
  have cut1 : ∀ {x : Tx}, rL tX (cutL (x :: ws) (some 1) none) = rL tX ws := fun {x} => by rw [show cutL (x :: ws) (some 1) none = (x :: ws).drop 1 from cut_post (k := 1)]; rfl
  have none' : rowOk a = false → rowT a = none := fun h => by unfold rowT; rw [h]; rfl
  show WpS K w n [.im tX a, .no, .no] _ (fun x => .im (tO tRow) x) _ _ _ (fun r n' => r = rowT a ∧ CLe 0 n n')
  refine ws_seq <| ws_setM <| wm_splitX (b := [32]) rfl (by simp) rfl <| we_var rfl ⟨by omega, ?_⟩
  rw [hsp]
  refine setE_go (by dsimp only [List.set]) <| ws_view (View.freezeL (i := 1) rfl) ?_
  show WpS K w n [.im tX a, .im (tL tX) (kd :: ws), .no] _ _ _ _ _ _
  refine ws_seq <| ws_if <| wt_val <| we_notInLX <| we_ixL <| we_var rfl <| we_int ⟨kd, at0, we_lst <| wal_cons <| we_X <| wal_cons <| we_X <| wal_cons <| we_X <| wal_cons <| we_X <| wal_nil ⟨by simp, dec2n (fun h1 => ?_) (fun h1 => ws_next ?_)⟩⟩
  · refine ws_ret <| we_noneO ⟨(none' ?_).symm, CLe_refl⟩
    rw [rok]
    cases hg : getI tabC (SX.S kd) with
    | none => rfl
    | some m =>
      obtain ⟨i, rfl, _⟩ := getI_kind hg
      exact absurd (kinds4_of i) h1
  obtain ⟨i, rfl⟩ := kinds4_mem (show kd ∈ kinds4 from h1)
  rw [getI_of i] at rok
  have rok : rowOk a = (decide ((ws.length : Int) = (manyS i : Int)) && ws.all isInt) := rok
  refine ws_seq <| ws_if <| wt_val <| we_neI <| we_lenL <| we_var rfl <| we_add <| we_int <| we_dgetP (t := tI) <| we_ofSDM <| wm_disp fun w' _ _ _ => setE_go (by dsimp only [List.set, hideE, Ent.hide, List.map]) <| wpr_cons (t := tI) <| we_int <| wpr_cons (t := tI) <| we_int <| wpr_cons (t := tI) <| we_int <| wpr_cons (t := tI) <| we_int <| wpr_nil ⟨by simp, tabR, rfl, we_ixL <| we_var rfl <| we_int ⟨kindX i, at0, _, tabR_of i, dec2n (fun h2 => ?_) (fun h2 => ws_next ?_)⟩⟩
  · refine ws_ret <| we_noneO ⟨(none' ?_).symm, CLe_refl⟩
    rw [rok, show decide ((ws.length : Int) = (manyS i : Int)) = false from decide_eq_false fun z => h2 (by simp only [List.length_cons]; omega)]; rfl
  have h2 : (ws.length : Int) = (manyS i : Int) := by simp only [List.length_cons] at h2; omega
  rw [decide_eq_true h2, Bool.true_and] at rok
  refine ws_seq <| ws_if <| wt_val <| we_neD (iL iX) (Nat.le_of_ble_eq_true rfl) <| we_ofM' <| wm_lc (t := tX) tX (fun xs i ys n2 => xs = ws ∧ ys = (ws.take i).filter (fun x => !isInt x) ∧ n2 = n) (gsl_name (by decide)) <| wi_list <| we_ofM' <| wm_sliceL <| we_var rfl <| wo_some <| we_int <| wo_none ⟨ws, cut1, ⟨rfl, rfl, rfl⟩, ?_, ?_⟩
  · rintro w' j x ys n2 _ _ _ hx ⟨_, rfl, rfl⟩
    have hj := get_lt hx
    refine setE_go (by dsimp only [List.set, hideE, Ent.hide, List.map]) <| wg_name <| setE_go (by dsimp only [List.set]) ?_
    refine wt_not <| wt_truB <| we_call0 (S := S__law_integer K) rfl rfl <| wa_cons <| we_var rfl <| wa_nil ⟨hin x (List.mem_cons_of_mem _ (List.mem_of_getElem? hx)), ?_⟩
    rintro _ rfl
    have e1 : (ws.take (j + 1)).filter (fun x => !isInt x) = (ws.take j).filter (fun x => !isInt x) ++ ([x].filter fun x => !isInt x) := by rw [List.take_add_one, hx, List.filter_append]; rfl
    show (isInt x = true → _) ∧ (isInt x = false → _)
    cases hd : isInt x with
    | false =>
      refine false2 <| we_var rfl ⟨?_, rfl, ?_, rfl⟩
      · have := List.length_filter_le (fun x => !isInt x) (ws.take j)
        rw [List.length_take] at this
        omega
      · rw [e1]
        simp [List.filter, hd]
    | true =>
      refine true2 ⟨rfl, ?_, rfl⟩
      rw [e1]
      simp [List.filter, hd]
  rintro ys n2 ⟨_, rfl, rfl⟩
  rw [List.take_length]
  refine ⟨_, rfl, we_ofM' <| wm_lst <| wal_nil ⟨by simp, [], rfl, ⟨layLX fun x hx => ?_, layLX fun x hx => by cases hx⟩, dec2n (fun h3 => ?_) (fun h3 => ws_next ?_)⟩⟩
  · exact (hin x (List.mem_cons_of_mem _ (List.mem_filter.mp hx).1)).1
  · refine ws_ret <| we_noneO ⟨(none' ?_).symm, CLe_refl⟩
    rw [rok]
    cases hq : ws.all isInt with
    | false => rfl
    | true =>
      refine absurd ?_ h3
      rw [List.filter_eq_nil_iff]
      intro c hc
      rw [List.all_eq_true.mp hq c hc]; decide
  have h4 : ∀ x ∈ ws, isInt x = true := fun c hc => by
    rw [List.filter_eq_nil_iff] at h3
    have := h3 c hc
    simpa using this
  refine ws_ret <| we_someO <| we_tup2 (t := tX) (u := tU tI) <| we_ixL <| we_var rfl <| we_int ⟨kindX i, at0, we_tupleL <| we_ofM' <| wm_map (t := tX) tI numOf (gsl_name (by decide)) <| wi_list <| we_ofM' <| wm_sliceL <| we_var rfl <| wo_some <| we_int <| wo_none ⟨ws, cut1, rfl, by omega, ?_, ?_⟩⟩
  · rintro w' j x hx
    refine setE_go (by dsimp only [List.set, hideE, Ent.hide, List.map]) <| wg_name <| setE_go (by dsimp only [List.set]) ?_
    exact we_intX <| we_var rfl ⟨isInt_ok (h4 x (List.mem_of_getElem? hx)), rfl, rfl⟩
  · refine ⟨_, rfl, ?_, CLe_refl⟩
    unfold rowT
    rw [rok, List.all_eq_true.mpr h4, if_pos rfl, rsh, kOf_kindX]

abbrev Told := List (Tx × List Int) ⊕ (Str × Int × Bool)
abbrev tTold : Ty Told := tE (tL tRow) (tP3 tS tI tBo)
def toldR (rs : List Tx) : Told := match rs.findIdx? (fun r => !rowOk r) with
  | some i => .inr ("bad row", (i : Int) + 1, true)
  | none => .inl (rs.map fun r => (kindX (shpOf r).1, (shpOf r).2))
def toldF (a : Tx) : Told := toldR (rowsX a)
theorem toldR_bad {rs : List Tx} {i : Nat} {x : Tx} (h1 : rs[i]? = some x) (h2 : rowOk x = false) (h3 : ∀ j y, j < i → rs[j]? = some y → rowOk y = true) : toldR rs = .inr ("bad row", (i : Int) + 1, true) := by
  have e : rs.findIdx? (fun r => !rowOk r) = some i := by
    rw [List.findIdx?_eq_some_iff_getElem]
    obtain ⟨hl, hx⟩ := List.getElem?_eq_some_iff.mp h1
    refine ⟨hl, by rw [hx, h2]; rfl, fun j hj => ?_⟩
    rw [h3 j _ hj (List.getElem?_eq_getElem (by omega))]; decide
  unfold toldR
  rw [e]
theorem toldR_good {rs : List Tx} (h : ∀ x ∈ rs, rowOk x = true) : toldR rs = .inl (rs.map fun r => (kindX (shpOf r).1, (shpOf r).2)) := by
  have e : rs.findIdx? (fun r => !rowOk r) = none := by
    rw [List.findIdx?_eq_none_iff]
    intro x hx
    rw [h x hx]; rfl
  unfold toldR
  rw [e]
def TxOk (a : Tx) : Prop := Asc a ∧ a.length ≤ 90000 ∧ (rowsX a).length ≤ 25000
theorem rowT_bad {a : Tx} (h : rowOk a = false) : rowT a = none := by unfold rowT; rw [h]; rfl
theorem rowT_ok {a : Tx} (h : rowOk a = true) : rowT a = some (kindX (shpOf a).1, (shpOf a).2) := by unfold rowT; rw [if_pos h]
theorem notNonRow {B : Hp} {v : V} {x : Tx × List Int} (h : tRow.rep B v x) : ¬ v = .non := by
  obtain ⟨a, p, q, rfl, _⟩ := h
  intro z; cases z
def S__law_due (K : Frag) : FS K := { A := Tx × Unit, args := aCons tX aNil, ρ := Told, res := fun x => .im tTold x, cost := 0, pre := fun a => TxOk a.1, post := fun a r => r = toldF a.1 }
abbrev sp__law_due (K : Frag) : Sp := (S__law_due K).sp
instance (K : Frag) : Ents (S__law_due K).args := inferInstanceAs (Ents (aCons tX aNil))
theorem ok__law_due {P : Program} {w : World} {K : Frag} {mg : Str → Option Value} {base : Heap} {f C_Shape C_Dot C_Line C_Box C_Ring C_Drawing C_BadRow C_TugError : Addr} {fd : FuncData} (F : Fun K "_law_due" "_law_due" s__law_due f fd) (T : Bts K mg) (cl_Shape : Cl_Shape K C_Shape) (cl_Dot : Cl_Dot K C_Dot) (cl_Line : Cl_Line K C_Line) (cl_Box : Cl_Box K C_Box) (cl_Ring : Cl_Ring K C_Ring) (cl_Drawing : Cl_Drawing K C_Drawing) (XC : Xc P K mg C_BadRow C_TugError) (FM_Shp : FamF4 K C_Shape C_Dot C_Line C_Box C_Ring) (c__law_row : Callee P w K mg base CX0 2 "_law_row" ["_law_row_here"] (sp__law_row K)) : FnOk P w K mg base CX0 3 f fd ["_law_text"] (sp__law_due K) := by
  refine F.ok sc__law_due (fun vs H Q E h => fs_len h) (fun cdv A outer s H vs Q E hr h => ⟨_, (pss_cons (ps_if (pt_cmpR (op_eqK K rfl hr.units) (pv 0) pe_str (nomark _)) (pss_one (ps_ret (pe_lst pa_nil))) pss_nil)
      (pss_cons (ps_set (i := 1) sc__law_due.nd rfl (by first | exact Or.inl rfl | exact Or.inr rfl) (pe_m1 PySem.F.slot_str_split PySem.F.type_str_split mt_splitS (pv 0) pe_str))
      (pss_cons (ps_for PassesOwn.never rfl (pi_range1 (by rfl) T.b_range (pa_cons (pe_callB (call_lenK K rfl) (by rfl) T.b_len PySem.boot_len (pa_cons (pv 1) pa_nil)) pa_nil)) (pg_name (i := 2) sc__law_due.nd rfl (by first | exact Or.inl rfl | exact Or.inr rfl)) (pss_one (ps_if (pt_cmpR op_isN (pe_callC c__law_row (hr.mono (by decide)) rfl (pa_cons (pe_ix (ix_seqK K rfl) (pv 1) (pv 2) (fun _ _ => rfl)) pa_nil)) pe_non (nomark _)) (pss_one (ps_ret (pe_tup (pa_cons pe_str (pa_cons (pe_op op_addU (pv 2) pe_int) (pa_cons pe_bl pa_nil)))))) pss_nil)))
      (pss_one (ps_ret (pe_lc (own := [("_law_line", 3)]) rfl sc__law_due.nd (pi_seqK K rfl (pv 1)) (blkOk_by (N := ["_law_text", "_law_lines", "_law_k", "_law_line"]) (sc := defScope s__law_due) (by decide +kernel)) (fun _ _ _ _ _ => (pg_name (i := 3) sc__law_due.nd rfl (by first | exact Or.inl rfl | exact Or.inr rfl))) (fun _ _ _ _ _ => pts_nil) (fun _ _ _ _ _ => (pe_callC c__law_row (hr.mono (by decide)) rfl (pa_cons (pv 3) pa_nil))))))))), fs_body (Nat.le_of_ble_eq_true rfl) h fun w n a hp hm => ?_⟩)
  try dsimp only [S__law_due, List.map_cons, List.map_nil] at hp hm ⊢

  obtain ⟨a, _⟩ := a
  obtain ⟨ha, hl, hr⟩ : TxOk a := hp
  show WpS K w n [.im tX a, .no, .no, .no] _ (fun x => .im tTold x) _ _ _ (fun r n' => r = toldF a ∧ CLe 0 n n')
  refine ws_seq <| ws_if <| wt_val <| we_eqX <| we_var rfl <| we_X <| dec2 (fun h1 => ?_) (fun h1 => ws_next ?_)
  · have h1 : a = [] := h1
    subst h1
    exact ws_ret <| we_inl <| we_ofM' <| wm_lst <| wal_nil ⟨by simp, [], rfl, rfl, CLe_refl⟩
  have e : rowsX a = spl [10] 0 [] a := by unfold rowsX; exact if_neg h1
  refine ws_seq <| ws_setM <| wm_splitX (b := [10]) rfl (by simp) rfl <| we_var rfl ⟨by omega, ?_⟩
  rw [← e]
  have hin : ∀ p ∈ rowsX a, Asc p ∧ p.length ≤ 90000 := fun p hp => by
    rw [e] at hp
    obtain ⟨h1, h2⟩ := spl_all ha hp
    exact ⟨h1, by omega⟩
  unfold toldF
  generalize rowsX a = rs at hin hr e
  refine setE_go (by dsimp only [List.set]) <| ws_view (View.freezeL (i := 1) rfl) ?_
  show WpS K w n [.im tX a, .im (tL tX) rs, .no, .no] _ _ _ _ _ _
  refine ws_seq <| ws_for (t := tI) (I := fun zs i n' Γ' => zs = (List.range rs.length).map (fun (i : Nat) => (i : Int)) ∧ n' = n ∧ (∀ j y, j < i → rs[j]? = some y → rowOk y = true) ∧ Γ' = [.im tX a, .im (tL tX) rs, .no, .no]) <| wi_range1 <| we_lenVL rfl ⟨by omega, Up.of ⟨rfl, rfl, fun j y hj => absurd hj (Nat.not_lt_zero _), rfl⟩, ?_, ?_⟩
  · rintro i z n' _ hz ⟨hzs, rfl, hno, rfl⟩
    rw [hzs, List.getElem?_map] at hz
    have hi : i < rs.length := by
      cases hq : (List.range rs.length)[i]? with
      | none => rw [hq] at hz; cases hz
      | some v => have := get_lt hq; simpa using this
    rw [List.getElem?_range hi] at hz
    cases hz
    refine wg_name <| setE_go (by dsimp only [List.set]) ?_
    have at1 : atI rs (i : Int) = some rs[i] := by rw [atI_int (by omega) (by simpa using hi)]; simp
    have hx : rs[i]? = some rs[i] := List.getElem?_eq_getElem hi
    have hq := hin _ (List.getElem_mem hi)
    generalize rs[i] = x at at1 hx hq
    refine ws_if <| wt_val <| we_isNone notNonRow <| we_call0 (S := S__law_row K) rfl rfl <| wa_cons <| we_ixL <| we_var rfl <| we_var rfl ⟨x, at1, wa_nil ⟨hq, ?_⟩⟩
    rintro _ rfl
    show ((rowT x).isNone = true → _) ∧ ((rowT x).isNone = false → _)
    cases ho : rowOk x with
    | false =>
      rw [rowT_bad ho]
      refine true2 <| ws_ret <| we_inr <| we_tup3 <| we_str <| we_add <| we_var rfl <| we_int <| we_bool ⟨(toldR_bad hx ho hno).symm, CLe_refl⟩
    | true =>
      rw [rowT_ok ho]
      refine false2 <| ws_next <| Up.drops [2] ⟨hzs, rfl, fun j y hj hy => ?_, rfl⟩
      by_cases c : j = i
      · subst c; rw [hx] at hy; cases hy; exact ho
      · exact hno j y (by omega) hy
  · rintro n' _ ⟨_, rfl, hno, rfl⟩
    rw [List.length_map, List.length_range] at hno
    have hall : ∀ x ∈ rs, rowOk x = true := fun x hx => by
      obtain ⟨j, hj, rfl⟩ := List.mem_iff_getElem.mp hx
      exact hno j _ hj (List.getElem?_eq_getElem hj)
    refine ws_ret <| we_inl <| we_ofM' <| wm_map (t := tX) tRow (fun r => (kindX (shpOf r).1, (shpOf r).2)) (gsl_name (by decide)) <| wi_list <| we_var rfl ⟨rfl, by omega, ?_, ?_⟩
    · rintro w' j x hx
      have hx := List.mem_of_getElem? hx
      refine setE_go (by dsimp only [List.set, hideE, Ent.hide, List.map]) <| wg_name <| setE_go (by dsimp only [List.set]) ?_
      refine we_ofSome <| we_call0 (S := S__law_row K) rfl rfl <| wa_cons <| we_var rfl <| wa_nil ⟨hin x hx, ?_⟩
      rintro _ rfl
      exact ⟨_, rowT_ok (hall x hx), rfl, rfl⟩
    · exact ⟨_, rfl, (toldR_good hall).symm, CLe_refl⟩
def S__law_told (K : Frag) (CW CD CL CB CR CE : Addr) : FS K := { A := Tx × Unit, args := aCons tX aNil, ρ := Told, res := fun x => .im tTold x, cost := 0, pre := fun a => TxOk a.1, post := fun a r => r = toldF a.1 }
abbrev sp__law_told (K : Frag) (CW CD CL CB CR CE : Addr) : Sp := (S__law_told K CW CD CL CB CR CE).sp
instance (K : Frag) (CW CD CL CB CR CE : Addr) : Ents (S__law_told K CW CD CL CB CR CE).args := inferInstanceAs (Ents (aCons tX aNil))
theorem ok__law_told {P : Program} {w : World} {K : Frag} {mg : Str → Option Value} {base : Heap} {f C_Shape C_Dot C_Line C_Box C_Ring C_Drawing C_BadRow C_TugError : Addr} {fd : FuncData} (F : Fun K "_law_told" "_law_told" s__law_told f fd) (T : Bts K mg) (cl_Shape : Cl_Shape K C_Shape) (cl_Dot : Cl_Dot K C_Dot) (cl_Line : Cl_Line K C_Line) (cl_Box : Cl_Box K C_Box) (cl_Ring : Cl_Ring K C_Ring) (cl_Drawing : Cl_Drawing K C_Drawing) (XC : Xc P K mg C_BadRow C_TugError) (FM_Shp : FamF4 K C_Shape C_Dot C_Line C_Box C_Ring) (cm_Drawing_read : CMethBy P w K mg base (L2.CX P w) 6 C_Drawing "Drawing" "read" ["cls", "text"] (sp_Drawing_read K C_Drawing C_Dot C_Line C_Box C_Ring C_BadRow)) : FnOk P w K mg base CX0 7 f fd ["_law_text"] (sp__law_told K C_Drawing C_Dot C_Line C_Box C_Ring C_BadRow) := by
  refine F.ok sc__law_told (fun vs H Q E h => fs_len h) (fun cdv A outer s H vs Q E hr h => ⟨_, (pss_cons (ps_tryAsK K rfl (i := 2) rfl rfl sc__law_told.nd rfl rfl ⟨rfl, by decide, Or.inl XC.g_BadRow⟩ takes0 (fun W pn xe tk po => (pss_one (ps_set (i := 1) sc__law_told.nd rfl (by first | exact Or.inl rfl | exact Or.inr rfl) (pe_cmethX cm_Drawing_read (hr.mono (by decide)) tk rfl (pa_cons (pv 0) pa_nil))))) (fun a oe cls d pn hz hf => (pss_one (ps_ret (pe_tup (pa_cons pe_str (pa_cons (pe_xf XC.x_BadRow (XC.e_BadRow.no _ (by simp)) hz hf (pv 2)) (pa_cons (pe_callB (call_isXK K rfl hz hf) (by rfl) T.b_isinstance PyProof.Rows.boot_isinstance (pa_cons (pv 2) (pa_cons (C8.pe_gc (v := .ref C_TugError) rfl ⟨_, XC.g_TugError, rfl⟩) pa_nil))) pa_nil))))))))
      (pss_one (ps_ret (pe_lc (own := [("_law_shape", 3)]) rfl sc__law_told.nd (pi_seqK K rfl (pe_fld (pv 1) rfl)) (blkOk_by (N := ["_law_text", "_law_drawing", "e", "_law_shape"]) (sc := defScope s__law_told) (by decide +kernel)) (fun _ _ _ _ _ => (pg_name (i := 3) sc__law_told.nd rfl (by first | exact Or.inl rfl | exact Or.inr rfl))) (fun _ _ _ _ _ => pts_nil) (fun _ _ _ _ _ => (pe_tup (pa_cons (pe_fldK K rfl (pv 3) rfl) (pa_cons (pe_fldK K rfl (pv 3) rfl) pa_nil)))))))), fs_body (Nat.le_of_ble_eq_true rfl) h fun w n a hp hm => ?_⟩)
  try dsimp only [S__law_told, List.map_cons, List.map_nil] at hp hm ⊢

  obtain ⟨a, _⟩ := a
  have ok : TxOk a := hp
  have hr := ok.2.2
  have FC := fam_of cl_Dot cl_Line cl_Box cl_Ring
  have kT : PySem.W.kitOne K (.ref C_BadRow) (.ref C_TugError) = some true := kit_sub XC.c_TugError (by obtain ⟨cd, hc, _⟩ := PySem.W.any_some XC.x_TugError.hdC; rw [hc]; rfl) XC.s_BadRow_TugError fun _ => rfl
  show WpS K w n [.im tX a, .no, .no, .no] _ (fun x => .im tTold x) _ _ _ (fun r n' => r = toldF a ∧ CLe 0 n n')
  unfold toldF
  refine ws_seq <| ws_tryA (fun er n' Γ' => ∃ i : Nat, toldR (rowsX a) = .inr ("bad row", (i : Int) + 1, true) ∧ er = badRow C_BadRow ((i : Int) + 1) ∧ n' = n ∧ Γ' = [.im tX a, .no, .no, .no]) (fun _ _ _ => False) Wish.none (fun w' W hW => ?_) ?_
  · refine ws_set (t := tDrw C_Drawing C_Dot C_Line C_Box C_Ring) <| we_cmethX (S := S_Drawing_read K C_Drawing C_Dot C_Line C_Box C_Ring C_BadRow) hW (R := aCons tX aNil) (fun a => ((), a)) (fun h => ⟨_, _, rfl, rfl, h⟩) rfl <| wa_cons <| we_var rfl <| wa_nil ⟨ok, .inl rfl, fun r n' hr hc => ?_, fun er n' hx hc => ?_⟩
    · obtain ⟨hall, rfl⟩ := hr
      rw [Costs.zero hc]
      have hall : ∀ x ∈ rowsX a, rowOk x = true := hall
      refine setE_go (by dsimp only [List.set]) ?_
      refine ws_ret <| we_inl <| we_ofM' <| wm_map (t := tShp C_Dot C_Line C_Box C_Ring) tRow (fun s => (kindX s.1, s.2)) (gsl_name (by decide)) <| wi_tup <| we_shapesD cl_Drawing <| we_var rfl ⟨rfl, by show ((rowsX a).map shpOf).length ≤ _; rw [List.length_map]; omega, ?_, ?_⟩
      · rintro w' j x hx
        refine setE_go (by dsimp only [List.set, hideE, Ent.hide, List.map]) <| wg_name <| setE_go (by dsimp only [List.set]) ?_
        exact we_tup2 <| we_SX <| we_kindF FC <| we_var rfl <| we_numF FC <| we_var rfl ⟨rfl, rfl⟩
      · refine ⟨_, rfl, ?_, CLe_refl⟩
        rw [toldR_good hall]
        show Sum.inl (((rowsX a).map shpOf).map _) = _
        rw [List.map_map]; rfl
    · obtain ⟨i, x, h1, h2, h3, h4⟩ := hx
      exact ⟨i, toldR_bad h1 h2 h3, h4, Costs.zero hc, rfl⟩
  · rintro er n' Γ' ⟨i, hd, rfl, rfl, rfl⟩
    refine Clause.yes XC.x_BadRow XC.c_BadRow XC.s_BadRow_BadRow fun w' a cls d hc => setE_go (by dsimp only [List.set]) ?_
    rw [hd]
    refine ws_ret <| we_inr <| we_tup3 <| we_str <| we_xf rfl rfl rfl <| we_isX rfl rfl XC.i_BadRow kT ⟨rfl, CLe_refl⟩

theorem pw_all {α β : Type} {P : β → Prop} : ∀ {xs : List α} {ys : List β}, Paired (fun _ y => P y) xs ys → ∀ y ∈ ys, P y
  | _, _, .nil, y, h => by cases h
  | _, _, .cons a p, y, h => by
    rcases List.mem_cons.mp h with rfl | h
    · exact a
    · exact pw_all p y h

theorem joinL_len (sep : Tx) : ∀ ys : List Tx, (TL.joinL sep ys).length ≤ (ys.map List.length).sum + ys.length * sep.length
  | [] => by simp [TL.joinL]
  | [p] => by simp [TL.joinL]
  | p :: q :: r => by
    have ih := joinL_len sep (q :: r)
    show (p ++ (sep ++ TL.joinL sep (q :: r))).length ≤ _
    rw [List.length_append, List.length_append, List.map_cons, List.sum_cons, List.length_cons, Nat.add_mul]
    omega
theorem kindX_len (i : S4) : (kindX i).length ≤ 4 := by cases i <;> decide +kernel
theorem sum_le {l : List Nat} {m : Nat} (h : ∀ x ∈ l, x ≤ m) : l.sum ≤ l.length * m := by
  induction l with
  | nil => simp
  | cons a l ih =>
    have h1 := ih fun x hx => h x (by simp [hx])
    have h2 := h a (by simp)
    rw [List.sum_cons, List.length_cons, Nat.add_mul]; omega

/-! ### texts of drawings, read back -/
theorem numL_head : ∀ (k n : Nat), n ≤ k → (TL.numL n).head? = some 48 → n = 0
  | 0, n, h, _ => by omega
  | k + 1, n, h, e => by
    by_cases h1 : n < 10
    · rw [TL.numL_lt h1] at e
      have := Option.some.inj e
      omega
    · rw [TL.numL_step (by omega)] at e
      have ne : TL.numL (n / 10) ≠ [] := TL.numL_ne _
      have e2 : (TL.numL (n / 10)).head? = some 48 := by
        cases hq : TL.numL (n / 10) with
        | nil => exact absurd hq ne
        | cons a r => rw [hq] at e; exact e
      have := numL_head k (n / 10) (by omega) e2
      omega
theorem numL_all (n : Nat) : (TL.numL n).all dgB = true := List.all_eq_true.mpr fun c hc => by
  have := TL.numL_digits n c hc
  unfold dgB
  rw [Bool.and_eq_true, decide_eq_true_eq, decide_eq_true_eq]; exact this
theorem numL_no45 (n : Nat) : (TL.numL n).head? ≠ some 45 := fun h => TL.numL_free (n := n) (s := 45) (.inl (by decide)) (List.mem_of_mem_head? h)
theorem unsg_numL (n : Nat) : unsg 45 (TL.numL n) = TL.numL n := by unfold TL.unsg; rw [if_neg (numL_no45 n)]
theorem isInt_numL {n : Nat} (h : n < 10 ^ 700) : isInt (TL.numL n) = true := by
  unfold isInt
  rw [unsg_numL, numL_all]
  have h1 : (TL.numL n).isEmpty = false := by
    cases hq : TL.numL n with
    | nil => exact absurd hq (TL.numL_ne _)
    | cons a r => rfl
  have h2 := TL.numL_len (n := n) (k := 700) (by decide) h
  rw [h1, show decide ((TL.numL n).length ≤ 700) = true from decide_eq_true h2]
  by_cases h3 : (TL.numL n).head? = some 48
  · have := numL_head n n (Nat.le_refl _) h3
    subst this
    rfl
  · rw [show decide ((TL.numL n).head? = some 48) = false from decide_eq_false h3]; simp
theorem isInt_txI {i : Int} (h : i.natAbs < 10 ^ 700) : isInt (txI i) = true := by
  by_cases h0 : i < 0
  · rw [txI_neg h0]
    have e := isInt_numL h
    unfold isInt at e ⊢
    rw [unsg_numL] at e
    rw [show unsg 45 (45 :: TL.numL i.natAbs) = TL.numL i.natAbs from rfl]
    have h3 : ¬ (TL.numL i.natAbs).head? = some 48 := fun z => by
      have := numL_head _ _ (Nat.le_refl _) z
      omega
    rw [show decide ((TL.numL i.natAbs).head? = some 48) = false from decide_eq_false h3] at e ⊢
    simpa using (Bool.and_eq_true_iff.mp e).1
  · obtain ⟨m, rfl⟩ : ∃ m : Nat, i = m := ⟨i.toNat, by omega⟩
    rw [txI_nat]
    exact isInt_numL (by simpa using h)
theorem numOf_txI (i : Int) : numOf (txI i) = i := by
  by_cases h0 : i < 0
  · rw [txI_neg h0]
    show -((NumText.digitsVal (TL.numL i.natAbs) : Nat) : Int) = i
    rw [TL.numL_val]; omega
  · obtain ⟨m, rfl⟩ : ∃ m : Nat, i = m := ⟨i.toNat, by omega⟩
    rw [txI_nat]
    unfold TL.numOf
    rw [if_neg (numL_no45 m), TL.numL_val]
theorem txI_free {i : Int} {s : Nat} (h : s < 45) : s ∉ txI i := fun hm => by
  by_cases h0 : i < 0
  · rw [txI_neg h0] at hm
    rcases List.mem_cons.mp hm with z | z
    · omega
    · exact TL.numL_free (.inl (by omega)) z
  · obtain ⟨m, rfl⟩ : ∃ m : Nat, i = m := ⟨i.toNat, by omega⟩
    rw [txI_nat] at hm
    exact TL.numL_free (.inl (by omega)) hm
theorem txI_asc (i : Int) : Asc (txI i) := fun c hc => by
  by_cases h0 : i < 0
  · rw [txI_neg h0] at hc
    rcases List.mem_cons.mp hc with z | z
    · omega
    · have := TL.numL_digits _ _ z; omega
  · obtain ⟨m, rfl⟩ : ∃ m : Nat, i = m := ⟨i.toNat, by omega⟩
    rw [txI_nat] at hc
    have := TL.numL_digits _ _ hc; omega
theorem kindX_free (i : S4) : (32 ∉ kindX i ∧ 10 ∉ kindX i) ∧ Asc (kindX i) := by
  have h : ∀ i, ((kindX i).all fun c => decide (c ≠ 32) && decide (c ≠ 10) && decide (c < 128)) = true := fun i => by cases i <;> decide +kernel
  have h := List.all_eq_true.mp (h i)
  refine ⟨⟨fun z => absurd (h _ z) (by decide), fun z => absurd (h _ z) (by decide)⟩, fun c hc => ?_⟩
  have := h c hc
  rw [Bool.and_eq_true] at this
  exact of_decide_eq_true this.2
theorem joinL_mem {sep : Tx} {c : Nat} : ∀ {ys : List Tx}, c ∈ TL.joinL sep ys → c ∈ sep ∨ ∃ y ∈ ys, c ∈ y
  | [], h => by cases h
  | [p], h => .inr ⟨p, by simp, h⟩
  | p :: q :: r, h => by
    have h : c ∈ p ++ (sep ++ TL.joinL sep (q :: r)) := h
    rcases List.mem_append.mp h with h | h
    · exact .inr ⟨p, by simp, h⟩
    rcases List.mem_append.mp h with h | h
    · exact .inl h
    rcases joinL_mem (ys := q :: r) h with h | ⟨y, hy, h⟩
    · exact .inl h
    · exact .inr ⟨y, List.mem_cons_of_mem _ hy, h⟩
theorem rowX_spl (s : Shp) : spl [32] 0 [] (rowX s) = kindX s.1 :: s.2.map txI := TL.spl_join (by simp) fun p hp => by
  rcases List.mem_cons.mp hp with rfl | h
  · exact (kindX_free _).1.1
  · obtain ⟨z, _, rfl⟩ := List.mem_map.mp h
    exact txI_free (by decide)
theorem shpOf_rowX (s : Shp) : shpOf (rowX s) = s := by
  unfold shpOf
  rw [rowX_spl]
  dsimp only
  rw [kOf_kindX, List.map_map]
  have : (numOf ∘ txI) = id := funext fun i => numOf_txI i
  rw [this, List.map_id]
theorem rowX_free (s : Shp) : 10 ∉ rowX s ∧ Asc (rowX s) := by
  have all : ∀ c ∈ rowX s, c = 32 ∨ c ∈ kindX s.1 ∨ ∃ i, c ∈ txI i := fun c hc => by
    rcases joinL_mem hc with h | ⟨y, hy, h⟩
    · exact .inl (List.mem_singleton.mp h)
    rcases List.mem_cons.mp hy with rfl | hy
    · exact .inr (.inl h)
    · obtain ⟨z, _, rfl⟩ := List.mem_map.mp hy
      exact .inr (.inr ⟨z, h⟩)
  refine ⟨fun h => ?_, fun c hc => ?_⟩
  · rcases all _ h with z | z | ⟨i, z⟩
    · cases z
    · exact (kindX_free _).1.2 z
    · exact txI_free (by decide) z
  · rcases all _ hc with z | z | ⟨i, z⟩
    · omega
    · exact (kindX_free _).2 _ z
    · exact txI_asc _ _ z
theorem rowX_ne (s : Shp) : rowX s ≠ [] := fun h => by
  have e := rowX_spl s
  rw [h] at e
  have e2 : kindX s.1 = [] := by
    have : spl [32] 0 [] ([] : Tx) = [[]] := TL.spl_nil _ _ _
    rw [this] at e
    exact (List.cons.inj e).1.symm
  have : ∀ i, kindX i ≠ [] := fun i => by cases i <;> decide +kernel
  exact this _ e2

/-! ### rows that are made -/
theorem many_le (i : S4) : manyS i ≤ 4 := by cases i <;> decide
theorem many_ge (i : S4) : 2 ≤ manyS i := by cases i <;> decide
theorem txI_k {i : Int} {k : Nat} (hk : 0 < k) (h : i.natAbs < 10 ^ k) : (txI i).length ≤ k + 1 := by
  by_cases h0 : i < 0
  · rw [txI_neg h0, List.length_cons]
    have := TL.numL_len (n := i.natAbs) (k := k) hk h
    omega
  · obtain ⟨m, rfl⟩ : ∃ m : Nat, i = m := ⟨i.toNat, by omega⟩
    rw [txI_nat]
    have := TL.numL_len (n := m) (k := k) hk (by simpa using h)
    omega
theorem natAbs_60 {y : Int} (h : -(10 ^ 60) < y ∧ y < 10 ^ 60) : y.natAbs < 10 ^ 60 := by
  have e : ((10 : Nat) ^ 60 : Nat) = ((10 : Int) ^ 60).natAbs := by decide +kernel
  rw [e]; omega
theorem big60 {y : Int} (h : -(10 ^ 60) < y ∧ y < 10 ^ 60) : y.natAbs < 10 ^ 4300 := Nat.lt_of_lt_of_le (natAbs_60 h) (Nat.pow_le_pow_right (by decide) (by decide))
theorem parts60 {s : Shp} (h : s.2.length ≤ 4) (h7 : ∀ y ∈ s.2, -(10 ^ 60) < y ∧ y < 10 ^ 60) : ((kindX s.1 :: s.2.map txI).map List.length).sum + (kindX s.1 :: s.2.map txI).length * 1 ≤ 253 := by
  have h1 : ((s.2.map txI).map List.length).sum ≤ ((s.2.map txI).map List.length).length * 61 := sum_le fun x hx => by
    obtain ⟨y, hy, rfl⟩ := List.mem_map.mp hx
    obtain ⟨z, hz, rfl⟩ := List.mem_map.mp hy
    exact txI_k (k := 60) (by decide) (natAbs_60 (h7 z hz))
  rw [List.length_map, List.length_map] at h1
  have h2 := kindX_len s.1
  rw [List.map_cons, List.sum_cons, List.length_cons, List.length_map]
  omega
/-- a row that may be bent: at least two words -/
def Row (m : Nat) (r : Tx) : Prop := Asc r ∧ r.length ≤ m
def Two (r : Tx) : Prop := 2 ≤ (spl [32] 0 [] r).length
def S__law_rows (K : Frag) : FS K := { A := Unit, args := aPen aNil, ρ := List Tx, res := fun x => .mu (rL tX x), cost := 600, pre := fun _ => True, post := fun _ r => (1 ≤ r.length ∧ r.length ≤ 9) ∧ ∀ x ∈ r, Row 300 x ∧ Two x }
abbrev sp__law_rows (K : Frag) : Sp := (S__law_rows K).sp
instance (K : Frag) : Ents (S__law_rows K).args := inferInstanceAs (Ents (aPen aNil))
theorem ok__law_rows {P : Program} {w : World} {K : Frag} {mg : Str → Option Value} {base : Heap} {f C_Shape C_Dot C_Line C_Box C_Ring C_Drawing C_BadRow C_TugError : Addr} {fd : FuncData} (F : Fun K "_law_rows" "_law_rows" s__law_rows f fd) (T : Bts K mg) (cl_Shape : Cl_Shape K C_Shape) (cl_Dot : Cl_Dot K C_Dot) (cl_Line : Cl_Line K C_Line) (cl_Box : Cl_Box K C_Box) (cl_Ring : Cl_Ring K C_Ring) (cl_Drawing : Cl_Drawing K C_Drawing) (XC : Xc P K mg C_BadRow C_TugError) (FM_Shp : FamF4 K C_Shape C_Dot C_Line C_Box C_Ring) (c__law_draw : Callee P w K mg base CX0 1 "_law_draw" ["_law_pen_here", "_law_many"] (sp__law_draw K)) (c__law_far : Callee P w K mg base CX0 2 "_law_far" ["_law_pen_here"] (sp__law_far K)) (c__law_pick : Callee P w K mg base CX0 2 "_law_pick" ["_law_pen_here", "_law_items"] (sp__law_pick K)) : FnOk P w K mg base CX0 3 f fd ["_law_pen_here"] (sp__law_rows K) := by
  refine F.ok sc__law_rows (fun vs H Q E h => fs_len h) (fun cdv A outer s H vs Q E hr h => ⟨_, (pss_cons (ps_set (i := 1) sc__law_rows.nd rfl (by first | exact Or.inl rfl | exact Or.inr rfl) (pe_lst pa_nil))
      (pss_cons (ps_for PassesOwn.never rfl (pi_range1 (by rfl) T.b_range (pa_cons (pe_op op_addU pe_int (pe_callC c__law_draw (hr.mono (by decide)) rfl (pa_cons (pv 0) (pa_cons pe_int pa_nil)))) pa_nil)) (pg_name (i := 2) sc__law_rows.nd rfl (by first | exact Or.inl rfl | exact Or.inr rfl)) (pss_cons (ps_set (i := 3) sc__law_rows.nd rfl (by first | exact Or.inl rfl | exact Or.inr rfl) (pe_callC c__law_pick (hr.mono (by decide)) rfl (pa_cons (pv 0) (pa_cons (pe_lst (pa_cons pe_str (pa_cons pe_str (pa_cons pe_str (pa_cons pe_str pa_nil))))) pa_nil))))
      (pss_cons (ps_setLc (i := 4) (own := [("_law_at", 5)]) rfl sc__law_rows.nd rfl rfl (sw_true rfl rfl rfl (by decide +kernel)) (pi_range1 (by rfl) T.b_range (pa_cons (pe_dget (hu_of hr) (pe_disp (pps_cons pe_str pe_int (pps_cons pe_str pe_int (pps_cons pe_str pe_int (pps_cons pe_str pe_int pps_nil)))) (by rfl) (by rfl) (fun z => by cases z) (by decide)) (pv 3) (fun _ _ => rfl)) pa_nil)) (blkOk_by (N := ["_law_pen_here", "_law_rows_here", "_law_k", "_law_kind", "_law_numbers", "_law_at", "_law_n"]) (sc := defScope s__law_rows) (by decide +kernel)) (fun _ _ _ _ _ => (pg_name (i := 5) sc__law_rows.nd rfl (by first | exact Or.inl rfl | exact Or.inr rfl))) (fun _ _ _ _ _ => pts_nil) (fun _ _ _ _ _ => (pe_callC c__law_far (hr.mono (by decide)) rfl (pa_cons (pv 0) pa_nil))))
      (pss_one (ps_expr (pe_bm PySem.F.plainAttrs_list PySem.F.slot_list_append PySem.F.type_list_append mt_append (pv 1) (pa_cons (pe_m1 PySem.F.slot_str_join PySem.F.type_str_join (mt_joinK K rfl) pe_str (pe_op op_addU (pe_lst (pa_cons (pv 3) pa_nil)) (pe_lc (own := [("_law_n", 6)]) rfl sc__law_rows.nd (pi_seqK K rfl (pv 4)) (blkOk_by (N := ["_law_pen_here", "_law_rows_here", "_law_k", "_law_kind", "_law_numbers", "_law_at", "_law_n"]) (sc := defScope s__law_rows) (by decide +kernel)) (fun _ _ _ _ _ => (pg_name (i := 6) sc__law_rows.nd rfl (by first | exact Or.inl rfl | exact Or.inr rfl))) (fun _ _ _ _ _ => pts_nil) (fun _ _ _ _ _ => (pe_callTy (call_strX T.dig rfl) (by rfl) T.b_str PyProof.Rows.boot_str (pa_cons (pv 6) pa_nil)))))) pa_nil)))))))
      (pss_one (ps_ret (pv 1))))), fs_body (Nat.le_of_ble_eq_true rfl) h fun w n a hp hm => ?_⟩)
  try dsimp only [S__law_rows, List.map_cons, List.map_nil] at hp hm ⊢

  obtain ⟨m, rfl, hb⟩ := hm.some
  show WpS K w (some m) [.pen, .no, .no, .no, .no, .no, .no] _ (fun x => .mu (rL tX x)) _ _ _ (fun r n' => ((1 ≤ r.length ∧ r.length ≤ 9) ∧ ∀ x ∈ r, Row 300 x ∧ Two x) ∧ CLe 600 (some m) n')
  refine ws_seq <| ws_setM <| wm_lst (t := tX) <| wal_nil ⟨by simp, setE_go (by dsimp only [List.set]) ?_⟩
  refine ws_seq <| ws_for (t := tI) (I := fun zs p n' Γ' => (1 ≤ zs.length ∧ zs.length ≤ 9) ∧ ∃ rs, n' = some (m + 1 + 50 * p) ∧ rs.length = p ∧ (∀ x ∈ rs, Row 300 x ∧ Two x) ∧ Γ' = [.pen, .ml tX rs, .no, .no, .no, .no, .no]) <| wi_range1 <| we_add <| we_int <| we_draw rfl <| we_int ⟨by omega, _, rfl, by omega, fun q q0 q1 => ⟨by omega, Up.of ⟨by simp; omega, [], rfl, rfl, (fun r hr => by cases hr), rfl⟩, ?_, ?_⟩⟩
  · rintro p z n' Γ hz ⟨hzl, rs, rfl, hrl, hrs, rfl⟩
    have hp := get_lt hz
    refine wg_name (setE_go (by dsimp only [List.set]) ?_)
    refine ws_seq <| ws_set (t := tX) <| we_pick (t := tX) rfl <| we_lst <| wal_cons <| we_X <| wal_cons <| we_X <| wal_cons <| we_X <| wal_cons <| we_X <| wal_nil ⟨by simp, ⟨by simp, by simp⟩, _, rfl, by omega, fun kd hkd => ?_⟩
    obtain ⟨i, rfl⟩ := kinds4_mem (show kd ∈ kinds4 from hkd)
    clear hkd
    have hM := many_le i
    have g2 := many_ge i
    refine setE_go (by dsimp only [List.set]) ?_
    refine ws_seq <| ws_setM <| wm_mapM (t := tI) tI (fun _ y => -(10 ^ 60) < y ∧ y < 10 ^ 60) 12 (m + 1 + 50 * p + 1) (gsl_name (by decide)) <| wi_range1 <| we_dgetP (t := tI) <| we_ofSDM <| wm_disp fun w' _ _ _ => setE_go (by dsimp only [List.set, hideE, Ent.hide, List.map]) <| wpr_cons (t := tI) <| we_int <| wpr_cons (t := tI) <| we_int <| wpr_cons (t := tI) <| we_int <| wpr_cons (t := tI) <| we_int <| wpr_nil ⟨by simp, tabR, rfl, we_var rfl ⟨_, tabR_of i, ?_⟩⟩
    refine ⟨by omega, rfl, by simp; omega, ?_, ?_⟩
    · intro w' j y hy
      have hj : j < 4 := by have := get_lt hy; simp at this; omega
      refine setE_go (by dsimp only [List.set, hideE, Ent.hide, List.map]) <| wg_name <| setE_go (by dsimp only [List.set]) ?_
      exact we_far rfl ⟨_, rfl, by omega, fun r h0 h1 => ⟨⟨h0, h1⟩, rfl⟩⟩
    intro xs hxs
    have xl : xs.length = manyS i := by have := pw_len hxs; simp at this; omega
    have xb := pw_all hxs
    clear hxs
    rw [show ((List.range ((manyS i : Nat) : Int).toNat).map fun (i : Nat) => (i : Int)).length = manyS i by simp]
    refine setE_go (by dsimp only [List.set]) <| ws_view (View.freezeL (i := 4) rfl) ?_
    show WpS K w _ [.pen, .ml tX rs, .im tI z, .im tX (kindX i), .im (tL tI) xs, .no, .no] _ _ _ _ _ _
    have h253 := parts60 (s := (i, xs)) (by show xs.length ≤ 4; omega) xb
    refine ws_append (t := tX) (xs := rs) rfl <| we_joinS (b := [32]) rfl <| we_ofM' <| wm_cat (t := tX) <| we_ofM' <| wm_lst <| wal_cons <| we_var rfl <| wal_nil ⟨by simp, _, rfl, we_ofM' <| wm_map (t := tI) tX txI (gsl_name (by decide)) <| wi_list <| we_var rfl ⟨rfl, by omega, ?_, ?_⟩⟩
    · rintro w' j y hy
      refine setE_go (by dsimp only [List.set, hideE, Ent.hide, List.map]) <| wg_name <| setE_go (by dsimp only [List.set]) ?_
      exact we_strX <| we_var rfl ⟨big60 (xb y (List.mem_of_getElem? hy)), rfl, rfl⟩
    refine ⟨_, rfl, by rw [List.length_map]; simp; omega, _, rfl, Nat.le_trans h253 (by decide), rfl, by omega, setE_go (by dsimp only [List.set]) <| Up.le (b := m + 1 + 50 * (p + 1)) (by omega) <| Up.drops [2, 3, 4] ⟨hzl, rs ++ [rowX (i, xs)], rfl, by rw [List.length_append, hrl]; rfl, fun r hr => ?_, rfl⟩⟩
    rcases List.mem_append.mp hr with h | h
    · exact hrs r h
    · rw [List.mem_singleton.mp h]
      refine ⟨⟨(rowX_free _).2, Nat.le_trans (joinL_len _ _) (Nat.le_trans h253 (by decide))⟩, ?_⟩
      unfold Two
      rw [rowX_spl, List.length_cons, List.length_map]
      show 2 ≤ xs.length + 1
      omega
  · rintro n' Γ ⟨hzl, rs, rfl, hrl, hrs, rfl⟩
    refine ws_retV (x := rs) rfl ⟨⟨by omega, hrs⟩, CLe_some (by omega)⟩

theorem ascAll {xs : List Tx} {k : Nat} (h : (xs.all fun x => (x.all fun c => decide (c < 128)) && decide (x.length ≤ k)) = true) : ∀ x ∈ xs, Asc x ∧ x.length ≤ k := fun x hx => by
  have h := List.all_eq_true.mp h x hx
  rw [Bool.and_eq_true] at h
  exact ⟨fun c hc => of_decide_eq_true (List.all_eq_true.mp h.1 c hc), of_decide_eq_true h.2⟩
theorem Asc.app {a b : Tx} (ha : Asc a) (hb : Asc b) : Asc (a ++ b) := fun c hc => (List.mem_append.mp hc).elim (ha c) (hb c)
theorem Asc.take {a : Tx} {k : Nat} (ha : Asc a) : Asc (a.take k) := fun c hc => ha c (List.mem_of_mem_take hc)
theorem Asc.drop {a : Tx} {k : Nat} (ha : Asc a) : Asc (a.drop k) := fun c hc => ha c (List.mem_of_mem_drop hc)
theorem asc_join {ws : List Tx} (h : ∀ p ∈ ws, Asc p) : Asc (TL.joinL [32] ws) := fun c hc => by
  rcases joinL_mem hc with z | ⟨y, hy, z⟩
  · rw [List.mem_singleton.mp z]; decide
  · exact h y hy c z
theorem spl_sum {c : Nat} : ∀ (a cur : Tx), ((spl [c] 0 cur a).map List.length).sum + (spl [c] 0 cur a).length = cur.length + a.length + 1
  | [], cur => by rw [TL.spl_nil]; simp
  | d :: r, cur => by
    have e : spl [c] 0 cur (d :: r) = if TL.pre [c] (d :: r) = true then cur :: spl [c] 0 [] r else spl [c] 0 (cur ++ [d]) r := rfl
    rw [e]
    split
    · have h := spl_sum (c := c) r []
      have z : ([] : Tx).length = 0 := rfl
      rw [List.map_cons, List.sum_cons, List.length_cons, List.length_cons]; omega
    · have h := spl_sum (c := c) r (cur ++ [d])
      rw [List.length_append] at h
      rw [List.length_cons]
      simp only [List.length_cons, List.length_nil] at h
      omega
/-- words: all written with plain signs, of a size -/
def Words (m : Nat) (ws : List Tx) : Prop := (∀ p ∈ ws, Asc p) ∧ (ws.map List.length).sum + ws.length ≤ m
theorem Words.le {m k : Nat} {ws : List Tx} (h : Words m ws) (hk : m ≤ k) : Words k ws := ⟨h.1, Nat.le_trans h.2 hk⟩
theorem sum_set {x : Tx} : ∀ {ws : List Tx} {i : Nat}, ((ws.set i x).map List.length).sum ≤ (ws.map List.length).sum + x.length
  | [], i => by simp
  | y :: ws, 0 => by simp only [List.set_cons_zero, List.map_cons, List.sum_cons]; omega
  | y :: ws, i + 1 => by
    have h := sum_set (x := x) (ws := ws) (i := i)
    simp only [List.set_cons_succ, List.map_cons, List.sum_cons]; omega
theorem Words.set {m i : Nat} {ws : List Tx} {x : Tx} (h : Words m ws) (hx : Asc x) : Words (m + x.length) (ws.set i x) := ⟨fun p hp => (List.mem_or_eq_of_mem_set hp).elim (h.1 p) fun z => by rw [z]; exact hx, by
  have h1 := sum_set (x := x) (ws := ws) (i := i)
  have h2 := h.2
  rw [List.length_set]; omega⟩
theorem Words.app {m : Nat} {ws : List Tx} {x : Tx} (h : Words m ws) (hx : Asc x) : Words (m + x.length + 1) (ws ++ [x]) := ⟨fun p hp => (List.mem_append.mp hp).elim (h.1 p) fun z => by rw [List.mem_singleton.mp z]; exact hx, by
  have h2 := h.2
  rw [List.map_append, List.sum_append, List.length_append]
  simp only [List.map_cons, List.map_nil, List.sum_cons, List.sum_nil, List.length_cons, List.length_nil]; omega⟩
theorem sum_erase : ∀ {ws : List Tx} {i : Nat}, ((ws.eraseIdx i).map List.length).sum ≤ (ws.map List.length).sum
  | [], i => by simp
  | y :: ws, 0 => by simp only [List.eraseIdx_cons_zero, List.map_cons, List.sum_cons]; omega
  | y :: ws, i + 1 => by
    have h := sum_erase (ws := ws) (i := i)
    simp only [List.eraseIdx_cons_succ, List.map_cons, List.sum_cons]; omega
theorem Words.erase {m i : Nat} {ws : List Tx} (h : Words m ws) : Words m (ws.eraseIdx i) := ⟨fun p hp => h.1 p (List.mem_of_mem_eraseIdx hp), by
  have h1 := sum_erase (ws := ws) (i := i)
  have h2 := h.2
  have h3 := List.length_eraseIdx_le ws i
  omega⟩
def S__law_bent (K : Frag) : FS K := { A := Tx × Unit, args := aPen (aCons tX aNil), ρ := Tx, res := fun x => .im tX x, cost := 20, pre := fun a => (Asc a.1 ∧ a.1.length ≤ 2000) ∧ Two a.1, post := fun a r => Row (a.1.length + 1000) r }
abbrev sp__law_bent (K : Frag) : Sp := (S__law_bent K).sp
instance (K : Frag) : Ents (S__law_bent K).args := inferInstanceAs (Ents (aPen (aCons tX aNil)))
theorem ok__law_bent {P : Program} {w : World} {K : Frag} {mg : Str → Option Value} {base : Heap} {f C_Shape C_Dot C_Line C_Box C_Ring C_Drawing C_BadRow C_TugError : Addr} {fd : FuncData} (F : Fun K "_law_bent" "_law_bent" s__law_bent f fd) (T : Bts K mg) (cl_Shape : Cl_Shape K C_Shape) (cl_Dot : Cl_Dot K C_Dot) (cl_Line : Cl_Line K C_Line) (cl_Box : Cl_Box K C_Box) (cl_Ring : Cl_Ring K C_Ring) (cl_Drawing : Cl_Drawing K C_Drawing) (XC : Xc P K mg C_BadRow C_TugError) (FM_Shp : FamF4 K C_Shape C_Dot C_Line C_Box C_Ring) (c__law_pick : Callee P w K mg base CX0 2 "_law_pick" ["_law_pen_here", "_law_items"] (sp__law_pick K)) (c__law_far : Callee P w K mg base CX0 2 "_law_far" ["_law_pen_here"] (sp__law_far K)) (c__law_draw : Callee P w K mg base CX0 1 "_law_draw" ["_law_pen_here", "_law_many"] (sp__law_draw K)) : FnOk P w K mg base CX0 3 f fd ["_law_pen_here", "_law_row_here"] (sp__law_bent K) := by
  refine F.ok sc__law_bent (fun vs H Q E h => fs_len h) (fun cdv A outer s H vs Q E hr h => ⟨_, (pss_cons (ps_par (i := 2) (j := 3) rfl sc__law_bent.nd rfl rfl (by decide) rfl rfl (pa_cons (pe_m1 PySem.F.slot_str_split PySem.F.type_str_split mt_splitS (pv 1) pe_str) (pa_cons (pe_callC c__law_draw (hr.mono (by decide)) rfl (pa_cons (pv 0) (pa_cons (pe_op op_addU (pe_callB (call_lenK K rfl) (by rfl) T.b_len PySem.boot_len (pa_cons (pv 1) pa_nil)) pe_int) pa_nil))) pa_nil)) (by rfl))
      (pss_cons (ps_par (i := 4) (j := 5) rfl sc__law_bent.nd rfl rfl (by decide) rfl rfl (pa_cons (pe_callC c__law_draw (hr.mono (by decide)) rfl (pa_cons (pv 0) (pa_cons pe_int pa_nil))) (pa_cons (pe_op op_addU pe_int (pe_callC c__law_draw (hr.mono (by decide)) rfl (pa_cons (pv 0) (pa_cons (pe_op op_subU (pe_callB (call_lenK K rfl) (by rfl) T.b_len PySem.boot_len (pa_cons (pv 2) pa_nil)) pe_int) pa_nil)))) pa_nil)) (by rfl))
      (pss_cons (ps_if (pt_cmpR (op_eqK K rfl hr.units) (pv 4) pe_int (nomark _)) (pss_cons (ps_set (i := 6) sc__law_bent.nd rfl (by first | exact Or.inl rfl | exact Or.inr rfl) pe_str)
      (pss_one (ps_ret (pe_op op_addU (pe_op op_addU (pe_slice C8.sl_txt (pv 1) po_none (po_some (pv 3))) (pe_ix (ix_seqK K rfl) (pv 6) (pe_callC c__law_draw (hr.mono (by decide)) rfl (pa_cons (pv 0) (pa_cons (pe_callB (call_lenK K rfl) (by rfl) T.b_len PySem.boot_len (pa_cons (pv 6) pa_nil)) pa_nil))) (fun _ _ => rfl))) (pe_slice C8.sl_txt (pv 1) (po_some (pv 3)) po_none))))) pss_nil)
      (pss_cons (ps_if (pt_cmpR (op_eqK K rfl hr.units) (pv 4) pe_int (nomark _)) (pss_one (ps_ret (pe_op op_addU (pe_slice C8.sl_txt (pv 1) po_none (po_some (pv 3))) (pe_slice C8.sl_txt (pv 1) (po_some (pe_op op_addU (pv 3) pe_int)) po_none)))) pss_nil)
      (pss_cons (ps_if (pt_cmpR (op_eqK K rfl hr.units) (pv 4) pe_int (nomark _)) (pss_one (ps_asg (pe_callC c__law_pick (hr.mono (by decide)) rfl (pa_cons (pv 0) (pa_cons (pe_lst (pa_cons pe_str (pa_cons pe_str (pa_cons pe_str (pa_cons pe_str (pa_cons pe_str (pa_cons pe_str (pa_cons pe_str (pa_cons pe_str (pa_cons pe_str pa_nil)))))))))) pa_nil))) (pg_sub (pv 2) pe_int set_list))) (pss_one (ps_if (pt_cmpR (op_eqK K rfl hr.units) (pv 4) pe_int (nomark _)) (pss_one (ps_expr (pe_bm PySem.F.plainAttrs_list PySem.F.slot_list_append PySem.F.type_list_append mt_append (pv 2) (pa_cons (pe_callTy (call_strX T.dig rfl) (by rfl) T.b_str PyProof.Rows.boot_str (pa_cons (pe_callC c__law_far (hr.mono (by decide)) rfl (pa_cons (pv 0) pa_nil)) pa_nil)) pa_nil)))) (pss_one (ps_if (pt_cmpR (op_eqK K rfl hr.units) (pv 4) pe_int (nomark _)) (pss_one (ps_expr (pe_bm PySem.F.plainAttrs_list PySem.F.slot_list_pop PySem.F.type_list_pop mt_popAt (pv 2) (pa_cons (pv 5) pa_nil)))) (pss_one (ps_if (pt_cmpR (op_eqK K rfl hr.units) (pv 4) pe_int (nomark _)) (pss_cons (ps_set (i := 7) sc__law_bent.nd rfl (by first | exact Or.inl rfl | exact Or.inr rfl) (pe_lst (pa_cons pe_str (pa_cons pe_str (pa_cons pe_str (pa_cons pe_str (pa_cons pe_str (pa_cons pe_str (pa_cons pe_str (pa_cons pe_str (pa_cons pe_str (pa_cons pe_str (pa_cons pe_str (pa_cons pe_str (pa_cons pe_str (pa_cons pe_str pa_nil))))))))))))))))
      (pss_one (ps_asg (pe_callC c__law_pick (hr.mono (by decide)) rfl (pa_cons (pv 0) (pa_cons (pv 7) pa_nil))) (pg_sub (pv 2) (pv 5) set_list)))) (pss_one (ps_if (pt_cmpR (op_eqK K rfl hr.units) (pv 4) pe_int (nomark _)) (pss_one (ps_asg (pe_op op_addU (pe_callC c__law_pick (hr.mono (by decide)) rfl (pa_cons (pv 0) (pa_cons (pe_lst (pa_cons pe_str (pa_cons pe_str pa_nil))) pa_nil))) (pe_op op_mulS pe_str (pe_op op_addU pe_int (pe_callC c__law_draw (hr.mono (by decide)) rfl (pa_cons (pv 0) (pa_cons pe_int pa_nil)))))) (pg_sub (pv 2) (pv 5) set_list))) (pss_one (ps_if (pt_cmpR (op_eqK K rfl hr.units) (pv 4) pe_int (nomark _)) (pss_one (ps_ret pe_str)) (pss_one (ps_if (pt_cmpR (op_eqK K rfl hr.units) (pv 4) pe_int (nomark _)) (pss_one (ps_ret (pe_op op_addU (pv 1) (pe_callC c__law_pick (hr.mono (by decide)) rfl (pa_cons (pv 0) (pa_cons (pe_lst (pa_cons pe_str (pa_cons pe_str (pa_cons pe_str (pa_cons pe_str (pa_cons pe_str pa_nil)))))) pa_nil)))))) (pss_one (ps_ret (pe_op op_addU (pe_callC c__law_pick (hr.mono (by decide)) rfl (pa_cons (pv 0) (pa_cons (pe_lst (pa_cons pe_str (pa_cons pe_str pa_nil))) pa_nil))) (pv 1)))))))))))))))))
      (pss_one (ps_ret (pe_m1 PySem.F.slot_str_join PySem.F.type_str_join (mt_joinK K rfl) pe_str (pv 2))))))))), fs_body (Nat.le_of_ble_eq_true rfl) h fun w n a hp hm => ?_⟩)
  try dsimp only [S__law_bent, List.map_cons, List.map_nil] at hp hm ⊢

  obtain ⟨a, _⟩ := a
  obtain ⟨m, rfl, hb⟩ := hm.some
  obtain ⟨⟨ha, hl⟩, h2⟩ : (Asc a ∧ a.length ≤ 2000) ∧ Two a := hp
  show WpS K w (some m) [.pen, .im tX a, .no, .no, .no, .no, .no, .no] _ (fun x => .im tX x) _ _ _ (fun r n' => Row (a.length + 1000) r ∧ CLe 20 (some m) n')
  have hw : Words (a.length + 1) (spl [32] 0 [] a) := ⟨fun p hp => (spl_all ha hp).1, by
    have := spl_sum (c := 32) a []
    have z : ([] : Tx).length = 0 := rfl
    omega⟩
  unfold Two at h2
  have wl : (spl [32] 0 [] a).length ≤ 2001 := by have := hw.2; omega
  refine ws_seq <| ws_par2ME (u := tI) <| wm_splitX (b := [32]) rfl (by simp) rfl <| we_var rfl ⟨by omega, rfl, fun w' => setE_go (by dsimp only [List.set, hideE, Ent.hide, List.map]) <| we_draw rfl <| we_add <| we_lenX <| we_var rfl ⟨by omega, we_int ⟨⟨by omega, by omega⟩, _, rfl, by omega, fun p p0 p1 => setE_go (by dsimp only [List.set]) ?_⟩⟩⟩
  generalize spl [32] 0 [] a = ws at hw h2 wl
  have hp : p.toNat ≤ a.length := by omega
  refine ws_seq <| ws_par2 (t := tI) (u := tI) <| we_draw rfl <| we_int ⟨⟨by omega, by omega⟩, _, rfl, by omega, fun sort s0 s1 => we_add <| we_int <| we_draw rfl <| we_sub <| we_lenVM (t := tX) (xs := ws) rfl <| we_int ⟨⟨by omega, by omega⟩, _, rfl, by omega, fun q q0 q1 => setE_go (by dsimp only [List.set]) ?_⟩⟩
  generalize hpl : 1 + q = place
  have pl0 : 0 ≤ place := by omega
  have pl1 : place < ws.length := by omega
  refine ws_seq <| ws_if <| wt_val <| we_eqI <| we_var rfl <| we_int <| dec2 (fun _ => ?_) (fun _ => ws_next ?_)
  · have hL : (∀ c ∈ (" -0123456789abcdefghijklmnopqrstuvwxyzABCXYZ.,;:+*/()[]{}<>=!?#&_~|'\"@$^" : Str).cps.toList, c < 128) ∧ 1 ≤ (" -0123456789abcdefghijklmnopqrstuvwxyzABCXYZ.,;:+*/()[]{}<>=!?#&_~|'\"@$^" : Str).cps.toList.length ∧ (" -0123456789abcdefghijklmnopqrstuvwxyzABCXYZ.,;:+*/()[]{}<>=!?#&_~|'\"@$^" : Str).cps.toList.length ≤ 100 := by decide +kernel
    refine ws_seq <| ws_set (t := tX) <| we_X ?_
    generalize (" -0123456789abcdefghijklmnopqrstuvwxyzABCXYZ.,;:+*/()[]{}<>=!?#&_~|'\"@$^" : Str).cps.toList = L at hL
    obtain ⟨L1, L2, L3⟩ := hL
    refine setE_go (by dsimp only [List.set]) ?_
    refine ws_ret <| we_addX <| we_addX <| we_slX <| we_var rfl ⟨by omega, wo_none <| wo_some <| we_var rfl <| we_ixX <| we_var rfl <| we_draw rfl <| we_lenX <| we_var rfl ⟨by omega, ⟨by omega, by omega⟩, _, rfl, by omega, fun j j0 j1 => ⟨by omega, L[j.toNat]'(by omega), atI_int j0 (by omega), ?_⟩⟩⟩
    rw [cutX_to p0]
    have t1 : (a.take p.toNat).length ≤ 2000 := by rw [List.length_take]; omega
    refine ⟨by show _ + 1 ≤ _; omega, we_slX <| we_var rfl ⟨by omega, wo_some <| we_var rfl <| wo_none ?_⟩⟩
    rw [cutX_from p0]
    have t2 : (a.drop p.toNat).length + p.toNat = a.length := by rw [List.length_drop]; omega
    refine ⟨by rw [List.length_append]; show _ + 1 + _ ≤ _; omega, ⟨(ha.take.app fun c hc => by rw [List.mem_singleton.mp hc]; exact L1 _ (List.getElem_mem _)).app ha.drop, ?_⟩, CLe_some (by omega)⟩
    rw [List.length_append, List.length_append, List.length_take]
    show _ + 1 + _ ≤ _
    omega
  refine ws_seq <| ws_if <| wt_val <| we_eqI <| we_var rfl <| we_int <| dec2 (fun _ => ?_) (fun _ => ws_next ?_)
  · refine ws_ret <| we_addX <| we_slX <| we_var rfl ⟨by omega, wo_none <| wo_some <| we_var rfl <| we_slX <| we_var rfl ⟨by omega, wo_some <| we_add <| we_var rfl <| we_int <| wo_none ?_⟩⟩
    rw [cutX_to p0, cutX_from (by omega)]
    have t1 : (a.take p.toNat).length ≤ a.length := by rw [List.length_take]; omega
    have t2 : (a.drop (p + 1).toNat).length ≤ a.length := by rw [List.length_drop]; omega
    have t3 : (a.take p.toNat).length = p.toNat := by rw [List.length_take]; omega
    have t4 : (a.drop (p + 1).toNat).length = a.length - (p + 1).toNat := List.length_drop
    exact ⟨by omega, ⟨ha.take.app ha.drop, by rw [List.length_append]; omega⟩, CLe_some (by omega)⟩
  refine ws_cutP' (fun n4 Γ' => ∃ ys e7 c, Words (a.length + 1000) ys ∧ c ≤ m + 20 ∧ n4 = some c ∧ Γ' = [.pen, .im tX a, .ml tX ys, .im tI p, .im tI sort, .im tI place, .no, e7]) ?_ ?_
  · refine ws_if <| wt_val <| we_eqI <| we_var rfl <| we_int <| dec2 (fun _ => ?_) (fun _ => ?_)
    · refine ws_setIx (t := tX) (r0 := rL tX ws) (xs := ws) rfl <| we_pick (t := tX) rfl <| we_lst <| wal_cons <| we_X <| wal_cons <| we_X <| wal_cons <| we_X <| wal_cons <| we_X <| wal_cons <| we_X <| wal_cons <| we_X <| wal_cons <| we_X <| wal_cons <| we_X <| wal_cons <| we_X <| wal_nil ⟨by simp, ⟨by simp, by simp⟩, _, rfl, by omega, fun x hx => we_int ⟨rfl, ⟨by omega, by omega⟩, ?_⟩⟩
      obtain ⟨x1, x2⟩ := ascAll (k := 5) (by decide +kernel) x hx
      exact setE_go (by dsimp only [List.set]) ⟨_, _, _, (hw.set (i := (0 : Int).toNat) x1).le (by omega), by omega, rfl, rfl⟩
    refine ws_if <| wt_val <| we_eqI <| we_var rfl <| we_int <| dec2 (fun _ => ?_) (fun _ => ?_)
    · refine ws_append (t := tX) (xs := ws) rfl <| we_strX <| we_far rfl ⟨_, rfl, by omega, fun r r0 r1 => ⟨big60 ⟨r0, r1⟩, rfl, by omega, setE_go (by dsimp only [List.set]) ⟨_, _, _, (hw.app (txI_asc r)).le ?_, by omega, rfl, rfl⟩⟩⟩
      have := txI_k (k := 60) (by decide) (natAbs_60 ⟨r0, r1⟩)
      omega
    refine ws_if <| wt_val <| we_eqI <| we_var rfl <| we_int <| dec2 (fun _ => ?_) (fun _ => ?_)
    · exact ws_drop <| we_popAt (t := tX) (xs := ws) rfl <| we_var rfl ⟨rfl, by omega, pl0, _, List.getElem?_eq_getElem (by omega), setE_go (by dsimp only [List.set]) ⟨_, _, _, hw.erase.le (by omega), by omega, rfl, rfl⟩⟩
    refine ws_if <| wt_val <| we_eqI <| we_var rfl <| we_int <| dec2 (fun _ => ?_) (fun _ => ?_)
    · refine ws_seq <| ws_set (t := tL tX) <| we_lst <| wal_cons <| we_X <| wal_cons <| we_X <| wal_cons <| we_X <| wal_cons <| we_X <| wal_cons <| we_X <| wal_cons <| we_X <| wal_cons <| we_X <| wal_cons <| we_X <| wal_cons <| we_X <| wal_cons <| we_X <| wal_cons <| we_X <| wal_cons <| we_X <| wal_cons <| we_X <| wal_cons <| we_X <| wal_nil ⟨by simp, setE_go (by dsimp only [List.set]) ?_⟩
      refine ws_setIx (t := tX) (r0 := rL tX ws) (xs := ws) rfl <| we_pick (t := tX) rfl <| we_var rfl ⟨⟨by simp, by simp⟩, _, rfl, by omega, fun x hx => we_var rfl ⟨rfl, ⟨pl0, pl1⟩, ?_⟩⟩
      obtain ⟨x1, x2⟩ := ascAll (k := 5) (by decide +kernel) x hx
      exact setE_go (by dsimp only [List.set]) ⟨_, _, _, (hw.set (i := place.toNat) x1).le (by omega), by omega, rfl, rfl⟩
    refine ws_if <| wt_val <| we_eqI <| we_var rfl <| we_int <| dec2 (fun _ => ?_) (fun _ => ?_)
    · refine ws_setIx (t := tX) (r0 := rL tX ws) (xs := ws) rfl <| we_addX <| we_pick (t := tX) rfl <| we_lst <| wal_cons <| we_X <| wal_cons <| we_X <| wal_nil ⟨by simp, ⟨by simp, by simp⟩, _, rfl, by omega, fun x hx => we_mulX (c := 57) rfl <| we_add <| we_int <| we_draw rfl <| we_int ⟨⟨by omega, by omega⟩, _, rfl, by omega, fun k k0 k1 => ⟨⟨by omega, by omega⟩, ?_⟩⟩⟩
      obtain ⟨x1, x2⟩ := ascAll (k := 5) (by decide +kernel) x hx
      have l1 : (List.replicate (699 + k).toNat (57 : Nat)).length ≤ 701 := by rw [List.length_replicate]; omega
      have a1 : Asc (List.replicate (699 + k).toNat (57 : Nat)) := fun c hc => by rw [(List.mem_replicate.mp hc).2]; decide
      refine ⟨by omega, we_var rfl ⟨rfl, ⟨pl0, pl1⟩, setE_go (by dsimp only [List.set]) ⟨_, _, _, (hw.set (i := place.toNat) (x1.app a1)).le ?_, by omega, rfl, rfl⟩⟩⟩
      rw [List.length_append]; omega
    refine ws_if <| wt_val <| we_eqI <| we_var rfl <| we_int <| dec2 (fun _ => ?_) (fun _ => ?_)
    · exact ws_ret <| we_X ⟨⟨(fun c hc => by cases hc), Nat.zero_le _⟩, CLe_some (by omega)⟩
    refine ws_if <| wt_val <| we_eqI <| we_var rfl <| we_int <| dec2 (fun _ => ?_) (fun _ => ?_)
    · refine ws_ret <| we_addX <| we_var rfl <| we_pick (t := tX) rfl <| we_lst <| wal_cons <| we_X <| wal_cons <| we_X <| wal_cons <| we_X <| wal_cons <| we_X <| wal_cons <| we_X <| wal_nil ⟨by simp, ⟨by simp, by simp⟩, _, rfl, by omega, fun x hx => ?_⟩
      obtain ⟨x1, x2⟩ := ascAll (k := 5) (by decide +kernel) x hx
      exact ⟨by omega, ⟨ha.app x1, by rw [List.length_append]; omega⟩, CLe_some (by omega)⟩
    · refine ws_ret <| we_addX <| we_pick (t := tX) rfl <| we_lst <| wal_cons <| we_X <| wal_cons <| we_X <| wal_nil ⟨by simp, ⟨by simp, by simp⟩, _, rfl, by omega, fun x hx => we_var rfl ?_⟩
      obtain ⟨x1, x2⟩ := ascAll (k := 5) (by decide +kernel) x hx
      exact ⟨by omega, ⟨x1.app ha, by rw [List.length_append]; omega⟩, CLe_some (by omega)⟩
  rintro _ _ ⟨ys, e7, c, hy, hc, rfl, rfl⟩
  have hy2 := hy.2
  refine ws_ret <| we_joinS (b := [32]) rfl <| we_varL rfl <| setE_go (by dsimp only [List.set]) ⟨?_, ⟨asc_join hy.1, ?_⟩, CLe_some hc⟩
  · show _ + _ * 1 ≤ _
    omega
  · have := joinL_len [32] ys
    have z : ([32] : Tx).length = 1 := rfl
    rw [z] at this
    omega

def dT {K : Frag} : IsP K tTold := pE (iL (iP iX (iU iI))).p (iP3 iS iI iB).p
theorem dT_refl {K : Frag} (x : Told) : PyData.eqv ((dT (K := K)).enc x) ((dT (K := K)).enc x) = true := by
  cases x with
  | inl a => exact ((iL (iP (K := K) iX (iU iI))).inj a a).mpr rfl
  | inr p => exact ((iP3 (K := K) iS iI iB).inj p p).mpr rfl
theorem layUI {K : Frag} (xs : List Int) : ((iU (iI (K := K))).enc xs).canLay0 = true := layU fun x _ => layI x
theorem layRows {K : Frag} {rs : List (Tx × List Int)} (h : ∀ r ∈ rs, Asc r.1) : ((iL (iP iX (iU (iI (K := K))))).enc rs).canLay0 = true := layL fun x hx => by
  have h1 := layUI (K := K) x.2
  have h2 := (h x hx).strOk
  show PyData.canLay0 (.tuple [.str (SX.S x.1), (iU (iI (K := K))).enc x.2]) = true
  simp [PyData.canLay0, PyData.canLayAll0, h2, h1]
theorem layBad {K : Frag} {l : Int} : ((iP3 (K := K) iS iI iB).enc ("bad row", l, true)).canLay0 = true := by
  have h : PyData.strOk ("bad row" : Str) = true := by decide +kernel
  show PyData.canLay0 (.tuple [.str "bad row", .int l, .bool true]) = true
  simp [PyData.canLay0, PyData.canLayAll0, h]
theorem told_lay {K : Frag} (a : Tx) : ((dT (K := K)).enc (toldF a)).canLay0 = true := by
  unfold toldF toldR
  split
  · exact layBad
  · refine layRows fun r hr => ?_
    obtain ⟨x, _, rfl⟩ := List.mem_map.mp hr
    exact (kindX_free _).2
theorem join_ok {rs : List Tx} (hl : rs.length ≤ 10) (h : ∀ x ∈ rs, Row 2300 x) : (rs.map List.length).sum + rs.length * 1 ≤ 23010 ∧ TxOk (TL.joinL [10] rs) := by
  have h1 : (rs.map List.length).sum ≤ (rs.map List.length).length * 2300 := sum_le fun x hx => by
    obtain ⟨y, hy, rfl⟩ := List.mem_map.mp hx
    exact (h y hy).2
  rw [List.length_map] at h1
  have h2 := joinL_len [10] rs
  have z : ([10] : Tx).length = 1 := rfl
  rw [z] at h2
  refine ⟨by omega, fun c hc => ?_, by omega, ?_⟩
  · rcases joinL_mem hc with z | ⟨y, hy, z⟩
    · rw [List.mem_singleton.mp z]; decide
    · exact (h y hy).1 c z
  · unfold rowsX
    split
    · simp
    · have := spl_many (sep := [10]) (TL.joinL [10] rs) 0 []
      omega
theorem Row.le {m k : Nat} {r : Tx} (h : Row m r) (hk : m ≤ k) : Row k r := ⟨h.1, Nat.le_trans h.2 hk⟩
section
variable {K : Frag} {w : Wd} {n : Option Nat} {Γ : TL.Env} {ta tb te : TE} {CW CD CL CB CR CE : Addr} {E : XK}
theorem we_told {k : Told → NK} (h : WpE K w n Γ te tX (fun x n Γ => TxOk x ∧ k (toldF x) n Γ)) : WpE K w n Γ (tCall (sp__law_told K CW CD CL CB CR CE) [] E (tCons te tNil)) tTold k :=
  we_call0 (S := S__law_told K CW CD CL CB CR CE) rfl rfl <| wa_cons <| we_mono h fun x _ _ ⟨hx, q⟩ => wa_nil ⟨hx, fun r hr => by
    have hr : r = toldF x := hr
    rw [hr]; exact q⟩
theorem we_due {k : Told → NK} (h : WpE K w n Γ te tX (fun x n Γ => TxOk x ∧ k (toldF x) n Γ)) : WpE K w n Γ (tCall (sp__law_due K) [] E (tCons te tNil)) tTold k :=
  we_call0 (S := S__law_due K) rfl rfl <| wa_cons <| we_mono h fun x _ _ ⟨hx, q⟩ => wa_nil ⟨hx, fun r hr => by
    have hr : r = toldF x := hr
    rw [hr]; exact q⟩
end
theorem two_lt {r : Tx} (h : ¬ ((spl [32] 0 [] r).length : Int) < 2) : Two r := by unfold Two; omega
/-! ### the source of draws -/
abbrev sp__law_pen (K : Frag) : Sp := spPen K
theorem cut63 {xs : List V} (h : xs.length ≤ 63) : cutV xs none (some 63) = xs := by
  show ((xs.drop 0).take (HT.sIx xs.length xs.length (some ((63 : Nat) : Int)) - 0)) = xs
  rw [HT.sIx_nat, List.drop_zero, Nat.sub_zero, Nat.min_eq_right h, List.take_length]
theorem putK_new {kvs : List (Key × V)} {k : Key} {v : V} (h : ∀ p ∈ kvs, ¬ p.1 = k) : putK kvs k v = kvs ++ [(k, v)] := by
  unfold putK
  rw [if_neg]
  intro z
  obtain ⟨p, hp, e⟩ := List.any_eq_true.mp z
  exact h p hp (of_decide_eq_true e)
theorem merge_pen {c : Addr} {a l : Int} : mergeK [] (penKV c a l) = penKV c a l := by
  show putK (putK (putK [] (Sum.inr "cells" : Key) (.ref c)) (Sum.inr "at" : Key) (.int a)) (Sum.inr "left" : Key) (.int l) = _
  rw [putK_new (kvs := []) (fun p hp => by cases hp), putK_new (kvs := [] ++ _) (fun p hp => by
    rw [List.mem_singleton.mp hp]; exact kne3), putK_new (fun p hp => by
    rcases List.mem_append.mp hp with q | q
    · rw [List.mem_singleton.mp q]; exact kne1
    · rw [List.mem_singleton.mp q]; exact kne2)]
  rfl
theorem ok__law_pen {P : Program} {w : World} {K : Frag} {mg : Str → Option Value} {base : Heap} {f C_Shape C_Dot C_Line C_Box C_Ring C_Drawing C_BadRow C_TugError : Addr} {fd : FuncData} (F : Fun K "_law_pen" "_law_pen" s__law_pen f fd) (T : Bts K mg) (cl_Shape : Cl_Shape K C_Shape) (cl_Dot : Cl_Dot K C_Dot) (cl_Line : Cl_Line K C_Line) (cl_Box : Cl_Box K C_Box) (cl_Ring : Cl_Ring K C_Ring) (cl_Drawing : Cl_Drawing K C_Drawing) (XC : Xc P K mg C_BadRow C_TugError) (FM_Shp : FamF4 K C_Shape C_Dot C_Line C_Box C_Ring) : FnOk P w K mg base CX0 1 f fd ["_law_script"] (sp__law_pen K) := by
  refine F.ok sc__law_pen (fun vs H Q E h => by obtain ⟨a, ns, rfl, _⟩ := h; rfl) (fun cdv A outer s H vs Q E hr h => ⟨_, (pss_one (ps_ret (pe_disp (pps_cons pe_str (pe_callTy (call_listK K rfl) (by rfl) T.b_list PyProof.Rows.boot_list (pa_cons (pe_slice (sl_listK K rfl) (pv 0) po_none (po_some pe_int)) pa_nil)) (pps_cons pe_str pe_int (pps_cons pe_str pe_int pps_nil))) (by rfl) (by rfl) (fun z => by cases z) (by decide)))), ?_⟩)

  obtain ⟨a, ns, rfl, hS, hl, q⟩ := h
  intro p hp
  have e0 : Ex H (upd H p (.dK [])) := Ex.new hp
  refine ⟨.ref a, rfl, 63, rfl, a, ns.map V.int, rfl, e0.l hS, fun l h1 => ⟨l, _, rfl, .inl (SqL.of upd_same), fun c h2 => ?_⟩⟩
  have hlp : l ≠ p := fun z => by rw [z, upd_same] at h1; cases h1
  have hcl : c ≠ l := fun z => by rw [z, upd_same] at h2; cases h2
  rw [upd_ne hcl] at h2
  have hcp : c ≠ p := fun z => by rw [z, upd_same] at h2; cases h2
  rw [upd_ne hcp] at h2
  refine ⟨by rw [upd_ne (Ne.symm hcp), upd_ne (Ne.symm hlp), upd_same], penKV c 0 0, rfl, Nat.le_of_ble_eq_true rfl, ?_⟩
  rw [merge_pen]
  refine q c p _ ?_ h2 hp (Ne.symm hcp) ?_ upd_same
  · intro x o hx
    have x1 : x ≠ p := ne_of_none hx hp
    have x2 : x ≠ c := ne_of_none hx h2
    have x3 : x ≠ l := ne_of_none hx (by rw [upd_ne hlp] at h1; exact h1)
    rw [upd_ne x1, upd_ne x2, upd_ne x3, upd_ne x1]; exact hx
  · rw [upd_ne hcp, upd_same, cut63 (by simpa using hl)]

theorem ok_law {P : Program} {w : World} {K : Frag} {mg : Str → Option Value} {base : Heap} {f C_Shape C_Dot C_Line C_Box C_Ring C_Drawing C_BadRow C_TugError : Addr} {fd : FuncData} (F : Fun K "law" "law" s_law f fd) (T : Bts K mg) (cl_Shape : Cl_Shape K C_Shape) (cl_Dot : Cl_Dot K C_Dot) (cl_Line : Cl_Line K C_Line) (cl_Box : Cl_Box K C_Box) (cl_Ring : Cl_Ring K C_Ring) (cl_Drawing : Cl_Drawing K C_Drawing) (XC : Xc P K mg C_BadRow C_TugError) (FM_Shp : FamF4 K C_Shape C_Dot C_Line C_Box C_Ring) (c__law_told : Callee P w K mg base CX0 7 "_law_told" ["_law_text"] (sp__law_told K C_Drawing C_Dot C_Line C_Box C_Ring C_BadRow)) (c__law_due : Callee P w K mg base CX0 3 "_law_due" ["_law_text"] (sp__law_due K)) (c__law_draw : Callee P w K mg base CX0 1 "_law_draw" ["_law_pen_here", "_law_many"] (sp__law_draw K)) (c__law_bent : Callee P w K mg base CX0 3 "_law_bent" ["_law_pen_here", "_law_row_here"] (sp__law_bent K)) (c__law_rows : Callee P w K mg base CX0 3 "_law_rows" ["_law_pen_here"] (sp__law_rows K)) (c__law_pen : Callee P w K mg base CX0 1 "_law_pen" ["_law_script"] (sp__law_pen K)) : FnOk P w K mg base CX0 8 f fd ["_law_script"] (spLaw K) := by
  refine F.ok sc_law (fun vs H Q E h => by obtain ⟨a, ns, rfl, _⟩ := h; rfl) (fun cdv A outer s H vs Q E hr h => ⟨_, (pss_cons (ps_set (i := 1) sc_law.nd rfl (by first | exact Or.inl rfl | exact Or.inr rfl) (pe_callC c__law_pen (hr.mono (by decide)) rfl (pa_cons (pv 0) pa_nil)))
      (pss_cons (ps_for PassesOwn.never rfl (pi_range1 (by rfl) T.b_range (pa_cons (pe_op op_addU pe_int (pe_callB (call_minU rfl) (by rfl) T.b_min PyProof.Rows.boot_min (pa_cons pe_int (pa_cons (pe_callB (call_lenK K rfl) (by rfl) T.b_len PySem.boot_len (pa_cons (pv 0) pa_nil)) pa_nil)))) pa_nil)) (pg_name (i := 2) sc_law.nd rfl (by first | exact Or.inl rfl | exact Or.inr rfl)) (pss_cons (ps_set (i := 3) sc_law.nd rfl (by first | exact Or.inl rfl | exact Or.inr rfl) (pe_callC c__law_rows (hr.mono (by decide)) rfl (pa_cons (pv 1) pa_nil)))
      (pss_cons (ps_if (pt_cmpR (op_neK K rfl hr.units) (pe_callC c__law_told (hr.mono (by decide)) rfl (pa_cons (pe_m1 PySem.F.slot_str_join PySem.F.type_str_join (mt_joinK K rfl) pe_str (pv 3)) pa_nil)) (pe_callC c__law_due (hr.mono (by decide)) rfl (pa_cons (pe_m1 PySem.F.slot_str_join PySem.F.type_str_join (mt_joinK K rfl) pe_str (pv 3)) pa_nil)) (nomark _)) (pss_one (ps_ret pe_bl)) pss_nil)
      (pss_cons (ps_for PassesOwn.never rfl (pi_range1 (by rfl) T.b_range (pa_cons (pe_op op_addU pe_int (pe_callC c__law_draw (hr.mono (by decide)) rfl (pa_cons (pv 1) (pa_cons pe_int pa_nil)))) pa_nil)) (pg_name (i := 4) sc_law.nd rfl (by first | exact Or.inl rfl | exact Or.inr rfl)) (pss_cons (ps_set (i := 5) sc_law.nd rfl (by first | exact Or.inl rfl | exact Or.inr rfl) (pe_callC c__law_draw (hr.mono (by decide)) rfl (pa_cons (pv 1) (pa_cons (pe_callB (call_lenK K rfl) (by rfl) T.b_len PySem.boot_len (pa_cons (pv 3) pa_nil)) pa_nil))))
      (pss_cons (ps_asg (pe_callC c__law_bent (hr.mono (by decide)) rfl (pa_cons (pv 1) (pa_cons (pe_ix (ix_seqK K rfl) (pv 3) (pv 5) (fun _ _ => rfl)) pa_nil))) (pg_sub (pv 3) (pv 5) set_list))
      (pss_one (ps_if (PW.pt (pw_or (pt_cmpR op_ltU (pe_callB (call_lenK K rfl) (by rfl) T.b_len PySem.boot_len (pa_cons (pe_m1 PySem.F.slot_str_split PySem.F.type_str_split mt_splitS (pe_ix (ix_seqK K rfl) (pv 3) (pv 5) (fun _ _ => rfl)) pe_str) pa_nil)) pe_int (nomark _)) (pw_or1 (pt_cmpR op_inStr pe_str (pe_ix (ix_seqK K rfl) (pv 3) (pv 5) (fun _ _ => rfl)) (by with_unfolding_all rfl))))) (pss_one ps_break) pss_nil)))))
      (pss_cons (ps_if (pt_cmpR (op_eqK K rfl hr.units) (pe_callC c__law_draw (hr.mono (by decide)) rfl (pa_cons (pv 1) (pa_cons pe_int pa_nil))) pe_int (nomark _)) (pss_one (ps_expr (pe_bm PySem.F.plainAttrs_list PySem.F.slot_list_insert PySem.F.type_list_insert mt_insertR (pv 3) (pa_cons (pe_callC c__law_draw (hr.mono (by decide)) rfl (pa_cons (pv 1) (pa_cons (pe_op op_addU (pe_callB (call_lenK K rfl) (by rfl) T.b_len PySem.boot_len (pa_cons (pv 3) pa_nil)) pe_int) pa_nil))) (pa_cons pe_str pa_nil))))) pss_nil)
      (pss_cons (ps_set (i := 6) sc_law.nd rfl (by first | exact Or.inl rfl | exact Or.inr rfl) (pe_m1 PySem.F.slot_str_join PySem.F.type_str_join (mt_joinK K rfl) pe_str (pv 3)))
      (pss_one (ps_if (pt_cmpR (op_neK K rfl hr.units) (pe_callC c__law_told (hr.mono (by decide)) rfl (pa_cons (pv 6) pa_nil)) (pe_callC c__law_due (hr.mono (by decide)) rfl (pa_cons (pv 6) pa_nil)) (nomark _)) (pss_one (ps_ret pe_bl)) pss_nil))))))))
      (pss_one (ps_ret (pe_and (pe_cmpR (op_eqK K rfl hr.units) (pe_callC c__law_told (hr.mono (by decide)) rfl (pa_cons pe_str pa_nil)) (pe_lst pa_nil) (nomark _)) (pe_and (pe_cmpR (op_eqK K rfl hr.units) (pe_callC c__law_told (hr.mono (by decide)) rfl (pa_cons pe_str pa_nil)) (pe_tup (pa_cons pe_str (pa_cons pe_int (pa_cons pe_bl pa_nil)))) (nomark _)) (pe_one (pe_cmpR (op_eqK K rfl hr.units) (pe_callC c__law_told (hr.mono (by decide)) rfl (pa_cons pe_str pa_nil)) (pe_tup (pa_cons pe_str (pa_cons pe_int (pa_cons pe_bl pa_nil)))) (nomark _))))))))), ?_⟩)

  refine law_body (by decide) h fun w ns hl => ?_
  show WpS K w (some 0) [.im (tLs K tI) ns, .pen, .no, .no, .no, .no, .no] _ _ _ _ _ _
  have dE : ∀ x, (((dT (K := K)).enc (toldF x)).canLay0 = true ∧ ((dT (K := K)).enc (toldF x)).canLay0 = true) := fun x => ⟨told_lay x, told_lay x⟩
  refine ws_seq <| ws_for (t := tI) (I := fun zs i n' Γ' => zs.length ≤ 14 ∧ n' = some (0 + 700 * i) ∧ Γ' = [.im (tLs K tI) ns, .pen, .no, .no, .no, .no, .no]) <| wi_range1 <| we_add <| we_int <| we_min <| we_int <| we_lenVLs rfl ?_
  generalize hj : (6 + if (ns.length : Int) < 8 then (ns.length : Int) else 8 : Int) = j
  have hj1 : 6 ≤ j ∧ j ≤ 14 := by split at hj <;> omega
  refine ⟨by omega, Up.of ⟨by simp; omega, rfl, rfl⟩, ?_, ?_⟩
  · rintro i z n' _ hz ⟨hzl, rfl, rfl⟩
    have hi := get_lt hz
    have hi14 : i < 14 := by omega
    refine wg_name <| setE_go (by dsimp only [List.set]) ?_
    refine ws_seq <| ws_setM <| wm_callN (S := S__law_rows K) (c := 600) rfl rfl <| wa_pen rfl <| wa_nil ⟨trivial, _, rfl, by omega, ?_⟩
    rintro rs ⟨⟨r1, r9⟩, rok⟩
    refine setE_go (by dsimp only [List.set]) ?_
    obtain ⟨j1, j2⟩ := join_ok (rs := rs) (by omega) fun x hx => (rok x hx).1.le (by omega)
    refine ws_seq <| ws_if <| wt_val <| we_neP dT dT ⟨Nat.le_of_ble_eq_true rfl, Nat.le_of_ble_eq_true rfl⟩ <| we_told <| we_borrow 3 flatX (xs := rs) rfl fun w' => setE_go (by dsimp only [List.set, hideE, Ent.hide, List.map]) <| we_joinS (b := [10]) rfl <| we_var rfl ⟨Nat.le_trans j1 (by decide), rfl, j2, we_due <| we_borrow 3 flatX (xs := rs) rfl fun w' => setE_go (by dsimp only [List.set, hideE, Ent.hide, List.map]) <| we_joinS (b := [10]) rfl <| we_var rfl ⟨Nat.le_trans j1 (by decide), rfl, j2, dE _, ?_⟩⟩
    rw [dT_refl]
    refine ⟨fun z => (by cases z), fun _ => ws_next ?_⟩
    refine ws_cutP' (fun n4 Γ' => ∃ ys e4 e5 c, (ys.length = rs.length ∧ ∀ x ∈ ys, Row 2300 x) ∧ c ≤ 700 * i + 650 ∧ n4 = some c ∧ Γ' = [.im (tLs K tI) ns, .pen, .im tI z, .ml tX ys, e4, e5, .no]) ?_ ?_
    · refine ws_for (t := tI) (I := fun zs p n' Γ' => zs.length ≤ 2 ∧ ∃ ys, n' = some (700 * i + 601 + 21 * p) ∧ (ys.length = rs.length ∧ ∀ x ∈ ys, Row (300 + 1000 * p) x ∧ Two x) ∧ Γ' = [.im (tLs K tI) ns, .pen, .im tI z, .ml tX ys, .no, .no, .no]) <| wi_range1 <| we_add <| we_int <| we_draw rfl <| we_int ⟨by omega, _, rfl, by omega, fun q q0 q1 => ⟨by omega, Up.of ⟨by simp; omega, rs, by congr 1; omega, ⟨rfl, fun x hx => ⟨(rok x hx).1.le (by omega), (rok x hx).2⟩⟩, rfl⟩, ?_, ?_⟩⟩
      · rintro p z2 n2 _ hz2 ⟨hzl2, ys, rfl, ⟨yl, yok⟩, rfl⟩
        have hp := get_lt hz2
        have hp2 : p < 2 := by omega
        refine wg_name <| setE_go (by dsimp only [List.set]) ?_
        refine ws_seq <| ws_set (t := tI) <| we_draw rfl <| we_lenVM (t := tX) (xs := ys) rfl ⟨⟨by omega, by omega⟩, _, rfl, by omega, fun at' a0 a1 => setE_go (by dsimp only [List.set]) ?_⟩
        have hat : at'.toNat < ys.length := by omega
        have hat1 : atI ys at' = some ys[at'.toNat] := atI_int a0 hat
        have xok := yok _ (List.getElem_mem hat)
        generalize ys[at'.toNat] = x at hat1 xok
        obtain ⟨⟨xa, xl⟩, x2⟩ := xok
        refine ws_seq <| ws_setIx (t := tX) (r0 := rL tX ys) (xs := ys) rfl <| we_callN (S := S__law_bent K) (c := 20) rfl rfl <| wa_pen rfl <| wa_cons <| we_ixVM (t := tX) (xs := ys) rfl <| we_var rfl ⟨rfl, x, hat1, wa_nil ⟨⟨⟨xa, by show x.length ≤ 2000; omega⟩, x2⟩, _, rfl, by omega, fun (r : Tx) hr => ?_⟩⟩
        have hr : Row (x.length + 1000) r := hr
        refine we_var rfl ⟨rfl, ⟨a0, by omega⟩, setE_go (by dsimp only [List.set]) ?_⟩
        have sl : (ys.set at'.toNat r).length = ys.length := List.length_set
        have sg : atI (ys.set at'.toNat r) at' = some r := by rw [atI_int a0 (by omega)]; simp
        have sok : ∀ y ∈ ys.set at'.toNat r, Row (300 + 1000 * (p + 1)) y := fun y hy => (List.mem_or_eq_of_mem_set hy).elim (fun h => (yok y h).1.le (by omega)) fun h => by rw [h]; exact hr.le (by omega)
        have s2 : Two r → ∀ y ∈ ys.set at'.toNat r, Two y := fun h y hy => (List.mem_or_eq_of_mem_set hy).elim (fun h => (yok y h).2) fun z => by rw [z]; exact h
        have hrl := hr.2
        generalize ys.set at'.toNat r = us at sl sg sok s2
        have brk : ∀ {n5 : Nat}, n5 ≤ 700 * i + 650 → ∃ ys e4 e5 c, (ys.length = rs.length ∧ ∀ x ∈ ys, Row 2300 x) ∧ c ≤ 700 * i + 650 ∧ (some n5 : Option Nat) = some c ∧ [Ent.im (tLs K tI) ns, .pen, .im tI z, .ml tX us, .im tI z2, .im tI at', .no] = [Ent.im (tLs K tI) ns, .pen, .im tI z, .ml tX ys, e4, e5, .no] := fun h5 => ⟨us, _, _, _, ⟨by omega, fun y hy => (sok y hy).le (by omega)⟩, h5, rfl, rfl⟩
        refine ws_if <| wt_or <| wt_val <| we_lt <| we_lenL <| we_ofM' <| wm_splitX (b := [32]) rfl (by simp) rfl <| we_ixVM (t := tX) (xs := us) rfl <| we_var rfl ⟨rfl, r, sg, by omega, _, rfl, we_int <| dec2 (fun _ => ws_brk (brk (by omega))) (fun h2 => ?_)⟩
        refine wt_val <| we_inX <| we_X <| we_ixVM (t := tX) (xs := us) rfl <| we_var rfl ⟨rfl, r, sg, 10, rfl, dec2 (fun _ => ws_brk (brk (by omega))) (fun _ => ws_next <| Up.le (b := 700 * i + 601 + 21 * (p + 1)) (by omega) <| Up.drops [4, 5] ⟨hzl2, us, rfl, ⟨by omega, fun y hy => ⟨sok y hy, s2 (two_lt h2) y hy⟩⟩, rfl⟩)⟩
      · rintro n2 _ ⟨hzl2, ys, rfl, ⟨yl, yok⟩, rfl⟩
        exact ⟨ys, _, _, _, ⟨yl, fun x hx => (yok x hx).1.le (by omega)⟩, by omega, rfl, rfl⟩
    rintro _ _ ⟨ys, e4, e5, c, ⟨yl, yok⟩, hc, rfl, rfl⟩
    refine ws_cutP' (fun n4 Γ' => ∃ us c, (us.length ≤ 10 ∧ ∀ x ∈ us, Row 2300 x) ∧ c ≤ 700 * i + 652 ∧ n4 = some c ∧ Γ' = [.im (tLs K tI) ns, .pen, .im tI z, .ml tX us, e4, e5, .no]) ?_ ?_
    · refine ws_if <| wt_val <| we_eqI <| we_draw rfl <| we_int ⟨by omega, _, rfl, by omega, fun q _ _ => we_int <| dec2 (fun _ => ?_) (fun _ => ws_next ⟨ys, _, ⟨by omega, yok⟩, by omega, rfl, rfl⟩)⟩
      refine ws_insert (t := tX) (xs := ys) rfl <| we_draw rfl <| we_add <| we_lenVM (t := tX) (xs := ys) rfl <| we_int ⟨⟨by omega, by omega⟩, _, rfl, by omega, fun j j0 j1 => we_X ⟨rfl, by omega, ⟨j0, by omega⟩, setE_go (by dsimp only [List.set]) ⟨_, _, ⟨?_, fun x hx => ?_⟩, by omega, rfl, rfl⟩⟩⟩
      · rw [List.length_append, List.length_append, List.length_take, List.length_drop]
        show _ + 1 + _ ≤ _
        omega
      · rcases List.mem_append.mp hx with h | h
        · rcases List.mem_append.mp h with h | h
          · exact yok x (List.mem_of_mem_take h)
          · rw [List.mem_singleton.mp h]
            exact ⟨(fun c hc => by cases hc), Nat.zero_le _⟩
        · exact yok x (List.mem_of_mem_drop h)
    rintro _ _ ⟨us, c2, ⟨ul, uok⟩, hc2, rfl, rfl⟩
    obtain ⟨k1, k2⟩ := join_ok ul uok
    refine ws_seq <| ws_set (t := tX) <| we_joinS (b := [10]) rfl <| we_varL rfl <| setE_go (by dsimp only [List.set]) ⟨Nat.le_trans k1 (by decide), setE_go (by dsimp only [List.set]) ?_⟩
    refine ws_if <| wt_val <| we_neP dT dT ⟨Nat.le_of_ble_eq_true rfl, Nat.le_of_ble_eq_true rfl⟩ <| we_told <| we_var rfl ⟨k2, we_due <| we_var rfl ⟨k2, dE _, ?_⟩⟩
    rw [dT_refl]
    exact ⟨fun z => (by cases z), fun _ => ws_next <| Up.le (b := 0 + 700 * (i + 1)) (by omega) <| Up.drops [2, 3, 4, 5, 6] ⟨hzl, rfl, rfl⟩⟩
  rintro n' _ ⟨_, rfl, rfl⟩
  have t0 : toldF [] = .inl [] := rfl
  have t1 : toldF [10] = .inr ("bad row", 1, true) := by decide +kernel
  have t2 : toldF [32] = .inr ("bad row", 1, true) := by decide +kernel
  have k0 : TxOk [] := by unfold TxOk Asc; decide +kernel
  have k1 : TxOk [10] := by unfold TxOk Asc; decide +kernel
  have k2 : TxOk [32] := by unfold TxOk Asc; decide +kernel
  have e0 : PyData.eqv ((dT (K := K)).enc (toldF (("" : Str).cps.toList))) ((iL (iP (K := K) iX (iU iI))).p.enc []) = true := ((iL (iP (K := K) iX (iU iI))).inj [] []).mpr rfl
  have d3 : ∀ x : Str × Int × Bool, PyData.eqv ((dT (K := K)).enc (.inr x)) ((iP3 (K := K) iS iI iB).enc x) = true := fun x => ((iP3 (K := K) iS iI iB).inj x x).mpr rfl
  refine ws_ret <| we_andV <| we_eqP dT (iL (iP iX (iU iI))).p ⟨Nat.le_of_ble_eq_true rfl, Nat.le_of_ble_eq_true rfl⟩ <| we_told <| we_X ⟨k0, we_ofM' <| wm_lst <| wal_nil ⟨by simp, [], rfl, ⟨told_lay _, layRows fun r hr => by cases hr⟩, ?_⟩⟩
  rw [e0]
  refine ⟨fun _ => we_andV <| we_eqP dT (iP3 iS iI iB).p ⟨Nat.le_of_ble_eq_true rfl, Nat.le_of_ble_eq_true rfl⟩ <| we_told <| we_X ⟨k1, we_tup3 <| we_str <| we_int <| we_bool ⟨⟨told_lay _, layBad⟩, ?_⟩⟩, fun h => by cases h⟩
  rw [show toldF (("\n" : Str).cps.toList) = _ from t1, show PyData.eqv ((dT (K := K)).enc (.inr ("bad row", 1, true))) ((iP3 (K := K) iS iI iB).p.enc ("bad row", 1, true)) = true from d3 _]
  refine ⟨fun _ => we_eqP dT (iP3 iS iI iB).p ⟨Nat.le_of_ble_eq_true rfl, Nat.le_of_ble_eq_true rfl⟩ <| we_told <| we_X ⟨k2, we_tup3 <| we_str <| we_int <| we_bool ⟨⟨told_lay _, layBad⟩, ?_⟩⟩, fun h => by cases h⟩
  rw [show toldF ((" " : Str).cps.toList) = _ from t2, show PyData.eqv ((dT (K := K)).enc (.inr ("bad row", 1, true))) ((iP3 (K := K) iS iI iB).p.enc ("bad row", 1, true)) = true from d3 _]

theorem all_mk {l : PySem.W.OpenLaw} {w : World} {K : Frag} {h : Heap} {mg : Str → Option Value} {fa f1 f2 f3 f4 f5 f6 f7 f8 f9 f10 f11 f12 f13 f14 f15 f16 f17 f18 f19 f20 f21 C_Shape C_Dot C_Line C_Box C_Ring C_Drawing C_BadRow C_TugError : Addr} (X : K.In h) (G : h.Ns mainGlobals mg) (hfa : mg "law" = some (.ref fa))
    {nm_BadRow q_BadRow qual_BadRow file_BadRow : Str} {N_BadRow fI_BadRow cc_BadRow cda_BadRow : Addr} {bs_BadRow bm_BadRow sub_BadRow : List Value} {sn_BadRow : List Str} {ab_BadRow : Bool} {col_BadRow : Option Bool} {dd_BadRow od_BadRow an_BadRow cdd_BadRow cld_BadRow : Option Addr} {k0_BadRow k1_BadRow k2_BadRow k3_BadRow k5_BadRow : Option Value} {oc_BadRow kV_BadRow doc_BadRow pm_BadRow ct_BadRow ccl_BadRow cl_BadRow : Value} {osl_BadRow ccs_BadRow csl_BadRow : Array (Option Value)} {vs_BadRow : Array Value} {tf_BadRow : Tok}
    {od1 an1 od2 an2 od3 an3 od4 an4 od5 an5 od6 an6 od7 an7 od8 an8 od9 an9 od10 an10 od11 an11 od12 an12 od13 an13 od14 an14 od15 an15 od16 an16 od17 an17 od18 an18 od19 an19 od20 an20 od21 an21 : Option Addr} {sl1 sl2 sl3 sl4 sl5 sl6 sl7 sl8 sl9 sl10 sl11 sl12 sl13 sl14 sl15 sl16 sl17 sl18 sl19 sl20 sl21 : Array (Option Value)} {oc1 kV1 dc1 pm1 cd1 ct1 oc2 kV2 dc2 pm2 ct2 oc3 kV3 dc3 pm3 ct3 oc4 kV4 dc4 pm4 ct4 oc5 kV5 dc5 pm5 ct5 oc6 kV6 dc6 pm6 cd6 ct6 oc7 kV7 dc7 pm7 cd7 ct7 oc8 kV8 dc8 pm8 cd8 ct8 oc9 kV9 dc9 pm9 cd9 ct9 oc10 kV10 dc10 pm10 cd10 ct10 oc11 kV11 dc11 pm11 cd11 ct11 oc12 kV12 dc12 pm12 cd12 ct12 oc13 kV13 dc13 pm13 cd13 ct13 oc14 kV14 dc14 pm14 cd14 ct14 oc15 kV15 dc15 pm15 cd15 ct15 oc16 kV16 dc16 pm16 cd16 ct16 oc17 kV17 dc17 pm17 cd17 ct17 oc18 kV18 dc18 pm18 cd18 ct18 oc19 kV19 dc19 pm19 cd19 ct19 oc20 kV20 dc20 pm20 cd20 ct20 oc21 kV21 dc21 pm21 cd21 ct21 : Value}
    {q7 : Addr} {re7 : List Value}
    {cda2 ccp2 cda3 ccp3 cda4 ccp4 cda5 ccp5 : Addr} {ccl2 clc2 ocK2 ccl3 clc3 ocK3 ccl4 clc4 ocK4 ccl5 clc5 ocK5 : Value} {cdd2 cldc2 odK2 cdd3 cldc3 odK3 cdd4 cldc4 odK4 cdd5 cldc5 odK5 : Option Addr} {ccs2 cslc2 slK2 ccs3 cslc3 slK3 ccs4 cslc4 slK4 ccs5 cslc5 slK5 : Array (Option Value)} {vsc2 vsc3 vsc4 vsc5 : Array Value} {file2 file3 file4 file5 : Str} {tf2 tf3 tf4 tf5 : Tok} {cdK2 cdK3 cdK4 cdK5 : ClassData}
    {tba_COUNTS : Addr} {tbe_COUNTS : Array DictEntry} {tbn_COUNTS : Nat}
    {tg_DIGITS : Tok}
    (hC_Shape : PySem.W.nsIn K mainGlobals "Shape" = some (some (.ref C_Shape)))
    (hpg_Shape : PySem.W.plainGet K C_Shape Str.empty = true) (hhd_Shape : PySem.W.hasDictIn K C_Shape = true) (hpo_Shape : PySem.W.plainOver K C_Shape = true)
    (hsa_Shape : PySem.W.findIn K (.ref C_Shape) "__setattr__" = some (some (.builtin "object.__setattr__"))) (hmk_Shape : PySem.W.makesIn K C_Shape = true) (hkc_Shape : PySem.W.keepIn K (.ref C_Shape) = true)
    (hn_Shape_kind : PySem.W.findIn K (.ref C_Shape) "kind" = some none)
    (hn_Shape_numbers : PySem.W.findIn K (.ref C_Shape) "numbers" = some none)
    (hn_Shape_handles : PySem.W.findIn K (.ref C_Shape) "handles" = some none)
    (hC_Dot : PySem.W.nsIn K mainGlobals "Dot" = some (some (.ref C_Dot)))
    (hpg_Dot : PySem.W.plainGet K C_Dot Str.empty = true) (hhd_Dot : PySem.W.hasDictIn K C_Dot = true) (hpo_Dot : PySem.W.plainOver K C_Dot = true)
    (hsa_Dot : PySem.W.findIn K (.ref C_Dot) "__setattr__" = some (some (.builtin "object.__setattr__"))) (hmk_Dot : PySem.W.makesIn K C_Dot = true) (hkc_Dot : PySem.W.keepIn K (.ref C_Dot) = true)
    (hn_Dot_kind : PySem.W.findIn K (.ref C_Dot) "kind" = some none)
    (hn_Dot_numbers : PySem.W.findIn K (.ref C_Dot) "numbers" = some none)
    (hn_Dot_handles : PySem.W.findIn K (.ref C_Dot) "handles" = some none)
    (hC_Line : PySem.W.nsIn K mainGlobals "Line" = some (some (.ref C_Line)))
    (hpg_Line : PySem.W.plainGet K C_Line Str.empty = true) (hhd_Line : PySem.W.hasDictIn K C_Line = true) (hpo_Line : PySem.W.plainOver K C_Line = true)
    (hsa_Line : PySem.W.findIn K (.ref C_Line) "__setattr__" = some (some (.builtin "object.__setattr__"))) (hmk_Line : PySem.W.makesIn K C_Line = true) (hkc_Line : PySem.W.keepIn K (.ref C_Line) = true)
    (hn_Line_kind : PySem.W.findIn K (.ref C_Line) "kind" = some none)
    (hn_Line_numbers : PySem.W.findIn K (.ref C_Line) "numbers" = some none)
    (hn_Line_handles : PySem.W.findIn K (.ref C_Line) "handles" = some none)
    (hC_Box : PySem.W.nsIn K mainGlobals "Box" = some (some (.ref C_Box)))
    (hpg_Box : PySem.W.plainGet K C_Box Str.empty = true) (hhd_Box : PySem.W.hasDictIn K C_Box = true) (hpo_Box : PySem.W.plainOver K C_Box = true)
    (hsa_Box : PySem.W.findIn K (.ref C_Box) "__setattr__" = some (some (.builtin "object.__setattr__"))) (hmk_Box : PySem.W.makesIn K C_Box = true) (hkc_Box : PySem.W.keepIn K (.ref C_Box) = true)
    (hn_Box_kind : PySem.W.findIn K (.ref C_Box) "kind" = some none)
    (hn_Box_numbers : PySem.W.findIn K (.ref C_Box) "numbers" = some none)
    (hn_Box_handles : PySem.W.findIn K (.ref C_Box) "handles" = some none)
    (hC_Ring : PySem.W.nsIn K mainGlobals "Ring" = some (some (.ref C_Ring)))
    (hpg_Ring : PySem.W.plainGet K C_Ring Str.empty = true) (hhd_Ring : PySem.W.hasDictIn K C_Ring = true) (hpo_Ring : PySem.W.plainOver K C_Ring = true)
    (hsa_Ring : PySem.W.findIn K (.ref C_Ring) "__setattr__" = some (some (.builtin "object.__setattr__"))) (hmk_Ring : PySem.W.makesIn K C_Ring = true) (hkc_Ring : PySem.W.keepIn K (.ref C_Ring) = true)
    (hn_Ring_kind : PySem.W.findIn K (.ref C_Ring) "kind" = some none)
    (hn_Ring_numbers : PySem.W.findIn K (.ref C_Ring) "numbers" = some none)
    (hn_Ring_handles : PySem.W.findIn K (.ref C_Ring) "handles" = some none)
    (hC_Drawing : PySem.W.nsIn K mainGlobals "Drawing" = some (some (.ref C_Drawing)))
    (hpg_Drawing : PySem.W.plainGet K C_Drawing Str.empty = true) (hhd_Drawing : PySem.W.hasDictIn K C_Drawing = true) (hpo_Drawing : PySem.W.plainOver K C_Drawing = true)
    (hsa_Drawing : PySem.W.findIn K (.ref C_Drawing) "__setattr__" = some (some (.builtin "object.__setattr__"))) (hmk_Drawing : PySem.W.makesIn K C_Drawing = true) (hkc_Drawing : PySem.W.keepIn K (.ref C_Drawing) = true)
    (hn_Drawing_shapes : PySem.W.findIn K (.ref C_Drawing) "shapes" = some none)
    (hn_Drawing_kinds : PySem.W.findIn K (.ref C_Drawing) "kinds" = some none)
    (hn_Drawing_row : PySem.W.findIn K (.ref C_Drawing) "row" = some none)
    (hx_n : PySem.W.specialIn K (.builtin "object.__class__") "__get__" = some (some (.builtin "getset_descriptor.__get__"))) (hx_k : PySem.W.takesIn K (.builtin "object.__class__") = some true) (hx_y : PySem.W.nsIn K cStatics "thirdparty.any" = some none) (hx_s : PySem.W.nsIn K mainGlobals "super" = some none) (hx_p : (l.prog.main.scope.names.lookup ("super" : Str)).isSome = false)
    (hxC_BadRow : PySem.W.nsIn K mainGlobals "BadRow" = some (some (.ref C_BadRow))) (hxg_BadRow : PySem.W.findIn K (.ref C_BadRow) "__getattribute__" = some (some (.builtin "BaseException.__getattribute__"))) (hxa_BadRow : PySem.W.findIn K (.ref C_BadRow) "__getattr__" = some none)
    (hxe_BadRow : PySem.W.subIn K (.ref C_BadRow) (.type "BaseException") = some true) (hxd_BadRow : PySem.W.hasDictIn K C_BadRow = true) (hxc_BadRow : PySem.W.findIn K (.ref C_BadRow) "__class__" = some (some (.builtin "object.__class__"))) (hxm_BadRow : PySem.W.mroIn K C_BadRow (.type "object") = some true) (hxt_BadRow : PySem.W.typeIn K (.ref C_BadRow) = some (.type "type"))
    (hxl_BadRow : K.lookup C_BadRow = some (excClassObj nm_BadRow q_BadRow C_BadRow N_BadRow bs_BadRow bm_BadRow true sn_BadRow sub_BadRow ab_BadRow col_BadRow dd_BadRow k0_BadRow k1_BadRow k2_BadRow k3_BadRow k5_BadRow "ValueError.__new__")) (hxb_BadRow : PySem.HandSPX.refsVE bm_BadRow = true) (hxw_BadRow : PySem.W.findIn K (.ref C_BadRow) "__setattr__" = some (some (.builtin "object.__setattr__")))
    (hxv_BadRow : PySem.W.subIn K (.ref C_BadRow) (.type "ValueError") = some true) (hxk_BadRow : PySem.W.keepIn K (.ref C_BadRow) = true) (hxi_BadRow : PySem.W.findIn K (.ref C_BadRow) "__init__" = some (some (.ref fI_BadRow))) (hxj_BadRow : PySem.W.typeIn K (.ref fI_BadRow) = some (.type "function"))
    (hxL_BadRow : K.lookup fI_BadRow = some ⟨oc_BadRow, od_BadRow, .func (PySem.W.ksFn "__init__" qual_BadRow (defArgs es_BadRow) (defBody es_BadRow) (defScope es_BadRow) .none kV_BadRow doc_BadRow pm_BadRow an_BadRow (.ref cda_BadRow) ct_BadRow cc_BadRow), osl_BadRow⟩) (hxo_BadRow : PySem.W.codeIn K (.ref cda_BadRow) qual_BadRow = true)
    (hxq_BadRow : K.lookup cda_BadRow = some ⟨ccl_BadRow, cdd_BadRow, .fields vs_BadRow, ccs_BadRow⟩) (hxr_BadRow : vs_BadRow[2]? = some (.str file_BadRow tf_BadRow)) (hxf_BadRow : (l.prog.main.file == file_BadRow) = true) (hxu_BadRow : K.lookup cc_BadRow = some ⟨cl_BadRow, cld_BadRow, .cell (some (.ref C_BadRow)), csl_BadRow⟩)
    (hxz_BadRow : PySem.W.ks_superIn K C_BadRow C_BadRow "__init__" = some (some (.builtin "ValueError.__init__"))) (hxx_BadRow : PySem.W.mroIn K C_BadRow (.ref C_BadRow) = some true)
    (hxn_BadRow_line : PySem.W.findIn K (.ref C_BadRow) "line" = some none)
    (hxC_TugError : PySem.W.nsIn K mainGlobals "TugError" = some (some (.ref C_TugError))) (hxg_TugError : PySem.W.findIn K (.ref C_TugError) "__getattribute__" = some (some (.builtin "BaseException.__getattribute__"))) (hxa_TugError : PySem.W.findIn K (.ref C_TugError) "__getattr__" = some none)
    (hxe_TugError : PySem.W.subIn K (.ref C_TugError) (.type "BaseException") = some true) (hxd_TugError : PySem.W.hasDictIn K C_TugError = true) (hxc_TugError : PySem.W.findIn K (.ref C_TugError) "__class__" = some (some (.builtin "object.__class__"))) (hxm_TugError : PySem.W.mroIn K C_TugError (.type "object") = some true) (hxt_TugError : PySem.W.typeIn K (.ref C_TugError) = some (.type "type"))
    (hxs_BadRow_BadRow : PySem.W.subIn K (.ref C_BadRow) (.ref C_BadRow) = some true)
    (hxs_BadRow_TugError : PySem.W.subIn K (.ref C_BadRow) (.ref C_TugError) = some true)
    (hxs_TugError_BadRow : PySem.W.subIn K (.ref C_TugError) (.ref C_BadRow) = some false)
    (hxs_TugError_TugError : PySem.W.subIn K (.ref C_TugError) (.ref C_TugError) = some true)
    (hfd_Dot_Line : C_Dot ≠ C_Line) (hfs_Dot_Line : PySem.W.subIn K (.ref C_Dot) (.ref C_Line) = some false)
    (hfd_Dot_Box : C_Dot ≠ C_Box) (hfs_Dot_Box : PySem.W.subIn K (.ref C_Dot) (.ref C_Box) = some false)
    (hfd_Dot_Ring : C_Dot ≠ C_Ring) (hfs_Dot_Ring : PySem.W.subIn K (.ref C_Dot) (.ref C_Ring) = some false)
    (hfu_Dot : C_Dot ≠ C_Shape) (hfv_Dot : PySem.W.subIn K (.ref C_Dot) (.ref C_Shape) = some true)
    (hfd_Line_Dot : C_Line ≠ C_Dot) (hfs_Line_Dot : PySem.W.subIn K (.ref C_Line) (.ref C_Dot) = some false)
    (hfd_Line_Box : C_Line ≠ C_Box) (hfs_Line_Box : PySem.W.subIn K (.ref C_Line) (.ref C_Box) = some false)
    (hfd_Line_Ring : C_Line ≠ C_Ring) (hfs_Line_Ring : PySem.W.subIn K (.ref C_Line) (.ref C_Ring) = some false)
    (hfu_Line : C_Line ≠ C_Shape) (hfv_Line : PySem.W.subIn K (.ref C_Line) (.ref C_Shape) = some true)
    (hfd_Box_Dot : C_Box ≠ C_Dot) (hfs_Box_Dot : PySem.W.subIn K (.ref C_Box) (.ref C_Dot) = some false)
    (hfd_Box_Line : C_Box ≠ C_Line) (hfs_Box_Line : PySem.W.subIn K (.ref C_Box) (.ref C_Line) = some false)
    (hfd_Box_Ring : C_Box ≠ C_Ring) (hfs_Box_Ring : PySem.W.subIn K (.ref C_Box) (.ref C_Ring) = some false)
    (hfu_Box : C_Box ≠ C_Shape) (hfv_Box : PySem.W.subIn K (.ref C_Box) (.ref C_Shape) = some true)
    (hfd_Ring_Dot : C_Ring ≠ C_Dot) (hfs_Ring_Dot : PySem.W.subIn K (.ref C_Ring) (.ref C_Dot) = some false)
    (hfd_Ring_Line : C_Ring ≠ C_Line) (hfs_Ring_Line : PySem.W.subIn K (.ref C_Ring) (.ref C_Line) = some false)
    (hfd_Ring_Box : C_Ring ≠ C_Box) (hfs_Ring_Box : PySem.W.subIn K (.ref C_Ring) (.ref C_Box) = some false)
    (hfu_Ring : C_Ring ≠ C_Shape) (hfv_Ring : PySem.W.subIn K (.ref C_Ring) (.ref C_Shape) = some true)
    (ha1 : PySem.W.findIn K (.ref C_Shape) "__init__" = some (some (.ref f1))) (hi1 : PySem.W.isFn K (.ref f1) = true)
    (hl1 : K.lookup f1 = some ⟨oc1, od1, .func (PySem.W.fnOf "__init__" "Shape.__init__" (defArgs s_Shape_init) (defBody s_Shape_init) (defScope s_Shape_init) .none kV1 dc1 pm1 an1 cd1 ct1), sl1⟩)
    (hc1 : PySem.W.codeIn K cd1 "Shape.__init__" = true) (hk1 : PySem.W.keepIn K (.ref f1) = true)
    (ha2 : PySem.W.findIn K (.ref C_Dot) "__init__" = some (some (.ref f2))) (hi2 : PySem.W.isFn K (.ref f2) = true)
    (hl2 : K.lookup f2 = some ⟨oc2, od2, .func (PySem.W.ksFn "__init__" "Dot.__init__" (defArgs s_Dot_init) (defBody s_Dot_init) (defScope s_Dot_init) .none kV2 dc2 pm2 an2 (.ref cda2) ct2 ccp2), sl2⟩)
    (hc2 : PySem.W.codeIn K (.ref cda2) "Dot.__init__" = true) (hk2 : PySem.W.keepIn K (.ref f2) = true)
    (hsq2 : K.lookup cda2 = some ⟨ccl2, cdd2, .fields vsc2, ccs2⟩) (hsr2 : vsc2[2]? = some (.str file2 tf2)) (hsf2 : (l.prog.main.file == file2) = true) (hsu2 : K.lookup ccp2 = some ⟨clc2, cldc2, .cell (some (.ref C_Dot)), cslc2⟩)
    (hsw2 : K.lookup C_Dot = some ⟨ocK2, odK2, .cls cdK2, slK2⟩) (hsv2 : PySem.W.ks_superIn K C_Dot C_Dot "__init__" = some (some (.ref f1))) (hsx2 : PySem.W.mroIn K C_Dot (.ref C_Dot) = some true) (hso2 : oc1 = .type "function")
    (ha3 : PySem.W.findIn K (.ref C_Line) "__init__" = some (some (.ref f3))) (hi3 : PySem.W.isFn K (.ref f3) = true)
    (hl3 : K.lookup f3 = some ⟨oc3, od3, .func (PySem.W.ksFn "__init__" "Line.__init__" (defArgs s_Line_init) (defBody s_Line_init) (defScope s_Line_init) .none kV3 dc3 pm3 an3 (.ref cda3) ct3 ccp3), sl3⟩)
    (hc3 : PySem.W.codeIn K (.ref cda3) "Line.__init__" = true) (hk3 : PySem.W.keepIn K (.ref f3) = true)
    (hsq3 : K.lookup cda3 = some ⟨ccl3, cdd3, .fields vsc3, ccs3⟩) (hsr3 : vsc3[2]? = some (.str file3 tf3)) (hsf3 : (l.prog.main.file == file3) = true) (hsu3 : K.lookup ccp3 = some ⟨clc3, cldc3, .cell (some (.ref C_Line)), cslc3⟩)
    (hsw3 : K.lookup C_Line = some ⟨ocK3, odK3, .cls cdK3, slK3⟩) (hsv3 : PySem.W.ks_superIn K C_Line C_Line "__init__" = some (some (.ref f1))) (hsx3 : PySem.W.mroIn K C_Line (.ref C_Line) = some true) (hso3 : oc1 = .type "function")
    (ha4 : PySem.W.findIn K (.ref C_Box) "__init__" = some (some (.ref f4))) (hi4 : PySem.W.isFn K (.ref f4) = true)
    (hl4 : K.lookup f4 = some ⟨oc4, od4, .func (PySem.W.ksFn "__init__" "Box.__init__" (defArgs s_Box_init) (defBody s_Box_init) (defScope s_Box_init) .none kV4 dc4 pm4 an4 (.ref cda4) ct4 ccp4), sl4⟩)
    (hc4 : PySem.W.codeIn K (.ref cda4) "Box.__init__" = true) (hk4 : PySem.W.keepIn K (.ref f4) = true)
    (hsq4 : K.lookup cda4 = some ⟨ccl4, cdd4, .fields vsc4, ccs4⟩) (hsr4 : vsc4[2]? = some (.str file4 tf4)) (hsf4 : (l.prog.main.file == file4) = true) (hsu4 : K.lookup ccp4 = some ⟨clc4, cldc4, .cell (some (.ref C_Box)), cslc4⟩)
    (hsw4 : K.lookup C_Box = some ⟨ocK4, odK4, .cls cdK4, slK4⟩) (hsv4 : PySem.W.ks_superIn K C_Box C_Box "__init__" = some (some (.ref f1))) (hsx4 : PySem.W.mroIn K C_Box (.ref C_Box) = some true) (hso4 : oc1 = .type "function")
    (ha5 : PySem.W.findIn K (.ref C_Ring) "__init__" = some (some (.ref f5))) (hi5 : PySem.W.isFn K (.ref f5) = true)
    (hl5 : K.lookup f5 = some ⟨oc5, od5, .func (PySem.W.ksFn "__init__" "Ring.__init__" (defArgs s_Ring_init) (defBody s_Ring_init) (defScope s_Ring_init) .none kV5 dc5 pm5 an5 (.ref cda5) ct5 ccp5), sl5⟩)
    (hc5 : PySem.W.codeIn K (.ref cda5) "Ring.__init__" = true) (hk5 : PySem.W.keepIn K (.ref f5) = true)
    (hsq5 : K.lookup cda5 = some ⟨ccl5, cdd5, .fields vsc5, ccs5⟩) (hsr5 : vsc5[2]? = some (.str file5 tf5)) (hsf5 : (l.prog.main.file == file5) = true) (hsu5 : K.lookup ccp5 = some ⟨clc5, cldc5, .cell (some (.ref C_Ring)), cslc5⟩)
    (hsw5 : K.lookup C_Ring = some ⟨ocK5, odK5, .cls cdK5, slK5⟩) (hsv5 : PySem.W.ks_superIn K C_Ring C_Ring "__init__" = some (some (.ref f1))) (hsx5 : PySem.W.mroIn K C_Ring (.ref C_Ring) = some true) (hso5 : oc1 = .type "function")
    (ha6 : PySem.W.findIn K (.ref C_Drawing) "__init__" = some (some (.ref f6))) (hi6 : PySem.W.isFn K (.ref f6) = true)
    (hl6 : K.lookup f6 = some ⟨oc6, od6, .func (PySem.W.fnOf "__init__" "Drawing.__init__" (defArgs s_Drawing_init) (defBody s_Drawing_init) (defScope s_Drawing_init) .none kV6 dc6 pm6 an6 cd6 ct6), sl6⟩)
    (hc6 : PySem.W.codeIn K cd6 "Drawing.__init__" = true) (hk6 : PySem.W.keepIn K (.ref f6) = true)
    (hga7 : PySem.W.specialIn K (.ref C_Drawing) "__getattribute__" = some (some (.builtin "type.__getattribute__"))) (hrd7 : PySem.W.readsIn K C_Drawing (.type "type") = true) (ha7 : PySem.W.findCls K (.ref C_Drawing) (.type "type") "read" = some (.get (.builtin "classmethod.__get__") (.ref q7) .none (.ref C_Drawing))) (hi7 : PySem.W.recIn K q7 "classmethod" = some (.ref f7 :: re7))
    (hl7 : K.lookup f7 = some ⟨oc7, od7, .func (PySem.W.fnOf "read" "Drawing.read" (defArgs s_Drawing_read) (defBody s_Drawing_read) (defScope s_Drawing_read) .none kV7 dc7 pm7 an7 cd7 ct7), sl7⟩)
    (hc7 : PySem.W.codeIn K cd7 "Drawing.read" = true) (hk7 : PySem.W.keepIn K (.ref f7) = true)
    (ha8 : PySem.W.nsIn K mainGlobals "shape_of" = some (some (.ref f8)))
    (hl8 : K.lookup f8 = some ⟨oc8, od8, .func (PySem.W.fnOf "shape_of" "shape_of" (defArgs s_shape_of) (defBody s_shape_of) (defScope s_shape_of) .none kV8 dc8 pm8 an8 cd8 ct8), sl8⟩)
    (hc8 : PySem.W.codeIn K cd8 "shape_of" = true) (hk8 : PySem.W.keepIn K (.ref f8) = true)
    (ha9 : PySem.W.nsIn K mainGlobals "read_row" = some (some (.ref f9)))
    (hl9 : K.lookup f9 = some ⟨oc9, od9, .func (PySem.W.fnOf "read_row" "read_row" (defArgs s_read_row) (defBody s_read_row) (defScope s_read_row) .none kV9 dc9 pm9 an9 cd9 ct9), sl9⟩)
    (hc9 : PySem.W.codeIn K cd9 "read_row" = true) (hk9 : PySem.W.keepIn K (.ref f9) = true)
    (ha10 : PySem.W.nsIn K mainGlobals "is_integer" = some (some (.ref f10)))
    (hl10 : K.lookup f10 = some ⟨oc10, od10, .func (PySem.W.fnOf "is_integer" "is_integer" (defArgs s_is_integer) (defBody s_is_integer) (defScope s_is_integer) .none kV10 dc10 pm10 an10 cd10 ct10), sl10⟩)
    (hc10 : PySem.W.codeIn K cd10 "is_integer" = true) (hk10 : PySem.W.keepIn K (.ref f10) = true)
    (ha11 : PySem.W.nsIn K mainGlobals "_law_pen" = some (some (.ref f11)))
    (hl11 : K.lookup f11 = some ⟨oc11, od11, .func (PySem.W.fnOf "_law_pen" "_law_pen" (defArgs s__law_pen) (defBody s__law_pen) (defScope s__law_pen) .none kV11 dc11 pm11 an11 cd11 ct11), sl11⟩)
    (hc11 : PySem.W.codeIn K cd11 "_law_pen" = true) (hk11 : PySem.W.keepIn K (.ref f11) = true)
    (ha12 : PySem.W.nsIn K mainGlobals "_law_draw" = some (some (.ref f12)))
    (hl12 : K.lookup f12 = some ⟨oc12, od12, .func (PySem.W.fnOf "_law_draw" "_law_draw" (defArgs s__law_draw) (defBody s__law_draw) (defScope s__law_draw) .none kV12 dc12 pm12 an12 cd12 ct12), sl12⟩)
    (hc12 : PySem.W.codeIn K cd12 "_law_draw" = true) (hk12 : PySem.W.keepIn K (.ref f12) = true)
    (ha13 : PySem.W.nsIn K mainGlobals "_law_pick" = some (some (.ref f13)))
    (hl13 : K.lookup f13 = some ⟨oc13, od13, .func (PySem.W.fnOf "_law_pick" "_law_pick" (defArgs s__law_pick) (defBody s__law_pick) (defScope s__law_pick) .none kV13 dc13 pm13 an13 cd13 ct13), sl13⟩)
    (hc13 : PySem.W.codeIn K cd13 "_law_pick" = true) (hk13 : PySem.W.keepIn K (.ref f13) = true)
    (ha14 : PySem.W.nsIn K mainGlobals "_law_far" = some (some (.ref f14)))
    (hl14 : K.lookup f14 = some ⟨oc14, od14, .func (PySem.W.fnOf "_law_far" "_law_far" (defArgs s__law_far) (defBody s__law_far) (defScope s__law_far) .none kV14 dc14 pm14 an14 cd14 ct14), sl14⟩)
    (hc14 : PySem.W.codeIn K cd14 "_law_far" = true) (hk14 : PySem.W.keepIn K (.ref f14) = true)
    (ha15 : PySem.W.nsIn K mainGlobals "_law_integer" = some (some (.ref f15)))
    (hl15 : K.lookup f15 = some ⟨oc15, od15, .func (PySem.W.fnOf "_law_integer" "_law_integer" (defArgs s__law_integer) (defBody s__law_integer) (defScope s__law_integer) .none kV15 dc15 pm15 an15 cd15 ct15), sl15⟩)
    (hc15 : PySem.W.codeIn K cd15 "_law_integer" = true) (hk15 : PySem.W.keepIn K (.ref f15) = true)
    (ha16 : PySem.W.nsIn K mainGlobals "_law_row" = some (some (.ref f16)))
    (hl16 : K.lookup f16 = some ⟨oc16, od16, .func (PySem.W.fnOf "_law_row" "_law_row" (defArgs s__law_row) (defBody s__law_row) (defScope s__law_row) .none kV16 dc16 pm16 an16 cd16 ct16), sl16⟩)
    (hc16 : PySem.W.codeIn K cd16 "_law_row" = true) (hk16 : PySem.W.keepIn K (.ref f16) = true)
    (ha17 : PySem.W.nsIn K mainGlobals "_law_due" = some (some (.ref f17)))
    (hl17 : K.lookup f17 = some ⟨oc17, od17, .func (PySem.W.fnOf "_law_due" "_law_due" (defArgs s__law_due) (defBody s__law_due) (defScope s__law_due) .none kV17 dc17 pm17 an17 cd17 ct17), sl17⟩)
    (hc17 : PySem.W.codeIn K cd17 "_law_due" = true) (hk17 : PySem.W.keepIn K (.ref f17) = true)
    (ha18 : PySem.W.nsIn K mainGlobals "_law_told" = some (some (.ref f18)))
    (hl18 : K.lookup f18 = some ⟨oc18, od18, .func (PySem.W.fnOf "_law_told" "_law_told" (defArgs s__law_told) (defBody s__law_told) (defScope s__law_told) .none kV18 dc18 pm18 an18 cd18 ct18), sl18⟩)
    (hc18 : PySem.W.codeIn K cd18 "_law_told" = true) (hk18 : PySem.W.keepIn K (.ref f18) = true)
    (ha19 : PySem.W.nsIn K mainGlobals "_law_rows" = some (some (.ref f19)))
    (hl19 : K.lookup f19 = some ⟨oc19, od19, .func (PySem.W.fnOf "_law_rows" "_law_rows" (defArgs s__law_rows) (defBody s__law_rows) (defScope s__law_rows) .none kV19 dc19 pm19 an19 cd19 ct19), sl19⟩)
    (hc19 : PySem.W.codeIn K cd19 "_law_rows" = true) (hk19 : PySem.W.keepIn K (.ref f19) = true)
    (ha20 : PySem.W.nsIn K mainGlobals "_law_bent" = some (some (.ref f20)))
    (hl20 : K.lookup f20 = some ⟨oc20, od20, .func (PySem.W.fnOf "_law_bent" "_law_bent" (defArgs s__law_bent) (defBody s__law_bent) (defScope s__law_bent) .none kV20 dc20 pm20 an20 cd20 ct20), sl20⟩)
    (hc20 : PySem.W.codeIn K cd20 "_law_bent" = true) (hk20 : PySem.W.keepIn K (.ref f20) = true)
    (ha21 : PySem.W.nsIn K mainGlobals "law" = some (some (.ref f21)))
    (hl21 : K.lookup f21 = some ⟨oc21, od21, .func (PySem.W.fnOf "law" "law" (defArgs s_law) (defBody s_law) (defScope s_law) .none kV21 dc21 pm21 an21 cd21 ct21), sl21⟩)
    (hc21 : PySem.W.codeIn K cd21 "law" = true) (hk21 : PySem.W.keepIn K (.ref f21) = true)
    (hz_enumerate : PySem.W.nsIn K mainGlobals "enumerate" = some none)
    (hz_int : PySem.W.nsIn K mainGlobals "int" = some none)
    (hz_isinstance : PySem.W.nsIn K mainGlobals "isinstance" = some none)
    (hz_len : PySem.W.nsIn K mainGlobals "len" = some none)
    (hz_list : PySem.W.nsIn K mainGlobals "list" = some none)
    (hz_min : PySem.W.nsIn K mainGlobals "min" = some none)
    (hz_range : PySem.W.nsIn K mainGlobals "range" = some none)
    (hz_str : PySem.W.nsIn K mainGlobals "str" = some none)
    (hz_tuple : PySem.W.nsIn K mainGlobals "tuple" = some none)
    (hg_DIGITS : PySem.W.nsIn K mainGlobals "DIGITS" = some (some (.int (700) tg_DIGITS)))
    (htb_COUNTS : PySem.W.nsIn K mainGlobals "COUNTS" = some (some (.ref tba_COUNTS))) (htl_COUNTS : K.lookup tba_COUNTS = some ⟨.type "dict", none, .dict tbe_COUNTS tbn_COUNTS, #[]⟩) (hts_COUNTS : (tba_COUNTS == sysModules) = false) (htr_COUNTS : PyProof.Rows.KTD.rowsLook PyProof.Rows.KTD.flatLooks tbe_COUNTS.toList (tabD [("dot", 2), ("line", 4), ("box", 4), ("ring", 3)]) = true)
    {dgo : Obj} {dge : Array DictEntry} {dgc : Nat} (hdg_n : PySem.W.nsIn K cStatics "sys.int_max_str_digits" = some none) (hdg_o : K.lookup cStatics = some dgo) (hdg_d : dgo.data = .dict dge dgc) (hdg_k : strKeys dge = true) :
    ∃ fd : FuncData, (∀ (s : Shared) (v : Value), BindsTo s fd ⟨[v], []⟩ [("_law_script", v)]) ∧ ∀ base : Heap, K.In base → base.Ns mainGlobals mg → FnOk l.prog w K mg base CX0 8 fa fd ["_law_script"] (spLaw K) := by
  have elaw := hfa.symm.trans (PySem.W.mg_of X G ha21)
  cases elaw
  have T : Bts K mg := ⟨PySem.W.mg_none_of X G hz_enumerate, PySem.W.mg_none_of X G hz_int, PySem.W.mg_none_of X G hz_isinstance, PySem.W.mg_none_of X G hz_len, PySem.W.mg_none_of X G hz_list, PySem.W.mg_none_of X G hz_min, PySem.W.mg_none_of X G hz_range, PySem.W.mg_none_of X G hz_str, PySem.W.mg_none_of X G hz_tuple, ⟨_, PySem.W.mg_of X G htb_COUNTS, Tab.of htl_COUNTS hts_COUNTS htr_COUNTS⟩, Dig.of hdg_n hdg_o hdg_d hdg_k, ⟨_, PySem.W.mg_of X G hg_DIGITS, ⟨_, rfl⟩⟩⟩
  have cl_Shape : Cl_Shape K C_Shape := ⟨⟨hpg_Shape, hhd_Shape, hpo_Shape, hsa_Shape⟩, hn_Shape_kind, hn_Shape_numbers, hn_Shape_handles⟩
  have cl_Dot : Cl_Dot K C_Dot := ⟨⟨hpg_Dot, hhd_Dot, hpo_Dot, hsa_Dot⟩, hn_Dot_kind, hn_Dot_numbers, hn_Dot_handles⟩
  have cl_Line : Cl_Line K C_Line := ⟨⟨hpg_Line, hhd_Line, hpo_Line, hsa_Line⟩, hn_Line_kind, hn_Line_numbers, hn_Line_handles⟩
  have cl_Box : Cl_Box K C_Box := ⟨⟨hpg_Box, hhd_Box, hpo_Box, hsa_Box⟩, hn_Box_kind, hn_Box_numbers, hn_Box_handles⟩
  have cl_Ring : Cl_Ring K C_Ring := ⟨⟨hpg_Ring, hhd_Ring, hpo_Ring, hsa_Ring⟩, hn_Ring_kind, hn_Ring_numbers, hn_Ring_handles⟩
  have cl_Drawing : Cl_Drawing K C_Drawing := ⟨⟨hpg_Drawing, hhd_Drawing, hpo_Drawing, hsa_Drawing⟩, hn_Drawing_shapes, hn_Drawing_kinds, hn_Drawing_row⟩
  have ex_BadRow : Er.ErrC l.prog K mg C_BadRow "BadRow" es_BadRow ["line"] := { gC := PySem.W.mg_of X G hxC_BadRow, cls := ⟨_, _, _, _, _, _, _, _, _, _, _, _, _, _, _, hxl_BadRow, hxb_BadRow⟩, sa := hxw_BadRow, no := fun f hf => by simp only [List.mem_cons, List.not_mem_nil, or_false] at hf; rcases hf with rfl <;> assumption, exC := hxe_BadRow, veC := hxv_BadRow, tyC := hxt_BadRow, kC := hxk_BadRow, ini := ⟨_, _, _, _, _, _, _, _, _, _, _, _, _, _, _, _, _, _, _, _, _, hxi_BadRow, hxj_BadRow, hxL_BadRow, hxo_BadRow, hxq_BadRow, hxr_BadRow, hxf_BadRow, hxu_BadRow, fun s us hl => match us, hl with | [_, _], _ => .of_eq rfl⟩, sup := hxz_BadRow, own := hxx_BadRow, any := hx_y, nsup := PySem.W.mg_none_of X G hx_s, top := hx_p, body := eb_BadRow, hd := ⟨_, by with_unfolding_all rfl, by with_unfolding_all rfl⟩, cell := by decide +kernel, loc := by decide +kernel, ks := by decide +kernel, kc := by decide +kernel, co := by with_unfolding_all rfl, gen := by with_unfolding_all rfl, kind := by with_unfolding_all rfl, nd := by decide +kernel, dbg := by decide +kernel }
  have XC : Xc l.prog K mg C_BadRow C_TugError := ⟨PySem.W.mg_of X G hxC_BadRow, ex_BadRow, ⟨hxg_BadRow, hxa_BadRow, hxe_BadRow, hxd_BadRow⟩, ⟨hxg_BadRow, hxa_BadRow, hxe_BadRow, hxd_BadRow, hxc_BadRow, hx_n, hx_k, hxm_BadRow⟩, hxt_BadRow, hxs_BadRow_BadRow, hxs_BadRow_TugError, PySem.W.mg_of X G hxC_TugError, ⟨hxg_TugError, hxa_TugError, hxe_TugError, hxd_TugError⟩, ⟨hxg_TugError, hxa_TugError, hxe_TugError, hxd_TugError, hxc_TugError, hx_n, hx_k, hxm_TugError⟩, hxt_TugError, hxs_TugError_BadRow, hxs_TugError_TugError⟩
  have F1 := fun_mk (st := s_Shape_init) hl1 hc1 hk1
  have b1 := F1.binds (ps := ["self", "kind", "numbers", "handles"]) fun _ _ _ _ _ _ us hl => match us, hl with | [_, _, _, _], _ => rfl
  have SC2 : Su.SuperC l.prog K mg C_Dot f2 f1 _ s_Dot_init ["self", "x", "y"] := { ini := ⟨_, _, _, _, _, _, _, _, _, _, _, _, _, _, _, _, _, _, _, _, rfl, hl2, hc2, hsq2, hsr2, hsf2, hsu2⟩, cls := ⟨_, _, _, _, hsw2⟩, sup := hsv2, fnS := ⟨_, _, _, _, hl1, hso2⟩, own := hsx2, any := hx_y, nsup := PySem.W.mg_none_of X G hx_s, top := hx_p, hd := ⟨_, by with_unfolding_all rfl, by with_unfolding_all rfl⟩, hps := ⟨_, rfl⟩, cell := by decide +kernel, free := by decide +kernel, loc := by decide +kernel, ks := by decide +kernel, kc := by decide +kernel, co := by with_unfolding_all rfl, gen := by with_unfolding_all rfl, kind := by with_unfolding_all rfl, nd := by decide +kernel }
  have bd2 : ∀ (s : Shared) (us : List Value), us.length = 3 → BindsTo s (PySem.W.ksFn "__init__" "Dot.__init__" (defArgs s_Dot_init) (defBody s_Dot_init) (defScope s_Dot_init) .none kV2 dc2 pm2 an2 (.ref cda2) ct2 ccp2) ⟨us, []⟩ ((["self", "x", "y"] : List Str).zip us) := fun s us hl => match us, hl with | [_, _, _], _ => .of_eq rfl
  have SC3 : Su.SuperC l.prog K mg C_Line f3 f1 _ s_Line_init ["self", "x", "y", "u", "v"] := { ini := ⟨_, _, _, _, _, _, _, _, _, _, _, _, _, _, _, _, _, _, _, _, rfl, hl3, hc3, hsq3, hsr3, hsf3, hsu3⟩, cls := ⟨_, _, _, _, hsw3⟩, sup := hsv3, fnS := ⟨_, _, _, _, hl1, hso3⟩, own := hsx3, any := hx_y, nsup := PySem.W.mg_none_of X G hx_s, top := hx_p, hd := ⟨_, by with_unfolding_all rfl, by with_unfolding_all rfl⟩, hps := ⟨_, rfl⟩, cell := by decide +kernel, free := by decide +kernel, loc := by decide +kernel, ks := by decide +kernel, kc := by decide +kernel, co := by with_unfolding_all rfl, gen := by with_unfolding_all rfl, kind := by with_unfolding_all rfl, nd := by decide +kernel }
  have bd3 : ∀ (s : Shared) (us : List Value), us.length = 5 → BindsTo s (PySem.W.ksFn "__init__" "Line.__init__" (defArgs s_Line_init) (defBody s_Line_init) (defScope s_Line_init) .none kV3 dc3 pm3 an3 (.ref cda3) ct3 ccp3) ⟨us, []⟩ ((["self", "x", "y", "u", "v"] : List Str).zip us) := fun s us hl => match us, hl with | [_, _, _, _, _], _ => .of_eq rfl
  have SC4 : Su.SuperC l.prog K mg C_Box f4 f1 _ s_Box_init ["self", "x", "y", "u", "v"] := { ini := ⟨_, _, _, _, _, _, _, _, _, _, _, _, _, _, _, _, _, _, _, _, rfl, hl4, hc4, hsq4, hsr4, hsf4, hsu4⟩, cls := ⟨_, _, _, _, hsw4⟩, sup := hsv4, fnS := ⟨_, _, _, _, hl1, hso4⟩, own := hsx4, any := hx_y, nsup := PySem.W.mg_none_of X G hx_s, top := hx_p, hd := ⟨_, by with_unfolding_all rfl, by with_unfolding_all rfl⟩, hps := ⟨_, rfl⟩, cell := by decide +kernel, free := by decide +kernel, loc := by decide +kernel, ks := by decide +kernel, kc := by decide +kernel, co := by with_unfolding_all rfl, gen := by with_unfolding_all rfl, kind := by with_unfolding_all rfl, nd := by decide +kernel }
  have bd4 : ∀ (s : Shared) (us : List Value), us.length = 5 → BindsTo s (PySem.W.ksFn "__init__" "Box.__init__" (defArgs s_Box_init) (defBody s_Box_init) (defScope s_Box_init) .none kV4 dc4 pm4 an4 (.ref cda4) ct4 ccp4) ⟨us, []⟩ ((["self", "x", "y", "u", "v"] : List Str).zip us) := fun s us hl => match us, hl with | [_, _, _, _, _], _ => .of_eq rfl
  have SC5 : Su.SuperC l.prog K mg C_Ring f5 f1 _ s_Ring_init ["self", "x", "y", "r"] := { ini := ⟨_, _, _, _, _, _, _, _, _, _, _, _, _, _, _, _, _, _, _, _, rfl, hl5, hc5, hsq5, hsr5, hsf5, hsu5⟩, cls := ⟨_, _, _, _, hsw5⟩, sup := hsv5, fnS := ⟨_, _, _, _, hl1, hso5⟩, own := hsx5, any := hx_y, nsup := PySem.W.mg_none_of X G hx_s, top := hx_p, hd := ⟨_, by with_unfolding_all rfl, by with_unfolding_all rfl⟩, hps := ⟨_, rfl⟩, cell := by decide +kernel, free := by decide +kernel, loc := by decide +kernel, ks := by decide +kernel, kc := by decide +kernel, co := by with_unfolding_all rfl, gen := by with_unfolding_all rfl, kind := by with_unfolding_all rfl, nd := by decide +kernel }
  have bd5 : ∀ (s : Shared) (us : List Value), us.length = 4 → BindsTo s (PySem.W.ksFn "__init__" "Ring.__init__" (defArgs s_Ring_init) (defBody s_Ring_init) (defScope s_Ring_init) .none kV5 dc5 pm5 an5 (.ref cda5) ct5 ccp5) ⟨us, []⟩ ((["self", "x", "y", "r"] : List Str).zip us) := fun s us hl => match us, hl with | [_, _, _, _], _ => .of_eq rfl
  have F6 := fun_mk (st := s_Drawing_init) hl6 hc6 hk6
  have b6 := F6.binds (ps := ["self", "shapes"]) fun _ _ _ _ _ _ us hl => match us, hl with | [_, _], _ => rfl
  have F7 := fun_mk (st := s_Drawing_read) hl7 hc7 hk7
  have b7 := F7.binds (ps := ["cls", "text"]) fun _ _ _ _ _ _ us hl => match us, hl with | [_, _], _ => rfl
  have F8 := fun_mk (st := s_shape_of) hl8 hc8 hk8
  have b8 := F8.binds (ps := ["kind", "numbers"]) fun _ _ _ _ _ _ us hl => match us, hl with | [_, _], _ => rfl
  have F9 := fun_mk (st := s_read_row) hl9 hc9 hk9
  have b9 := F9.binds (ps := ["row", "line"]) fun _ _ _ _ _ _ us hl => match us, hl with | [_, _], _ => rfl
  have F10 := fun_mk (st := s_is_integer) hl10 hc10 hk10
  have b10 := F10.binds (ps := ["word"]) fun _ _ _ _ _ _ us hl => match us, hl with | [_], _ => rfl
  have F11 := fun_mk (st := s__law_pen) hl11 hc11 hk11
  have b11 := F11.binds (ps := ["_law_script"]) fun _ _ _ _ _ _ us hl => match us, hl with | [_], _ => rfl
  have F12 := fun_mk (st := s__law_draw) hl12 hc12 hk12
  have b12 := F12.binds (ps := ["_law_pen_here", "_law_many"]) fun _ _ _ _ _ _ us hl => match us, hl with | [_, _], _ => rfl
  have F13 := fun_mk (st := s__law_pick) hl13 hc13 hk13
  have b13 := F13.binds (ps := ["_law_pen_here", "_law_items"]) fun _ _ _ _ _ _ us hl => match us, hl with | [_, _], _ => rfl
  have F14 := fun_mk (st := s__law_far) hl14 hc14 hk14
  have b14 := F14.binds (ps := ["_law_pen_here"]) fun _ _ _ _ _ _ us hl => match us, hl with | [_], _ => rfl
  have F15 := fun_mk (st := s__law_integer) hl15 hc15 hk15
  have b15 := F15.binds (ps := ["_law_word"]) fun _ _ _ _ _ _ us hl => match us, hl with | [_], _ => rfl
  have F16 := fun_mk (st := s__law_row) hl16 hc16 hk16
  have b16 := F16.binds (ps := ["_law_row_here"]) fun _ _ _ _ _ _ us hl => match us, hl with | [_], _ => rfl
  have F17 := fun_mk (st := s__law_due) hl17 hc17 hk17
  have b17 := F17.binds (ps := ["_law_text"]) fun _ _ _ _ _ _ us hl => match us, hl with | [_], _ => rfl
  have F18 := fun_mk (st := s__law_told) hl18 hc18 hk18
  have b18 := F18.binds (ps := ["_law_text"]) fun _ _ _ _ _ _ us hl => match us, hl with | [_], _ => rfl
  have F19 := fun_mk (st := s__law_rows) hl19 hc19 hk19
  have b19 := F19.binds (ps := ["_law_pen_here"]) fun _ _ _ _ _ _ us hl => match us, hl with | [_], _ => rfl
  have F20 := fun_mk (st := s__law_bent) hl20 hc20 hk20
  have b20 := F20.binds (ps := ["_law_pen_here", "_law_row_here"]) fun _ _ _ _ _ _ us hl => match us, hl with | [_, _], _ => rfl
  have F21 := fun_mk (st := s_law) hl21 hc21 hk21
  have b21 := F21.binds (ps := ["_law_script"]) fun _ _ _ _ _ _ us hl => match us, hl with | [_], _ => rfl
  have FM_Shp : FamF4 K C_Shape C_Dot C_Line C_Box C_Ring := ⟨fun i j h => match i, j, h with | .a, .a, h => absurd rfl h | .a, .b, _ => ⟨hfd_Dot_Line, hfs_Dot_Line⟩ | .a, .c, _ => ⟨hfd_Dot_Box, hfs_Dot_Box⟩ | .a, .d, _ => ⟨hfd_Dot_Ring, hfs_Dot_Ring⟩ | .b, .a, _ => ⟨hfd_Line_Dot, hfs_Line_Dot⟩ | .b, .b, h => absurd rfl h | .b, .c, _ => ⟨hfd_Line_Box, hfs_Line_Box⟩ | .b, .d, _ => ⟨hfd_Line_Ring, hfs_Line_Ring⟩ | .c, .a, _ => ⟨hfd_Box_Dot, hfs_Box_Dot⟩ | .c, .b, _ => ⟨hfd_Box_Line, hfs_Box_Line⟩ | .c, .c, h => absurd rfl h | .c, .d, _ => ⟨hfd_Box_Ring, hfs_Box_Ring⟩ | .d, .a, _ => ⟨hfd_Ring_Dot, hfs_Ring_Dot⟩ | .d, .b, _ => ⟨hfd_Ring_Line, hfs_Ring_Line⟩ | .d, .c, _ => ⟨hfd_Ring_Box, hfs_Ring_Box⟩ | .d, .d, h => absurd rfl h, fun i => match i with | .a => ⟨hfu_Dot, hfv_Dot⟩ | .b => ⟨hfu_Line, hfv_Line⟩ | .c => ⟨hfu_Box, hfv_Box⟩ | .d => ⟨hfu_Ring, hfv_Ring⟩⟩
  refine ⟨PySem.W.fnOf "law" "law" (defArgs s_law) (defBody s_law) (defScope s_law) .none kV21 dc21 pm21 an21 cd21 ct21, fun s v => .of_eq rfl, fun base _ _ => ?_⟩
  have C4 : MadeBy l.prog w K mg base CX0 2 C_Box "Box" ["self", "x", "y", "u", "v"] (sp_Box_init K C_Box) := ⟨_, _, ⟨hmk_Box, ha4, hi4, hkc_Box⟩, PySem.W.mg_of X G hC_Box, ok_Box_init (P := l.prog) (w := w) (base := base) SC4 (ok_Shape_init_Box (P := l.prog) (w := w) (base := base) F1 T cl_Shape cl_Dot cl_Line cl_Box cl_Ring cl_Drawing XC FM_Shp) b1 bd4 T cl_Shape cl_Dot cl_Line cl_Box cl_Ring cl_Drawing XC FM_Shp, fun s us _ hl => by rw [List.append_nil] at hl ⊢; exact bd4 s us hl⟩
  have C3 : MadeBy l.prog w K mg base CX0 2 C_Line "Line" ["self", "x", "y", "u", "v"] (sp_Line_init K C_Line) := ⟨_, _, ⟨hmk_Line, ha3, hi3, hkc_Line⟩, PySem.W.mg_of X G hC_Line, ok_Line_init (P := l.prog) (w := w) (base := base) SC3 (ok_Shape_init_Line (P := l.prog) (w := w) (base := base) F1 T cl_Shape cl_Dot cl_Line cl_Box cl_Ring cl_Drawing XC FM_Shp) b1 bd3 T cl_Shape cl_Dot cl_Line cl_Box cl_Ring cl_Drawing XC FM_Shp, fun s us _ hl => by rw [List.append_nil] at hl ⊢; exact bd3 s us hl⟩
  have C5 : MadeBy l.prog w K mg base CX0 2 C_Ring "Ring" ["self", "x", "y", "r"] (sp_Ring_init K C_Ring) := ⟨_, _, ⟨hmk_Ring, ha5, hi5, hkc_Ring⟩, PySem.W.mg_of X G hC_Ring, ok_Ring_init (P := l.prog) (w := w) (base := base) SC5 (ok_Shape_init_Ring (P := l.prog) (w := w) (base := base) F1 T cl_Shape cl_Dot cl_Line cl_Box cl_Ring cl_Drawing XC FM_Shp) b1 bd5 T cl_Shape cl_Dot cl_Line cl_Box cl_Ring cl_Drawing XC FM_Shp, fun s us _ hl => by rw [List.append_nil] at hl ⊢; exact bd5 s us hl⟩
  have C2 : MadeBy l.prog w K mg base CX0 2 C_Dot "Dot" ["self", "x", "y"] (sp_Dot_init K C_Dot) := ⟨_, _, ⟨hmk_Dot, ha2, hi2, hkc_Dot⟩, PySem.W.mg_of X G hC_Dot, ok_Dot_init (P := l.prog) (w := w) (base := base) SC2 (ok_Shape_init_Dot (P := l.prog) (w := w) (base := base) F1 T cl_Shape cl_Dot cl_Line cl_Box cl_Ring cl_Drawing XC FM_Shp) b1 bd2 T cl_Shape cl_Dot cl_Line cl_Box cl_Ring cl_Drawing XC FM_Shp, fun s us _ hl => by rw [List.append_nil] at hl ⊢; exact bd2 s us hl⟩
  have C8 : Callee l.prog w K mg base CX0 4 "shape_of" ["kind", "numbers"] (sp_shape_of K C_Dot C_Line C_Box C_Ring) := Callee.mk' (PySem.W.mg_of X G ha8) hk8 (ok_shape_of (P := l.prog) (w := w) (base := base) F8 T cl_Shape cl_Dot cl_Line cl_Box cl_Ring cl_Drawing XC FM_Shp C4 C3 C5 C2) b8
  have C10 : Callee l.prog w K mg base CX0 1 "is_integer" ["word"] (sp_is_integer K) := Callee.mk' (PySem.W.mg_of X G ha10) hk10 (ok_is_integer (P := l.prog) (w := w) (base := base) F10 T cl_Shape cl_Dot cl_Line cl_Box cl_Ring cl_Drawing XC FM_Shp) b10
  have C9 : Callee l.prog w K mg base (L2.CX l.prog w) 5 "read_row" ["row", "line"] (sp_read_row K C_Dot C_Line C_Box C_Ring C_BadRow) := Callee.mk' (PySem.W.mg_of X G ha9) hk9 (ok_read_row (P := l.prog) (w := w) (base := base) F9 T cl_Shape cl_Dot cl_Line cl_Box cl_Ring cl_Drawing XC FM_Shp C8 C10) b9
  have C6 : MadeBy l.prog w K mg base CX0 1 C_Drawing "Drawing" ["self", "shapes"] (sp_Drawing_init K C_Drawing C_Dot C_Line C_Box C_Ring) := ⟨_, _, ⟨hmk_Drawing, ha6, hi6, hkc_Drawing⟩, PySem.W.mg_of X G hC_Drawing, fn_ex fun q => ok_Drawing_init (P := l.prog) (w := w) (base := base) (q := q) F6 T cl_Shape cl_Dot cl_Line cl_Box cl_Ring cl_Drawing XC FM_Shp, b6⟩
  have C7 : CMethBy l.prog w K mg base (L2.CX l.prog w) 6 C_Drawing "Drawing" "read" ["cls", "text"] (sp_Drawing_read K C_Drawing C_Dot C_Line C_Box C_Ring C_BadRow) := ⟨q7, f7, .type "type", _, PySem.W.mg_of X G hC_Drawing, ⟨hrd7, hga7⟩, ⟨ha7, ⟨_, hi7⟩, by unfold PySem.W.fnIn; rw [hl7]⟩, ok_Drawing_read (P := l.prog) (w := w) (base := base) F7 T cl_Shape cl_Dot cl_Line cl_Box cl_Ring cl_Drawing XC FM_Shp C6 C9, b7⟩
  have C18 : Callee l.prog w K mg base CX0 7 "_law_told" ["_law_text"] (sp__law_told K C_Drawing C_Dot C_Line C_Box C_Ring C_BadRow) := Callee.mk' (PySem.W.mg_of X G ha18) hk18 (ok__law_told (P := l.prog) (w := w) (base := base) F18 T cl_Shape cl_Dot cl_Line cl_Box cl_Ring cl_Drawing XC FM_Shp C7) b18
  have C15 : Callee l.prog w K mg base CX0 1 "_law_integer" ["_law_word"] (sp__law_integer K) := Callee.mk' (PySem.W.mg_of X G ha15) hk15 (ok__law_integer (P := l.prog) (w := w) (base := base) F15 T cl_Shape cl_Dot cl_Line cl_Box cl_Ring cl_Drawing XC FM_Shp) b15
  have C16 : Callee l.prog w K mg base CX0 2 "_law_row" ["_law_row_here"] (sp__law_row K) := Callee.mk' (PySem.W.mg_of X G ha16) hk16 (ok__law_row (P := l.prog) (w := w) (base := base) F16 T cl_Shape cl_Dot cl_Line cl_Box cl_Ring cl_Drawing XC FM_Shp C15) b16
  have C17 : Callee l.prog w K mg base CX0 3 "_law_due" ["_law_text"] (sp__law_due K) := Callee.mk' (PySem.W.mg_of X G ha17) hk17 (ok__law_due (P := l.prog) (w := w) (base := base) F17 T cl_Shape cl_Dot cl_Line cl_Box cl_Ring cl_Drawing XC FM_Shp C16) b17
  have C12 : Callee l.prog w K mg base CX0 1 "_law_draw" ["_law_pen_here", "_law_many"] (sp__law_draw K) := Callee.mk' (PySem.W.mg_of X G ha12) hk12 (ok__law_draw (P := l.prog) (w := w) (base := base) F12 T cl_Shape cl_Dot cl_Line cl_Box cl_Ring cl_Drawing XC FM_Shp) b12
  have C13 : Callee l.prog w K mg base CX0 2 "_law_pick" ["_law_pen_here", "_law_items"] (sp__law_pick K) := Callee.mk' (PySem.W.mg_of X G ha13) hk13 (ok__law_pick (P := l.prog) (w := w) (base := base) F13 T cl_Shape cl_Dot cl_Line cl_Box cl_Ring cl_Drawing XC FM_Shp C12) b13
  have C14 : Callee l.prog w K mg base CX0 2 "_law_far" ["_law_pen_here"] (sp__law_far K) := Callee.mk' (PySem.W.mg_of X G ha14) hk14 (ok__law_far (P := l.prog) (w := w) (base := base) F14 T cl_Shape cl_Dot cl_Line cl_Box cl_Ring cl_Drawing XC FM_Shp C12) b14
  have C20 : Callee l.prog w K mg base CX0 3 "_law_bent" ["_law_pen_here", "_law_row_here"] (sp__law_bent K) := Callee.mk' (PySem.W.mg_of X G ha20) hk20 (ok__law_bent (P := l.prog) (w := w) (base := base) F20 T cl_Shape cl_Dot cl_Line cl_Box cl_Ring cl_Drawing XC FM_Shp C13 C14 C12) b20
  have C19 : Callee l.prog w K mg base CX0 3 "_law_rows" ["_law_pen_here"] (sp__law_rows K) := Callee.mk' (PySem.W.mg_of X G ha19) hk19 (ok__law_rows (P := l.prog) (w := w) (base := base) F19 T cl_Shape cl_Dot cl_Line cl_Box cl_Ring cl_Drawing XC FM_Shp C12 C14 C13) b19
  have C11 : Callee l.prog w K mg base CX0 1 "_law_pen" ["_law_script"] (sp__law_pen K) := Callee.mk' (PySem.W.mg_of X G ha11) hk11 (ok__law_pen (P := l.prog) (w := w) (base := base) F11 T cl_Shape cl_Dot cl_Line cl_Box cl_Ring cl_Drawing XC FM_Shp) b11
  exact ok_law (w := w) (base := base) F21 T cl_Shape cl_Dot cl_Line cl_Box cl_Ring cl_Drawing XC FM_Shp C18 C17 C12 C20 C19 C11
theorem walkL {l : PySem.W.OpenLaw} {q : Program} {loose : List Str} {XP : (Str → Option Value) → Heap → Prop} {YP : World → Heap → Prop} {d : DefRec} {K : Params → Frag} (hn : l.most = some 63) (hdf : d.params.defaults = [])
    (hY : ∀ (w : World) (h : Heap), YP w h → (K w.params).In h) (Fa : ∀ (w : World) (mg : Str → Option Value) (fa : Addr) (h : Heap), (K w.params).In h → h.Ns mainGlobals mg → mg d.name = some (.ref fa) →
      ∃ fd : FuncData, (∀ (s : Shared) (u : Value), BindsTo s fd ⟨[u], []⟩ [("_law_script", u)]) ∧ ∀ base : Heap, (K w.params).In base → base.Ns mainGlobals mg → FnOk l.prog w (K w.params) mg base CX0 8 fa fd ["_law_script"] (spLaw (K w.params))) :
    PySem.W.WalkO q loose XP YP l.row.toRowW d [] (fun f vs => PySem.call f vs) := L2.walk_of (n := 63) (k := 8) (x := "_law_script") (CX := fun _ => CX0) (sp := fun w => spLaw (K w.params)) hn (by decide) hdf ⟨rfl, by decide, by decide⟩ hY Fa (fun _ _ a ns hl _ hS => ⟨a, ns, rfl, hS, hl, fun _ => rfl⟩) fun _ _ _ _ _ z => z
end Lw
open PySem PySem.W PyProof.Rows in
set_option maxRecDepth 100000 in
set_option maxHeartbeats 0 in
theorem PySem.Challenge.cw_tugtext_k09_wrong_rows_anywhere_holds : PySem.Challenge.rw_tugtext_k09_wrong_rows_anywhere.Holds := by
  w_on; o_law; k_head; (case hw => w_witness2); k_fill
  refine Lw.walkL (l := PySem.Challenge.rw_tugtext_k09_wrong_rows_anywhere) rfl rfl (fun w h Y => PySem.W.kIn_of Y) ?F
  case F =>
    intro w mg fa h KX G hmg
    refine' Lw.all_mk KX G hmg ?hC_Shape ?hpg_Shape ?hhd_Shape ?hpo_Shape ?hsa_Shape ?hmk_Shape ?hkc_Shape ?hn_Shape_kind ?hn_Shape_numbers ?hn_Shape_handles ?hC_Dot ?hpg_Dot ?hhd_Dot ?hpo_Dot ?hsa_Dot ?hmk_Dot ?hkc_Dot ?hn_Dot_kind ?hn_Dot_numbers ?hn_Dot_handles ?hC_Line ?hpg_Line ?hhd_Line ?hpo_Line ?hsa_Line ?hmk_Line ?hkc_Line ?hn_Line_kind ?hn_Line_numbers ?hn_Line_handles ?hC_Box ?hpg_Box ?hhd_Box ?hpo_Box ?hsa_Box ?hmk_Box ?hkc_Box ?hn_Box_kind ?hn_Box_numbers ?hn_Box_handles ?hC_Ring ?hpg_Ring ?hhd_Ring ?hpo_Ring ?hsa_Ring ?hmk_Ring ?hkc_Ring ?hn_Ring_kind ?hn_Ring_numbers ?hn_Ring_handles ?hC_Drawing ?hpg_Drawing ?hhd_Drawing ?hpo_Drawing ?hsa_Drawing ?hmk_Drawing ?hkc_Drawing ?hn_Drawing_shapes ?hn_Drawing_kinds ?hn_Drawing_row ?hx_n ?hx_k ?hx_y ?hx_s ?hx_p ?hxC_BadRow ?hxg_BadRow ?hxa_BadRow ?hxe_BadRow ?hxd_BadRow ?hxc_BadRow ?hxm_BadRow ?hxt_BadRow ?hxl_BadRow ?hxb_BadRow ?hxw_BadRow ?hxv_BadRow ?hxk_BadRow ?hxi_BadRow ?hxj_BadRow ?hxL_BadRow ?hxo_BadRow ?hxq_BadRow ?hxr_BadRow ?hxf_BadRow ?hxu_BadRow ?hxz_BadRow ?hxx_BadRow ?hxn_BadRow_line ?hxC_TugError ?hxg_TugError ?hxa_TugError ?hxe_TugError ?hxd_TugError ?hxc_TugError ?hxm_TugError ?hxt_TugError ?hxs_BadRow_BadRow ?hxs_BadRow_TugError ?hxs_TugError_BadRow ?hxs_TugError_TugError ?hfd_Dot_Line ?hfs_Dot_Line ?hfd_Dot_Box ?hfs_Dot_Box ?hfd_Dot_Ring ?hfs_Dot_Ring ?hfu_Dot ?hfv_Dot ?hfd_Line_Dot ?hfs_Line_Dot ?hfd_Line_Box ?hfs_Line_Box ?hfd_Line_Ring ?hfs_Line_Ring ?hfu_Line ?hfv_Line ?hfd_Box_Dot ?hfs_Box_Dot ?hfd_Box_Line ?hfs_Box_Line ?hfd_Box_Ring ?hfs_Box_Ring ?hfu_Box ?hfv_Box ?hfd_Ring_Dot ?hfs_Ring_Dot ?hfd_Ring_Line ?hfs_Ring_Line ?hfd_Ring_Box ?hfs_Ring_Box ?hfu_Ring ?hfv_Ring ?ha1 ?hi1 ?hl1 ?hc1 ?hk1 ?ha2 ?hi2 ?hl2 ?hc2 ?hk2 ?hsq2 ?hsr2 ?hsf2 ?hsu2 ?hsw2 ?hsv2 ?hsx2 ?hso2 ?ha3 ?hi3 ?hl3 ?hc3 ?hk3 ?hsq3 ?hsr3 ?hsf3 ?hsu3 ?hsw3 ?hsv3 ?hsx3 ?hso3 ?ha4 ?hi4 ?hl4 ?hc4 ?hk4 ?hsq4 ?hsr4 ?hsf4 ?hsu4 ?hsw4 ?hsv4 ?hsx4 ?hso4 ?ha5 ?hi5 ?hl5 ?hc5 ?hk5 ?hsq5 ?hsr5 ?hsf5 ?hsu5 ?hsw5 ?hsv5 ?hsx5 ?hso5 ?ha6 ?hi6 ?hl6 ?hc6 ?hk6 ?hga7 ?hrd7 ?ha7 ?hi7 ?hl7 ?hc7 ?hk7 ?ha8 ?hl8 ?hc8 ?hk8 ?ha9 ?hl9 ?hc9 ?hk9 ?ha10 ?hl10 ?hc10 ?hk10 ?ha11 ?hl11 ?hc11 ?hk11 ?ha12 ?hl12 ?hc12 ?hk12 ?ha13 ?hl13 ?hc13 ?hk13 ?ha14 ?hl14 ?hc14 ?hk14 ?ha15 ?hl15 ?hc15 ?hk15 ?ha16 ?hl16 ?hc16 ?hk16 ?ha17 ?hl17 ?hc17 ?hk17 ?ha18 ?hl18 ?hc18 ?hk18 ?ha19 ?hl19 ?hc19 ?hk19 ?ha20 ?hl20 ?hc20 ?hk20 ?ha21 ?hl21 ?hc21 ?hk21 ?hz_enumerate ?hz_int ?hz_isinstance ?hz_len ?hz_list ?hz_min ?hz_range ?hz_str ?hz_tuple ?hg_DIGITS ?htb_COUNTS ?htl_COUNTS ?hts_COUNTS ?htr_COUNTS ?hdg_n ?hdg_o ?hdg_d ?hdg_k
    (case hC_Shape => k_is)
    (case hpg_Shape => k_is)
    (case hhd_Shape => k_is)
    (case hpo_Shape => k_is)
    (case hsa_Shape => k_is)
    (case hmk_Shape => k_is)
    (case hkc_Shape => k_is)
    (case hn_Shape_kind => k_is)
    (case hn_Shape_numbers => k_is)
    (case hn_Shape_handles => k_is)
    (case hC_Dot => k_is)
    (case hpg_Dot => k_is)
    (case hhd_Dot => k_is)
    (case hpo_Dot => k_is)
    (case hsa_Dot => k_is)
    (case hmk_Dot => k_is)
    (case hkc_Dot => k_is)
    (case hn_Dot_kind => k_is)
    (case hn_Dot_numbers => k_is)
    (case hn_Dot_handles => k_is)
    (case hC_Line => k_is)
    (case hpg_Line => k_is)
    (case hhd_Line => k_is)
    (case hpo_Line => k_is)
    (case hsa_Line => k_is)
    (case hmk_Line => k_is)
    (case hkc_Line => k_is)
    (case hn_Line_kind => k_is)
    (case hn_Line_numbers => k_is)
    (case hn_Line_handles => k_is)
    (case hC_Box => k_is)
    (case hpg_Box => k_is)
    (case hhd_Box => k_is)
    (case hpo_Box => k_is)
    (case hsa_Box => k_is)
    (case hmk_Box => k_is)
    (case hkc_Box => k_is)
    (case hn_Box_kind => k_is)
    (case hn_Box_numbers => k_is)
    (case hn_Box_handles => k_is)
    (case hC_Ring => k_is)
    (case hpg_Ring => k_is)
    (case hhd_Ring => k_is)
    (case hpo_Ring => k_is)
    (case hsa_Ring => k_is)
    (case hmk_Ring => k_is)
    (case hkc_Ring => k_is)
    (case hn_Ring_kind => k_is)
    (case hn_Ring_numbers => k_is)
    (case hn_Ring_handles => k_is)
    (case hC_Drawing => k_is)
    (case hpg_Drawing => k_is)
    (case hhd_Drawing => k_is)
    (case hpo_Drawing => k_is)
    (case hsa_Drawing => k_is)
    (case hmk_Drawing => k_is)
    (case hkc_Drawing => k_is)
    (case hn_Drawing_shapes => k_is)
    (case hn_Drawing_kinds => k_is)
    (case hn_Drawing_row => k_is)
    (case hx_n => k_is)
    (case hx_k => k_is)
    (case hx_y => k_is)
    (case hx_s => k_is)
    (case hx_p => first | rfl | decide +kernel)
    (case hxC_BadRow => k_is)
    (case hxg_BadRow => k_is)
    (case hxa_BadRow => k_is)
    (case hxe_BadRow => k_is)
    (case hxd_BadRow => k_is)
    (case hxc_BadRow => k_is)
    (case hxm_BadRow => k_is)
    (case hxt_BadRow => k_is)
    (case hxl_BadRow => k_is)
    (case hxb_BadRow => first | rfl | decide +kernel)
    (case hxw_BadRow => k_is)
    (case hxv_BadRow => k_is)
    (case hxk_BadRow => k_is)
    (case hxi_BadRow => k_is)
    (case hxj_BadRow => k_is)
    (case hxL_BadRow => k_is)
    (case hxo_BadRow => k_is)
    (case hxq_BadRow => k_is)
    (case hxr_BadRow => rfl)
    (case hxf_BadRow => first | rfl | decide +kernel)
    (case hxu_BadRow => k_is)
    (case hxz_BadRow => ks_is)
    (case hxx_BadRow => k_is)
    (case hxn_BadRow_line => k_is)
    (case hxC_TugError => k_is)
    (case hxg_TugError => k_is)
    (case hxa_TugError => k_is)
    (case hxe_TugError => k_is)
    (case hxd_TugError => k_is)
    (case hxc_TugError => k_is)
    (case hxm_TugError => k_is)
    (case hxt_TugError => k_is)
    (case hxs_BadRow_BadRow => k_is)
    (case hxs_BadRow_TugError => k_is)
    (case hxs_TugError_BadRow => k_is)
    (case hxs_TugError_TugError => k_is)
    (case hfd_Dot_Line => decide)
    (case hfs_Dot_Line => k_is)
    (case hfd_Dot_Box => decide)
    (case hfs_Dot_Box => k_is)
    (case hfd_Dot_Ring => decide)
    (case hfs_Dot_Ring => k_is)
    (case hfu_Dot => decide)
    (case hfv_Dot => k_is)
    (case hfd_Line_Dot => decide)
    (case hfs_Line_Dot => k_is)
    (case hfd_Line_Box => decide)
    (case hfs_Line_Box => k_is)
    (case hfd_Line_Ring => decide)
    (case hfs_Line_Ring => k_is)
    (case hfu_Line => decide)
    (case hfv_Line => k_is)
    (case hfd_Box_Dot => decide)
    (case hfs_Box_Dot => k_is)
    (case hfd_Box_Line => decide)
    (case hfs_Box_Line => k_is)
    (case hfd_Box_Ring => decide)
    (case hfs_Box_Ring => k_is)
    (case hfu_Box => decide)
    (case hfv_Box => k_is)
    (case hfd_Ring_Dot => decide)
    (case hfs_Ring_Dot => k_is)
    (case hfd_Ring_Line => decide)
    (case hfs_Ring_Line => k_is)
    (case hfd_Ring_Box => decide)
    (case hfs_Ring_Box => k_is)
    (case hfu_Ring => decide)
    (case hfv_Ring => k_is)
    (case ha1 => k_is)
    (case hi1 => k_is)
    (case hl1 => k_is)
    (case hc1 => k_is)
    (case hk1 => k_is)
    (case ha2 => k_is)
    (case hi2 => k_is)
    (case hl2 => k_is)
    (case hc2 => k_is)
    (case hk2 => k_is)
    (case hsq2 => k_is)
    (case hsr2 => rfl)
    (case hsf2 => first | rfl | decide +kernel)
    (case hsu2 => k_is)
    (case hsw2 => k_is)
    (case hsv2 => ks_is)
    (case hsx2 => k_is)
    (case hso2 => rfl)
    (case ha3 => k_is)
    (case hi3 => k_is)
    (case hl3 => k_is)
    (case hc3 => k_is)
    (case hk3 => k_is)
    (case hsq3 => k_is)
    (case hsr3 => rfl)
    (case hsf3 => first | rfl | decide +kernel)
    (case hsu3 => k_is)
    (case hsw3 => k_is)
    (case hsv3 => ks_is)
    (case hsx3 => k_is)
    (case hso3 => rfl)
    (case ha4 => k_is)
    (case hi4 => k_is)
    (case hl4 => k_is)
    (case hc4 => k_is)
    (case hk4 => k_is)
    (case hsq4 => k_is)
    (case hsr4 => rfl)
    (case hsf4 => first | rfl | decide +kernel)
    (case hsu4 => k_is)
    (case hsw4 => k_is)
    (case hsv4 => ks_is)
    (case hsx4 => k_is)
    (case hso4 => rfl)
    (case ha5 => k_is)
    (case hi5 => k_is)
    (case hl5 => k_is)
    (case hc5 => k_is)
    (case hk5 => k_is)
    (case hsq5 => k_is)
    (case hsr5 => rfl)
    (case hsf5 => first | rfl | decide +kernel)
    (case hsu5 => k_is)
    (case hsw5 => k_is)
    (case hsv5 => ks_is)
    (case hsx5 => k_is)
    (case hso5 => rfl)
    (case ha6 => k_is)
    (case hi6 => k_is)
    (case hl6 => k_is)
    (case hc6 => k_is)
    (case hk6 => k_is)
    (case hga7 => k_is)
    (case hrd7 => k_is)
    (case ha7 => k_is)
    (case hi7 => k_is)
    (case hl7 => k_is)
    (case hc7 => k_is)
    (case hk7 => k_is)
    (case ha8 => k_is)
    (case hl8 => k_is)
    (case hc8 => k_is)
    (case hk8 => k_is)
    (case ha9 => k_is)
    (case hl9 => k_is)
    (case hc9 => k_is)
    (case hk9 => k_is)
    (case ha10 => k_is)
    (case hl10 => k_is)
    (case hc10 => k_is)
    (case hk10 => k_is)
    (case ha11 => k_is)
    (case hl11 => k_is)
    (case hc11 => k_is)
    (case hk11 => k_is)
    (case ha12 => k_is)
    (case hl12 => k_is)
    (case hc12 => k_is)
    (case hk12 => k_is)
    (case ha13 => k_is)
    (case hl13 => k_is)
    (case hc13 => k_is)
    (case hk13 => k_is)
    (case ha14 => k_is)
    (case hl14 => k_is)
    (case hc14 => k_is)
    (case hk14 => k_is)
    (case ha15 => k_is)
    (case hl15 => k_is)
    (case hc15 => k_is)
    (case hk15 => k_is)
    (case ha16 => k_is)
    (case hl16 => k_is)
    (case hc16 => k_is)
    (case hk16 => k_is)
    (case ha17 => k_is)
    (case hl17 => k_is)
    (case hc17 => k_is)
    (case hk17 => k_is)
    (case ha18 => k_is)
    (case hl18 => k_is)
    (case hc18 => k_is)
    (case hk18 => k_is)
    (case ha19 => k_is)
    (case hl19 => k_is)
    (case hc19 => k_is)
    (case hk19 => k_is)
    (case ha20 => k_is)
    (case hl20 => k_is)
    (case hc20 => k_is)
    (case hk20 => k_is)
    (case ha21 => k_is)
    (case hl21 => k_is)
    (case hc21 => k_is)
    (case hk21 => k_is)
    (case hz_enumerate => k_is)
    (case hz_int => k_is)
    (case hz_isinstance => k_is)
    (case hz_len => k_is)
    (case hz_list => k_is)
    (case hz_min => k_is)
    (case hz_range => k_is)
    (case hz_str => k_is)
    (case hz_tuple => k_is)
    (case hg_DIGITS => k_is)
    (case htb_COUNTS => k_is)
    (case htl_COUNTS => k_is)
    (case hts_COUNTS => first | rfl | decide +kernel)
    (case htr_COUNTS => first | rfl | decide +kernel)
    (case hdg_n => k_is)
    (case hdg_o => k_is)
    (case hdg_d => rfl)
    (case hdg_k => first | rfl | decide +kernel)

