import PyProof.Rows.All
import Wide.All
import OpenK.AllK
import Wide.FinOn
import KE.KSortTup
import Lean
import PySem.Challenge.RW_np0076_01
set_option Elab.async false
set_option linter.all false
set_option maxRecDepth 100000
set_option tactic.hygienic false

/-! A small language of our own and its weakest preconditions (no model in sight). -/
namespace Mine
open PySem

/-! taking apart, one motive for all (fam) -/
theorem e7_9 {α1 α2 α3 α4 α5 α6 α7 : Type} {A1 A2 A3 A4 A5 A6 A7 A8 A9 : α1 → α2 → α3 → α4 → α5 → α6 → α7 → Prop} {P : Prop} (h : ∃ x1 x2 x3 x4 x5 x6 x7, A1 x1 x2 x3 x4 x5 x6 x7 ∧ A2 x1 x2 x3 x4 x5 x6 x7 ∧ A3 x1 x2 x3 x4 x5 x6 x7 ∧ A4 x1 x2 x3 x4 x5 x6 x7 ∧ A5 x1 x2 x3 x4 x5 x6 x7 ∧ A6 x1 x2 x3 x4 x5 x6 x7 ∧ A7 x1 x2 x3 x4 x5 x6 x7 ∧ A8 x1 x2 x3 x4 x5 x6 x7 ∧ A9 x1 x2 x3 x4 x5 x6 x7) (k : ∀ x1 x2 x3 x4 x5 x6 x7, A1 x1 x2 x3 x4 x5 x6 x7 → A2 x1 x2 x3 x4 x5 x6 x7 → A3 x1 x2 x3 x4 x5 x6 x7 → A4 x1 x2 x3 x4 x5 x6 x7 → A5 x1 x2 x3 x4 x5 x6 x7 → A6 x1 x2 x3 x4 x5 x6 x7 → A7 x1 x2 x3 x4 x5 x6 x7 → A8 x1 x2 x3 x4 x5 x6 x7 → A9 x1 x2 x3 x4 x5 x6 x7 → P) : P := h.elim fun x1 h => h.elim fun x2 h => h.elim fun x3 h => h.elim fun x4 h => h.elim fun x5 h => h.elim fun x6 h => h.elim fun x7 h => k x1 x2 x3 x4 x5 x6 x7 h.1 h.2.1 h.2.2.1 h.2.2.2.1 h.2.2.2.2.1 h.2.2.2.2.2.1 h.2.2.2.2.2.2.1 h.2.2.2.2.2.2.2.1 h.2.2.2.2.2.2.2.2
theorem e8_9 {α1 α2 α3 α4 α5 α6 α7 α8 : Type} {A1 A2 A3 A4 A5 A6 A7 A8 A9 : α1 → α2 → α3 → α4 → α5 → α6 → α7 → α8 → Prop} {P : Prop} (h : ∃ x1 x2 x3 x4 x5 x6 x7 x8, A1 x1 x2 x3 x4 x5 x6 x7 x8 ∧ A2 x1 x2 x3 x4 x5 x6 x7 x8 ∧ A3 x1 x2 x3 x4 x5 x6 x7 x8 ∧ A4 x1 x2 x3 x4 x5 x6 x7 x8 ∧ A5 x1 x2 x3 x4 x5 x6 x7 x8 ∧ A6 x1 x2 x3 x4 x5 x6 x7 x8 ∧ A7 x1 x2 x3 x4 x5 x6 x7 x8 ∧ A8 x1 x2 x3 x4 x5 x6 x7 x8 ∧ A9 x1 x2 x3 x4 x5 x6 x7 x8) (k : ∀ x1 x2 x3 x4 x5 x6 x7 x8, A1 x1 x2 x3 x4 x5 x6 x7 x8 → A2 x1 x2 x3 x4 x5 x6 x7 x8 → A3 x1 x2 x3 x4 x5 x6 x7 x8 → A4 x1 x2 x3 x4 x5 x6 x7 x8 → A5 x1 x2 x3 x4 x5 x6 x7 x8 → A6 x1 x2 x3 x4 x5 x6 x7 x8 → A7 x1 x2 x3 x4 x5 x6 x7 x8 → A8 x1 x2 x3 x4 x5 x6 x7 x8 → A9 x1 x2 x3 x4 x5 x6 x7 x8 → P) : P := h.elim fun x1 h => h.elim fun x2 h => h.elim fun x3 h => h.elim fun x4 h => h.elim fun x5 h => h.elim fun x6 h => h.elim fun x7 h => h.elim fun x8 h => k x1 x2 x3 x4 x5 x6 x7 x8 h.1 h.2.1 h.2.2.1 h.2.2.2.1 h.2.2.2.2.1 h.2.2.2.2.2.1 h.2.2.2.2.2.2.1 h.2.2.2.2.2.2.2.1 h.2.2.2.2.2.2.2.2
theorem e6_8 {α1 α2 α3 α4 α5 α6 : Type} {A1 A2 A3 A4 A5 A6 A7 A8 : α1 → α2 → α3 → α4 → α5 → α6 → Prop} {P : Prop} (h : ∃ x1 x2 x3 x4 x5 x6, A1 x1 x2 x3 x4 x5 x6 ∧ A2 x1 x2 x3 x4 x5 x6 ∧ A3 x1 x2 x3 x4 x5 x6 ∧ A4 x1 x2 x3 x4 x5 x6 ∧ A5 x1 x2 x3 x4 x5 x6 ∧ A6 x1 x2 x3 x4 x5 x6 ∧ A7 x1 x2 x3 x4 x5 x6 ∧ A8 x1 x2 x3 x4 x5 x6) (k : ∀ x1 x2 x3 x4 x5 x6, A1 x1 x2 x3 x4 x5 x6 → A2 x1 x2 x3 x4 x5 x6 → A3 x1 x2 x3 x4 x5 x6 → A4 x1 x2 x3 x4 x5 x6 → A5 x1 x2 x3 x4 x5 x6 → A6 x1 x2 x3 x4 x5 x6 → A7 x1 x2 x3 x4 x5 x6 → A8 x1 x2 x3 x4 x5 x6 → P) : P := h.elim fun x1 h => h.elim fun x2 h => h.elim fun x3 h => h.elim fun x4 h => h.elim fun x5 h => h.elim fun x6 h => k x1 x2 x3 x4 x5 x6 h.1 h.2.1 h.2.2.1 h.2.2.2.1 h.2.2.2.2.1 h.2.2.2.2.2.1 h.2.2.2.2.2.2.1 h.2.2.2.2.2.2.2
theorem e0_3 {A1 A2 A3 : Prop} {P : Prop} (h : A1 ∧ A2 ∧ A3) (k : A1 → A2 → A3 → P) : P := k h.1 h.2.1 h.2.2
theorem e0_4 {A1 A2 A3 A4 : Prop} {P : Prop} (h : A1 ∧ A2 ∧ A3 ∧ A4) (k : A1 → A2 → A3 → A4 → P) : P := k h.1 h.2.1 h.2.2.1 h.2.2.2
theorem e0_5 {A1 A2 A3 A4 A5 : Prop} {P : Prop} (h : A1 ∧ A2 ∧ A3 ∧ A4 ∧ A5) (k : A1 → A2 → A3 → A4 → A5 → P) : P := k h.1 h.2.1 h.2.2.1 h.2.2.2.1 h.2.2.2.2
theorem e0_6 {A1 A2 A3 A4 A5 A6 : Prop} {P : Prop} (h : A1 ∧ A2 ∧ A3 ∧ A4 ∧ A5 ∧ A6) (k : A1 → A2 → A3 → A4 → A5 → A6 → P) : P := k h.1 h.2.1 h.2.2.1 h.2.2.2.1 h.2.2.2.2.1 h.2.2.2.2.2
theorem e1_2 {α1 : Type} {A1 A2 : α1 → Prop} {P : Prop} (h : ∃ x1, A1 x1 ∧ A2 x1) (k : ∀ x1, A1 x1 → A2 x1 → P) : P := h.elim fun x1 h => k x1 h.1 h.2
theorem e1_3 {α1 : Type} {A1 A2 A3 : α1 → Prop} {P : Prop} (h : ∃ x1, A1 x1 ∧ A2 x1 ∧ A3 x1) (k : ∀ x1, A1 x1 → A2 x1 → A3 x1 → P) : P := h.elim fun x1 h => k x1 h.1 h.2.1 h.2.2
theorem e1_4 {α1 : Type} {A1 A2 A3 A4 : α1 → Prop} {P : Prop} (h : ∃ x1, A1 x1 ∧ A2 x1 ∧ A3 x1 ∧ A4 x1) (k : ∀ x1, A1 x1 → A2 x1 → A3 x1 → A4 x1 → P) : P := h.elim fun x1 h => k x1 h.1 h.2.1 h.2.2.1 h.2.2.2
theorem e2_1 {α1 α2 : Type} {A1 : α1 → α2 → Prop} {P : Prop} (h : ∃ x1 x2, A1 x1 x2) (k : ∀ x1 x2, A1 x1 x2 → P) : P := h.elim fun x1 h => h.elim fun x2 h => k x1 x2 h
theorem e2_2 {α1 α2 : Type} {A1 A2 : α1 → α2 → Prop} {P : Prop} (h : ∃ x1 x2, A1 x1 x2 ∧ A2 x1 x2) (k : ∀ x1 x2, A1 x1 x2 → A2 x1 x2 → P) : P := h.elim fun x1 h => h.elim fun x2 h => k x1 x2 h.1 h.2
theorem e2_3 {α1 α2 : Type} {A1 A2 A3 : α1 → α2 → Prop} {P : Prop} (h : ∃ x1 x2, A1 x1 x2 ∧ A2 x1 x2 ∧ A3 x1 x2) (k : ∀ x1 x2, A1 x1 x2 → A2 x1 x2 → A3 x1 x2 → P) : P := h.elim fun x1 h => h.elim fun x2 h => k x1 x2 h.1 h.2.1 h.2.2
theorem e2_4 {α1 α2 : Type} {A1 A2 A3 A4 : α1 → α2 → Prop} {P : Prop} (h : ∃ x1 x2, A1 x1 x2 ∧ A2 x1 x2 ∧ A3 x1 x2 ∧ A4 x1 x2) (k : ∀ x1 x2, A1 x1 x2 → A2 x1 x2 → A3 x1 x2 → A4 x1 x2 → P) : P := h.elim fun x1 h => h.elim fun x2 h => k x1 x2 h.1 h.2.1 h.2.2.1 h.2.2.2
theorem e2_5 {α1 α2 : Type} {A1 A2 A3 A4 A5 : α1 → α2 → Prop} {P : Prop} (h : ∃ x1 x2, A1 x1 x2 ∧ A2 x1 x2 ∧ A3 x1 x2 ∧ A4 x1 x2 ∧ A5 x1 x2) (k : ∀ x1 x2, A1 x1 x2 → A2 x1 x2 → A3 x1 x2 → A4 x1 x2 → A5 x1 x2 → P) : P := h.elim fun x1 h => h.elim fun x2 h => k x1 x2 h.1 h.2.1 h.2.2.1 h.2.2.2.1 h.2.2.2.2
theorem e2_7 {α1 α2 : Type} {A1 A2 A3 A4 A5 A6 A7 : α1 → α2 → Prop} {P : Prop} (h : ∃ x1 x2, A1 x1 x2 ∧ A2 x1 x2 ∧ A3 x1 x2 ∧ A4 x1 x2 ∧ A5 x1 x2 ∧ A6 x1 x2 ∧ A7 x1 x2) (k : ∀ x1 x2, A1 x1 x2 → A2 x1 x2 → A3 x1 x2 → A4 x1 x2 → A5 x1 x2 → A6 x1 x2 → A7 x1 x2 → P) : P := h.elim fun x1 h => h.elim fun x2 h => k x1 x2 h.1 h.2.1 h.2.2.1 h.2.2.2.1 h.2.2.2.2.1 h.2.2.2.2.2.1 h.2.2.2.2.2.2
theorem e2_8 {α1 α2 : Type} {A1 A2 A3 A4 A5 A6 A7 A8 : α1 → α2 → Prop} {P : Prop} (h : ∃ x1 x2, A1 x1 x2 ∧ A2 x1 x2 ∧ A3 x1 x2 ∧ A4 x1 x2 ∧ A5 x1 x2 ∧ A6 x1 x2 ∧ A7 x1 x2 ∧ A8 x1 x2) (k : ∀ x1 x2, A1 x1 x2 → A2 x1 x2 → A3 x1 x2 → A4 x1 x2 → A5 x1 x2 → A6 x1 x2 → A7 x1 x2 → A8 x1 x2 → P) : P := h.elim fun x1 h => h.elim fun x2 h => k x1 x2 h.1 h.2.1 h.2.2.1 h.2.2.2.1 h.2.2.2.2.1 h.2.2.2.2.2.1 h.2.2.2.2.2.2.1 h.2.2.2.2.2.2.2
theorem e3_3 {α1 α2 α3 : Type} {A1 A2 A3 : α1 → α2 → α3 → Prop} {P : Prop} (h : ∃ x1 x2 x3, A1 x1 x2 x3 ∧ A2 x1 x2 x3 ∧ A3 x1 x2 x3) (k : ∀ x1 x2 x3, A1 x1 x2 x3 → A2 x1 x2 x3 → A3 x1 x2 x3 → P) : P := h.elim fun x1 h => h.elim fun x2 h => h.elim fun x3 h => k x1 x2 x3 h.1 h.2.1 h.2.2
theorem e3_4 {α1 α2 α3 : Type} {A1 A2 A3 A4 : α1 → α2 → α3 → Prop} {P : Prop} (h : ∃ x1 x2 x3, A1 x1 x2 x3 ∧ A2 x1 x2 x3 ∧ A3 x1 x2 x3 ∧ A4 x1 x2 x3) (k : ∀ x1 x2 x3, A1 x1 x2 x3 → A2 x1 x2 x3 → A3 x1 x2 x3 → A4 x1 x2 x3 → P) : P := h.elim fun x1 h => h.elim fun x2 h => h.elim fun x3 h => k x1 x2 x3 h.1 h.2.1 h.2.2.1 h.2.2.2
theorem e4_1 {α1 α2 α3 α4 : Type} {A1 : α1 → α2 → α3 → α4 → Prop} {P : Prop} (h : ∃ x1 x2 x3 x4, A1 x1 x2 x3 x4) (k : ∀ x1 x2 x3 x4, A1 x1 x2 x3 x4 → P) : P := h.elim fun x1 h => h.elim fun x2 h => h.elim fun x3 h => h.elim fun x4 h => k x1 x2 x3 x4 h
theorem e4_2 {α1 α2 α3 α4 : Type} {A1 A2 : α1 → α2 → α3 → α4 → Prop} {P : Prop} (h : ∃ x1 x2 x3 x4, A1 x1 x2 x3 x4 ∧ A2 x1 x2 x3 x4) (k : ∀ x1 x2 x3 x4, A1 x1 x2 x3 x4 → A2 x1 x2 x3 x4 → P) : P := h.elim fun x1 h => h.elim fun x2 h => h.elim fun x3 h => h.elim fun x4 h => k x1 x2 x3 x4 h.1 h.2
theorem e4_5 {α1 α2 α3 α4 : Type} {A1 A2 A3 A4 A5 : α1 → α2 → α3 → α4 → Prop} {P : Prop} (h : ∃ x1 x2 x3 x4, A1 x1 x2 x3 x4 ∧ A2 x1 x2 x3 x4 ∧ A3 x1 x2 x3 x4 ∧ A4 x1 x2 x3 x4 ∧ A5 x1 x2 x3 x4) (k : ∀ x1 x2 x3 x4, A1 x1 x2 x3 x4 → A2 x1 x2 x3 x4 → A3 x1 x2 x3 x4 → A4 x1 x2 x3 x4 → A5 x1 x2 x3 x4 → P) : P := h.elim fun x1 h => h.elim fun x2 h => h.elim fun x3 h => h.elim fun x4 h => k x1 x2 x3 x4 h.1 h.2.1 h.2.2.1 h.2.2.2.1 h.2.2.2.2
theorem e4_6 {α1 α2 α3 α4 : Type} {A1 A2 A3 A4 A5 A6 : α1 → α2 → α3 → α4 → Prop} {P : Prop} (h : ∃ x1 x2 x3 x4, A1 x1 x2 x3 x4 ∧ A2 x1 x2 x3 x4 ∧ A3 x1 x2 x3 x4 ∧ A4 x1 x2 x3 x4 ∧ A5 x1 x2 x3 x4 ∧ A6 x1 x2 x3 x4) (k : ∀ x1 x2 x3 x4, A1 x1 x2 x3 x4 → A2 x1 x2 x3 x4 → A3 x1 x2 x3 x4 → A4 x1 x2 x3 x4 → A5 x1 x2 x3 x4 → A6 x1 x2 x3 x4 → P) : P := h.elim fun x1 h => h.elim fun x2 h => h.elim fun x3 h => h.elim fun x4 h => k x1 x2 x3 x4 h.1 h.2.1 h.2.2.1 h.2.2.2.1 h.2.2.2.2.1 h.2.2.2.2.2
theorem e5_1 {α1 α2 α3 α4 α5 : Type} {A1 : α1 → α2 → α3 → α4 → α5 → Prop} {P : Prop} (h : ∃ x1 x2 x3 x4 x5, A1 x1 x2 x3 x4 x5) (k : ∀ x1 x2 x3 x4 x5, A1 x1 x2 x3 x4 x5 → P) : P := h.elim fun x1 h => h.elim fun x2 h => h.elim fun x3 h => h.elim fun x4 h => h.elim fun x5 h => k x1 x2 x3 x4 x5 h
theorem e5_2 {α1 α2 α3 α4 α5 : Type} {A1 A2 : α1 → α2 → α3 → α4 → α5 → Prop} {P : Prop} (h : ∃ x1 x2 x3 x4 x5, A1 x1 x2 x3 x4 x5 ∧ A2 x1 x2 x3 x4 x5) (k : ∀ x1 x2 x3 x4 x5, A1 x1 x2 x3 x4 x5 → A2 x1 x2 x3 x4 x5 → P) : P := h.elim fun x1 h => h.elim fun x2 h => h.elim fun x3 h => h.elim fun x4 h => h.elim fun x5 h => k x1 x2 x3 x4 x5 h.1 h.2
theorem e5_9 {α1 α2 α3 α4 α5 : Type} {A1 A2 A3 A4 A5 A6 A7 A8 A9 : α1 → α2 → α3 → α4 → α5 → Prop} {P : Prop} (h : ∃ x1 x2 x3 x4 x5, A1 x1 x2 x3 x4 x5 ∧ A2 x1 x2 x3 x4 x5 ∧ A3 x1 x2 x3 x4 x5 ∧ A4 x1 x2 x3 x4 x5 ∧ A5 x1 x2 x3 x4 x5 ∧ A6 x1 x2 x3 x4 x5 ∧ A7 x1 x2 x3 x4 x5 ∧ A8 x1 x2 x3 x4 x5 ∧ A9 x1 x2 x3 x4 x5) (k : ∀ x1 x2 x3 x4 x5, A1 x1 x2 x3 x4 x5 → A2 x1 x2 x3 x4 x5 → A3 x1 x2 x3 x4 x5 → A4 x1 x2 x3 x4 x5 → A5 x1 x2 x3 x4 x5 → A6 x1 x2 x3 x4 x5 → A7 x1 x2 x3 x4 x5 → A8 x1 x2 x3 x4 x5 → A9 x1 x2 x3 x4 x5 → P) : P := h.elim fun x1 h => h.elim fun x2 h => h.elim fun x3 h => h.elim fun x4 h => h.elim fun x5 h => k x1 x2 x3 x4 x5 h.1 h.2.1 h.2.2.1 h.2.2.2.1 h.2.2.2.2.1 h.2.2.2.2.2.1 h.2.2.2.2.2.2.1 h.2.2.2.2.2.2.2.1 h.2.2.2.2.2.2.2.2

inductive V where
  | none
  | bool (b : Bool)
  | int (i : Int)
  | str (s : Str)
  | ref (a : Nat)
  deriving DecidableEq

inductive O where
  | inst (C : Nat) (fs : List (Nat × V))
  | list (xs : List V)
  | tup (xs : List V)

noncomputable abbrev H := Nat → Option O
noncomputable abbrev R := Nat → Option V

noncomputable def H.set (h : H) (a : Nat) (o : O) : H := fun b => if b = a then some o else h b
@[simp, reducible] def R.set (r : R) (x : Nat) (v : V) : R := fun y => match Nat.beq y x with
  | true => some v
  | false => r y
theorem R.set_at {r : R} {x y : Nat} {v w : V} (e : r.set x v y = some w) : (y = x ∧ w = v) ∨ (y ≠ x ∧ r y = some w) := by
  unfold R.set at e
  cases c : Nat.beq y x with
  | true => rw [c] at e; exact .inl ⟨Nat.eq_of_beq_eq_true c, (Option.some.inj e).symm⟩
  | false => rw [c] at e; exact .inr ⟨Nat.ne_of_beq_eq_false c, e⟩
theorem R.set_self {r : R} {x : Nat} {v : V} : r.set x v x = some v := by unfold R.set; rw [show Nat.beq x x = true from Nat.beq_refl x]
noncomputable def isB (v : V) (k : Bool → Prop) : Prop := match v with
  | .bool _ => k true
  | .int _ => k false
  | .str _ => k false
  | _ => False
noncomputable def noRef (v : V) (P : Prop) : Prop := match v with
  | .ref _ => False
  | _ => P
noncomputable def R.only (r : R) (xs : List Nat) : R := fun y => if xs.contains y then r y else none

theorem H.set_self (h : H) (a : Nat) (o : O) : h.set a o a = some o := if_pos rfl
theorem H.set_ne {h : H} {a b : Nat} {o : O} (e : b ≠ a) : h.set a o b = h b := if_neg e
theorem ne_new {h : H} {a c : Nat} {o : O} (hc : h c = none) (ha : h a = some o) : c ≠ a := fun e => by rw [e, ha] at hc; cases hc
theorem ne_new' {h : H} {a c : Nat} {o : O} (hc : h c = none) (ha : h a = some o) : a ≠ c := (ne_new hc ha).symm
theorem ne_kept {h : H} {d c : Nat} (hd : h d ≠ none) (hc : h c = none) : d ≠ c := fun e => hd (e ▸ hc)
theorem ne_obj {h : H} {a b : Nat} {x y : O} (ha : h a = some x) (hb : h b = some y) (n : x = y → False) : a ≠ b := fun e => n (Option.some.inj (ha.symm.trans ((congrArg h e).trans hb)))

/-- the bound on lengths -/
noncomputable abbrev lim : Nat := 1048576

noncomputable def need {α : Type} (o : Option α) (k : α → Prop) : Prop := @Option.rec α (fun _ => Prop) False k o
@[simp ↓] theorem need_some {α : Type} (x : α) (k : α → Prop) : need (some x) k = k x := rfl
@[simp ↓] theorem need_none {α : Type} (k : α → Prop) : need (none : Option α) k = False := rfl
theorem need_at {α : Type} {o : Option α} {k : α → Prop} {x : α} (e : o = some x) (q : k x) : need o k := by subst e; exact q
theorem need_ex {α : Type} {o : Option α} {k : α → Prop} : need o k → ∃ x, o = some x ∧ k x := by cases o with
  | none => exact False.elim
  | some x => exact fun q => ⟨x, rfl, q⟩
theorem need_el {α : Type} {o : Option α} {k : α → Prop} {P : Prop} (q : need o k) (kk : ∀ x, o = some x → k x → P) : P := let ⟨x, e, q⟩ := need_ex q; kk x e q
theorem need_mono {α : Type} {o : Option α} {k k' : α → Prop} (h : ∀ x, k x → k' x) : need o k → need o k' := by cases o with
  | none => exact id
  | some x => exact h x

noncomputable def putFs (f : Nat) (v : V) : List (Nat × V) → List (Nat × V)
  | [] => [(f, v)]
  | (g, w) :: r => if g = f then (g, v) :: r else (g, w) :: putFs f v r
noncomputable def getFs (f : Nat) : List (Nat × V) → Option V
  | [] => none
  | (g, w) :: r => if g = f then some w else getFs f r

noncomputable def getF (h : H) (v : V) (f : Nat) : Option V := match v with
  | .ref a => (match h a with
    | some (.inst _ fs) => getFs f fs
    | _ => none)
  | _ => none
noncomputable def setF (h : H) (v : V) (f : Nat) (x : V) : Option H := match v with
  | .ref a => (match h a with
    | some (.inst C fs) => if fs.length < 100 then some (h.set a (.inst C (putFs f x fs))) else none
    | _ => none)
  | _ => none

noncomputable def itemsOf (h : H) : V → Option (List V)
  | .ref a => (match h a with
    | some (.list xs) => some xs
    | some (.tup xs) => some xs
    | _ => none)
  | _ => none
noncomputable def listAt (h : H) : V → Option (List V)
  | .ref a => (match h a with
    | some (.list xs) => some xs
    | _ => none)
  | _ => none
noncomputable def tupAt (h : H) : V → Option (List V)
  | .ref a => (match h a with
    | some (.tup xs) => some xs
    | _ => none)
  | _ => none
noncomputable def setList (h : H) (v : V) (xs : List V) : H := match v with
  | .ref a => h.set a (.list xs)
  | _ => h

noncomputable def intOf : V → Option Int
  | .int i => some i
  | _ => none
noncomputable def intsOf : List V → Option (List Int)
  | [] => some []
  | .int i :: r => (intsOf r).map (i :: ·)
  | _ => none
noncomputable def boolOf : V → Option Bool
  | .bool b => some b
  | _ => none

inductive Op where
  | add | sub | mul | fdiv | mod
  deriving DecidableEq
inductive Cm where
  | lt | le | gt | ge | eq | ne | is | isNot | notIn
  deriving DecidableEq

/-- a fresh object -/
noncomputable def newO (h : H) (o : O) (Q : V → H → Prop) : Prop := ∀ c, h c = none → Q (.ref c) (h.set c o)

noncomputable def intsP (a b : V) (k : Int → Int → Prop) : Prop := match a, b with
  | .int x, .int y => k x y
  | _, _ => False
noncomputable def addV (a b : V) (h : H) (Q : V → H → Prop) : Prop := match a, b with
  | .int x, .int y => Q (.int (x + y)) h
  | .ref p, .ref q => need (listAt h (.ref p)) fun xs => need (listAt h (.ref q)) fun ys => xs.length + ys.length ≤ lim ∧ newO h (.list (xs ++ ys)) Q
  | _, _ => False
noncomputable def binop (op : Op) (a b : V) (h : H) (Q : V → H → Prop) : Prop := match op with
  | .add => addV a b h Q
  | .sub => intsP a b fun x y => Q (.int (x - y)) h
  | .mul => intsP a b fun x y => (-1000000 ≤ x ∧ x ≤ 1000000 ∧ -1000000 ≤ y ∧ y ≤ 1000000) ∧ Q (.int (x * y)) h
  | .fdiv => intsP a b fun x y => (0 < y ∧ y ≤ 1000000) ∧ Q (.int (Int.fdiv x y)) h
  | .mod => intsP a b fun x y => 0 < y ∧ Q (.int (Int.fmod x y)) h
theorem intsP_inv {a b : V} {k : Int → Int → Prop} (q : intsP a b k) : ∃ x y, a = .int x ∧ b = .int y ∧ k x y := by
  cases a with
  | int x => cases b with
    | int y => exact ⟨x, y, rfl, rfl, q⟩
    | _ => exact q.elim
  | _ => exact q.elim

/-- == on flat values of one kind -/
noncomputable def pyEq : V → V → Option Bool
  | .int x, .int y => some (decide (x = y))
  | .bool x, .bool y => some (decide (x = y))
  | .str x, .str y => some (decide (x = y))
  | _, _ => none
/-- is, where it is plain: None, or instances -/
noncomputable def pyIs (h : H) : V → V → Option Bool
  | .none, .none => some true
  | .ref _, .none => some false
  | .none, .ref _ => some false
  | .ref a, .ref b => if a = b then some true else (match h a, h b with
    | some (.inst _ _), some (.inst _ _) => some false
    | _, _ => none)
  | _, _ => none

noncomputable def intsB (a b : V) (f : Int → Int → Bool) : Option Bool := match a, b with
  | .int x, .int y => some (f x y)
  | _, _ => none
noncomputable def cmpop (op : Cm) (a b : V) (h : H) : Option Bool := match op with
  | .lt => intsB a b fun x y => decide (x < y)
  | .le => intsB a b fun x y => decide (x ≤ y)
  | .gt => intsB a b fun x y => decide (y < x)
  | .ge => intsB a b fun x y => decide (y ≤ x)
  | .eq => pyEq a b
  | .ne => intsB a b fun x y => !decide (x = y)
  | .is => pyIs h a b
  | .isNot => (pyIs h a b).map (!·)
  | .notIn => (intOf a).bind fun x => (listAt h b).bind fun xs => (intsOf xs).map fun ns => !(ns.contains x)
theorem no {α : Type} {x : α} {p : Prop} (e : none = some x) : p := nomatch e
theorem intsB_inv {a b : V} {f : Int → Int → Bool} {c : Bool} (q : intsB a b f = some c) : ∃ x y, a = .int x ∧ b = .int y ∧ f x y = c := by
  cases a with
  | int x => cases b with
    | int y => exact ⟨x, y, rfl, rfl, Option.some.inj q⟩
    | _ => exact no q
  | _ => exact no q

/-- plain data read off the heap -/
inductive D where
  | none
  | bool (b : Bool)
  | int (i : Int)
  | str (s : Str)
  | tup (ds : List D)
  | list (ds : List D)

mutual
inductive HasD (h : H) : V → D → Prop where
  | none : HasD h .none .none
  | bool (b) : HasD h (.bool b) (.bool b)
  | int (i) : HasD h (.int i) (.int i)
  | str (s) : HasD h (.str s) (.str s)
  | tup {a : Nat} {xs : List V} {ds : List D} : h a = some (.tup xs) → HasDs h xs ds → HasD h (.ref a) (.tup ds)
  | list {a : Nat} {xs : List V} {ds : List D} : h a = some (.list xs) → HasDs h xs ds → HasD h (.ref a) (.list ds)
inductive HasDs (h : H) : List V → List D → Prop where
  | nil : HasDs h [] []
  | cons {x : V} {xs : List V} {d : D} {ds : List D} : HasD h x d → HasDs h xs ds → HasDs h (x :: xs) (d :: ds)
end

/-- plain enough to be compared -/
noncomputable def dOk : Nat → D → Bool
  | _, .none => true
  | _, .bool _ => true
  | _, .int _ => true
  | _, .str s => s.cps.all (· < 0x110000)
  | n + 1, .tup ds => ds.all (dOk n)
  | n + 1, .list ds => ds.all (dOk n)
  | 0, .tup _ => false
  | 0, .list _ => false

/-- the first item of a tuple, an int -/
noncomputable def firstInt (h : H) : V → Option Int
  | .ref a => (match h a with
    | some (.tup (.int i :: _)) => some i
    | _ => none)
  | _ => none
noncomputable def keysOf (h : H) : List V → Option (List Int)
  | [] => some []
  | x :: r => (firstInt h x).bind fun i => (keysOf h r).map (i :: ·)

/-- str() of a flat value -/
noncomputable def strOf : V → Option Str
  | .str s => some s
  | .bool true => some (Str.ofString "True")
  | .bool false => some (Str.ofString "False")
  | .int i => if -1000000 ≤ i ∧ i ≤ 1000000 then some (Str.ofString (toString i)) else none
  | _ => none

set_option genInjectivity false in
set_option genSizeOf false in
mutual
inductive Ex where
  | none
  | bool (b : Bool)
  | int (i : Int)
  | str (s : Str)
  | var (x : Nat)
  | attr (e : Ex) (f : Nat)
  | bin (op : Op) (l r : Ex)
  | neg (i : Int)
  | not (e : Ex)
  | cmp (op : Cm) (l r : Ex)
  | cmp2 (op₁ op₂ : Cm) (l m r : Ex)
  | and (l r : Ex)
  | or (l r : Ex)
  | ite (t a b : Ex)
  | call (f : Nat) (as : Exs)
  | new (C : Nat) (as : Exs)
  | len (e : Ex)
  | abs (e : Ex)
  | isBool (e : Ex)
  | listOf (e : Ex)
  | sorted (e : Ex)
  | strOf (e : Ex)
  | sum (e : Ex)
  | eqDat (l r : Ex)
  | pop (x : Nat)
  | append (x : Nat) (e : Ex)
  | extend (x : Nat) (e : Ex)
  | list (es : Exs)
  | tup (es : Exs)
  | idx (e i : Ex)
  | sliceTo (e hi : Ex)
  | sliceFrom (e lo : Ex)
  | comp (elt : Ex) (tgts : List Nat) (tup : Bool) (frees : List Nat) (rng : Bool) (src : Ex) (cond : Ex)
inductive Exs where
  | nil
  | cons (e : Ex) (es : Exs)
end

set_option genInjectivity false in
set_option genSizeOf false in
mutual
inductive St where
  | assign (x : Nat) (e : Ex)
  | assignT (xs : List Nat) (e : Ex)
  | setAttr (o : Ex) (f : Nat) (e : Ex)
  | setIdx (o i e : Ex)
  | expr (e : Ex)
  | ret (e : Ex)
  | retN
  | ite (t : Ex) (a b : Sts)
  | while (t : Ex) (b : Sts)
  | for (tgts : List Nat) (tup : Bool) (rng : Bool) (src : Ex) (b : Sts)
inductive Sts where
  | nil
  | cons (s : St) (r : Sts)
end

/-- assignment to targets -/
@[simp, reducible] noncomputable def R.setAll (ρ : R) (xs : List Nat) (vs : List V) : R :=
  @List.rec Nat (fun _ => List V → R → R) (fun _ ρ => ρ) (fun x _ ih vs ρ => @List.rec V (fun _ => R) ρ (fun v vs _ => ih vs (ρ.set x v)) vs) xs vs ρ
noncomputable def bindT (tgts : List Nat) (tup : Bool) (v : V) (ρ : R) (h : H) (k : R → Prop) : Prop := match tup with
  | false => (match tgts with
    | [x] => k (ρ.set x v)
    | _ => False)
  | true => need (tupAt h v) fun vs => vs.length = tgts.length ∧ k (ρ.setAll tgts vs)
noncomputable def srcItems (rng : Bool) (h : H) (v : V) : Option (List V) := match rng with
  | false => itemsOf h v
  | true => (intOf v).bind fun n => if 0 ≤ n then some ((List.range n.toNat).map fun i => V.int (i : Nat)) else none

/-- the source of a loop stands as it stood -/
noncomputable def sameAt (v : V) (h h' : H) : Prop := match v with
  | .ref a => h' a = h a
  | _ => True
noncomputable def compL (live : H → Prop) (step : V → H → (Option V → H → Prop) → Prop) : List V → List V → H → (List V → H → Prop) → Prop
  | [], acc, h, k => live h ∧ k acc h
  | x :: xs, acc, h, k => live h ∧ step x h fun o h => compL live step xs (acc ++ o.toList) h k
noncomputable def forL (live : H → Prop) (step : V → R → H → (R → H → Prop) → Prop) : List V → R → H → (R → H → Prop) → Prop
  | [], ρ, h, k => live h ∧ k ρ h
  | x :: xs, ρ, h, k => live h ∧ step x ρ h fun ρ h => forL live step xs ρ h k

noncomputable abbrev CallT := Nat → List V → H → (V → H → Prop) → Prop

mutual
noncomputable def wpE (Φ : CallT) (ini : Nat → Nat) : Ex → R → H → (V → H → Prop) → Prop
  | .none, _, h, Q => Q .none h
  | .bool b, _, h, Q => Q (.bool b) h
  | .int i, _, h, Q => Q (.int i) h
  | .str s, _, h, Q => Q (.str s) h
  | .var x, ρ, h, Q => need (ρ x) fun v => Q v h
  | .attr e f, ρ, h, Q => wpE Φ ini e ρ h fun v h => need (getF h v f) fun x => Q x h
  | .bin op l r, ρ, h, Q => wpE Φ ini l ρ h fun a h => wpE Φ ini r ρ h fun b h => binop op a b h Q
  | .neg i, _, h, Q => Q (.int (-i)) h
  | .not _, _, _, _ => False
  | .cmp op l r, ρ, h, Q => wpE Φ ini l ρ h fun a h => wpE Φ ini r ρ h fun b h => need (cmpop op a b h) fun c => Q (.bool c) h
  | .cmp2 _ _ _ _ _, _, _, _ => False
  | .and l r, ρ, h, Q => wpE Φ ini l ρ h fun a h => need (boolOf a) fun c => if c = true then wpE Φ ini r ρ h Q else Q a h
  | .or l r, ρ, h, Q => wpE Φ ini l ρ h fun a h => need (boolOf a) fun c => if c = true then Q a h else wpE Φ ini r ρ h Q
  | .ite t a b, ρ, h, Q => wpT Φ ini t ρ h fun c h => if c = true then wpE Φ ini a ρ h Q else wpE Φ ini b ρ h Q
  | .call f as, ρ, h, Q => wpEs Φ ini as ρ h fun vs h => Φ f vs h Q
  | .new C as, ρ, h, Q => wpEs Φ ini as ρ h fun vs h => ∀ c, h c = none → Φ (ini C) (.ref c :: vs) (h.set c (.inst C [])) fun r h => r = .none ∧ Q (.ref c) h
  | .len e, ρ, h, Q => wpE Φ ini e ρ h fun v h => need (itemsOf h v) fun xs => xs.length ≤ lim ∧ Q (.int xs.length) h
  | .abs e, ρ, h, Q => wpE Φ ini e ρ h fun v h => need (intOf v) fun i => Q (.int i.natAbs) h
  | .isBool e, ρ, h, Q => wpE Φ ini e ρ h fun v h => isB v fun b => Q (.bool b) h
  | .listOf e, ρ, h, Q => wpE Φ ini e ρ h fun v h => need (listAt h v) fun xs => xs.length ≤ lim ∧ newO h (.list xs) Q
  | .sorted e, ρ, h, Q => wpE Φ ini e ρ h fun v h => need (listAt h v) fun xs => need (keysOf h xs) fun ks => xs.length ≤ 5 ∧ ks.Nodup ∧
      ∀ ys ls, ys.Perm xs → keysOf h ys = some ls → ls.Pairwise (· ≤ ·) → newO h (.list ys) Q
  | .strOf e, ρ, h, Q => wpE Φ ini e ρ h fun v h => need (Mine.strOf v) fun s => Q (.str s) h
  | .sum e, ρ, h, Q => wpE Φ ini e ρ h fun v h => need (listAt h v) fun xs => need (intsOf xs) fun ns => xs.length ≤ lim ∧ Q (.int ns.sum) h
  | .eqDat l r, ρ, h, Q => wpE Φ ini l ρ h fun a h => wpE Φ ini r ρ h fun b h => ∃ ds, HasD h a (.list ds) ∧ HasD h b (.list ds) ∧ dOk 8 (.list ds) = true ∧ Q (.bool true) h
  | .pop x, ρ, h, Q => need (ρ x) fun v => need (listAt h v) fun xs => need xs.getLast? fun y => xs.length ≤ lim ∧ Q y (setList h v xs.dropLast)
  | .append x e, ρ, h, Q => need (ρ x) fun v => need (listAt h v) fun _ => wpE Φ ini e ρ h fun y h => need (listAt h v) fun xs => xs.length < lim ∧ Q .none (setList h v (xs ++ [y]))
  | .extend x e, ρ, h, Q => need (ρ x) fun v => need (listAt h v) fun _ => wpE Φ ini e ρ h fun w h => need (listAt h v) fun xs => need (listAt h w) fun ys => v ≠ w ∧ ys ≠ [] ∧ xs.length + ys.length < lim ∧ Q .none (setList h v (xs ++ ys))
  | .list es, ρ, h, Q => wpEs Φ ini es ρ h fun vs h => vs.length ≤ lim ∧ newO h (.list vs) Q
  | .tup es, ρ, h, Q => wpEs Φ ini es ρ h fun vs h => vs.length ≤ lim ∧ newO h (.tup vs) Q
  | .idx e i, ρ, h, Q => wpE Φ ini e ρ h fun v h => wpE Φ ini i ρ h fun j h => need (itemsOf h v) fun xs => need (intOf j) fun k => 0 ≤ k ∧ xs.length ≤ lim ∧ need (xs[k.toNat]?) fun x => Q x h
  | .sliceTo e hi, ρ, h, Q => wpE Φ ini e ρ h fun v h => wpE Φ ini hi ρ h fun j h => need (listAt h v) fun xs => need (intOf j) fun k => 0 ≤ k ∧ k ≤ lim ∧ xs.length ≤ lim ∧ newO h (.list (xs.take k.toNat)) Q
  | .sliceFrom e lo, ρ, h, Q => wpE Φ ini e ρ h fun v h => wpE Φ ini lo ρ h fun j h => need (listAt h v) fun xs => need (intOf j) fun k => 0 ≤ k ∧ k ≤ lim ∧ xs.length ≤ lim ∧ newO h (.list (xs.drop k.toNat)) Q
  | .comp elt tgts tup frees rng src cond, ρ, h, Q => (∀ x, x ∈ frees → (ρ x).isSome = true) ∧ wpE Φ ini src ρ h fun v h => need (srcItems rng h v) fun xs => xs.length ≤ lim ∧
      compL (sameAt v h) (fun x h k => bindT tgts tup x (ρ.only frees) h fun ρ' =>
        wpT Φ ini cond ρ' h fun c h => if c = true then wpE Φ ini elt ρ' h (fun y h => k (some y) h) else k .none h) xs [] h fun acc h => newO h (.list acc) Q
noncomputable def wpT (Φ : CallT) (ini : Nat → Nat) : Ex → R → H → (Bool → H → Prop) → Prop
  | .bool b, _, h, Q => Q b h
  | .not e, ρ, h, Q => wpT Φ ini e ρ h fun b h => Q (!b) h
  | .and l r, ρ, h, Q => wpT Φ ini l ρ h fun a h => if a = true then wpT Φ ini r ρ h Q else Q false h
  | .or l r, ρ, h, Q => wpT Φ ini l ρ h fun a h => if a = true then Q true h else wpT Φ ini r ρ h Q
  | .cmp op l r, ρ, h, Q => wpE Φ ini l ρ h fun a h => wpE Φ ini r ρ h fun b h => need (cmpop op a b h) fun c => Q c h
  | .cmp2 op₁ op₂ l m r, ρ, h, Q => wpE Φ ini l ρ h fun a h => wpE Φ ini m ρ h fun b h => need (cmpop op₁ a b h) fun c =>
      if c = true then wpE Φ ini r ρ h fun d h => need (cmpop op₂ b d h) fun c => Q c h else Q false h
  | .var x, ρ, h, Q => need (ρ x) fun v => need (boolOf v) fun b => Q b h
  | .call f as, ρ, h, Q => wpEs Φ ini as ρ h fun vs h => Φ f vs h fun v h => need (boolOf v) fun b => Q b h
  | .isBool e, ρ, h, Q => wpE Φ ini e ρ h fun v h => isB v fun b => Q b h
  | _, _, _, _ => False
noncomputable def wpEs (Φ : CallT) (ini : Nat → Nat) : Exs → R → H → (List V → H → Prop) → Prop
  | .nil, _, h, Q => Q [] h
  | .cons e es, ρ, h, Q => wpE Φ ini e ρ h fun v h => wpEs Φ ini es ρ h fun vs h => Q (v :: vs) h
end

mutual
noncomputable def wpS (Φ : CallT) (ini : Nat → Nat) : St → R → H → (R → H → Prop) → (V → H → Prop) → Prop
  | .assign x e, ρ, h, Qn, _ => wpE Φ ini e ρ h fun v h => Qn (ρ.set x v) h
  | .assignT xs e, ρ, h, Qn, _ => wpE Φ ini e ρ h fun v h => need (tupAt h v) fun vs => vs.length = xs.length ∧ Qn (ρ.setAll xs vs) h
  | .setAttr o f e, ρ, h, Qn, _ => wpE Φ ini e ρ h fun v h => wpE Φ ini o ρ h fun w h => need (setF h w f v) fun h => Qn ρ h
  | .setIdx o i e, ρ, h, Qn, _ => wpE Φ ini e ρ h fun v h => wpE Φ ini o ρ h fun w h => wpE Φ ini i ρ h fun j h =>
      need (listAt h w) fun xs => need (intOf j) fun k => 0 ≤ k ∧ k < xs.length ∧ xs.length ≤ lim ∧ Qn ρ (setList h w (xs.set k.toNat v))
  | .expr e, ρ, h, Qn, _ => wpE Φ ini e ρ h fun v h => noRef v (Qn ρ h)
  | .ret e, ρ, h, _, Qr => wpE Φ ini e ρ h Qr
  | .retN, _, h, _, Qr => Qr .none h
  | .ite t a b, ρ, h, Qn, Qr => wpT Φ ini t ρ h fun c h => if c = true then wpB Φ ini a ρ h Qn Qr else wpB Φ ini b ρ h Qn Qr
  | .while t b, ρ, h, Qn, Qr => ∀ I : R → H → Prop, (∀ ρ h, wpT Φ ini t ρ h (fun c h => if c = true then wpB Φ ini b ρ h I Qr else Qn ρ h) → I ρ h) → I ρ h
  | .for tgts tup rng src b, ρ, h, Qn, Qr => wpE Φ ini src ρ h fun v h => need (srcItems rng h v) fun xs => xs.length ≤ lim ∧
      forL (sameAt v h) (fun x ρ h k => bindT tgts tup x ρ h fun ρ' => wpB Φ ini b ρ' h k Qr) xs ρ h Qn
noncomputable def wpB (Φ : CallT) (ini : Nat → Nat) : Sts → R → H → (R → H → Prop) → (V → H → Prop) → Prop
  | .nil, ρ, h, Qn, _ => Qn ρ h
  | .cons s r, ρ, h, Qn, Qr => wpS Φ ini s ρ h (fun ρ h => wpB Φ ini r ρ h Qn Qr) Qr
end

structure Fd where
  params : List Nat
  body : Sts

noncomputable def R.empty : R := fun _ => none

noncomputable def Call (P : Nat → Option Fd) (ini : Nat → Nat) : Nat → CallT
  | 0, _, _, _, _ => False
  | n + 1, f, vs, h, Q => need (P f) fun fd => vs.length = fd.params.length ∧ wpB (Call P ini n) ini fd.body (R.empty.setAll fd.params vs) h (fun _ h => Q .none h) Q

end Mine

namespace Mine
open PySem
/-- the names, by their code points: 0 total_of 1 own_length 2 text_length 3 put_in_stead 4 set_left 5 set_right 6 rotate_right 7 rotate_left 8 right_turn_helps 9 left_turn_helps 10 settle 11 settle_up 12 add_above 13 find_interval 14 leftmost 15 rightmost 16 following 17 preceding 18 put_behind 19 put_ahead 20 split_at 21 drop_interval 22 insert_interval 23 delete_range 24 interval_rows 25 tree_error 26 eq 27 plist_find 28 plist_with 29 holds_pair 30 same_plist 31 plist_added 32 plist_removed 33 props_of_rows 34 range_nodes 35 join_at 36 join_range 37 put_property 38 add_properties 39 set_properties 40 remove_properties 41 text_inserted 42 text_deleted 43 _law_draw 44 _law_plist 45 _law_props 46 _law_first 47 _law_other 48 _law_shown 49 law 50 self 51 total 52 plist 53 parent 54 right 55 left 56 length 57 root 58 tree 59 node 60 other 61 son 62 difference 63 top 64 waiting 65 here 66 many 67 at 68 begin 69 ahead 70 own 71 fresh 72 before 73 rest 74 moved 75 above 76 end 77 found 78 one 79 number 80 value 81 more 82 numbers 83 pair 84 rows 85 props 86 last 87 first 88 changed 89 deck 90 runs 91 deed 92 way 93 script 94 shown 95 my_shift 96 is_behind 97 high 98 low 99 size 100 my_again 101 cell 102 Interval 103 IntervalTree 104 TextProps 105 bool 106 range 107 len 108 abs 109 isinstance 110 list 111 sorted 112 str 113 sum 114 append 115 pop 116 extend -/
noncomputable def nmT : List (List Nat) := [[116, 111, 116, 97, 108, 95, 111, 102], [111, 119, 110, 95, 108, 101, 110, 103, 116, 104], [116, 101, 120, 116, 95, 108, 101, 110, 103, 116, 104], [112, 117, 116, 95, 105, 110, 95, 115, 116, 101, 97, 100], [115, 101, 116, 95, 108, 101, 102, 116], [115, 101, 116, 95, 114, 105, 103, 104, 116], [114, 111, 116, 97, 116, 101, 95, 114, 105, 103, 104, 116], [114, 111, 116, 97, 116, 101, 95, 108, 101, 102, 116], [114, 105, 103, 104, 116, 95, 116, 117, 114, 110, 95, 104, 101, 108, 112, 115], [108, 101, 102, 116, 95, 116, 117, 114, 110, 95, 104, 101, 108, 112, 115], [115, 101, 116, 116, 108, 101], [115, 101, 116, 116, 108, 101, 95, 117, 112], [97, 100, 100, 95, 97, 98, 111, 118, 101], [102, 105, 110, 100, 95, 105, 110, 116, 101, 114, 118, 97, 108], [108, 101, 102, 116, 109, 111, 115, 116], [114, 105, 103, 104, 116, 109, 111, 115, 116], [102, 111, 108, 108, 111, 119, 105, 110, 103], [112, 114, 101, 99, 101, 100, 105, 110, 103], [112, 117, 116, 95, 98, 101, 104, 105, 110, 100], [112, 117, 116, 95, 97, 104, 101, 97, 100], [115, 112, 108, 105, 116, 95, 97, 116], [100, 114, 111, 112, 95, 105, 110, 116, 101, 114, 118, 97, 108], [105, 110, 115, 101, 114, 116, 95, 105, 110, 116, 101, 114, 118, 97, 108], [100, 101, 108, 101, 116, 101, 95, 114, 97, 110, 103, 101], [105, 110, 116, 101, 114, 118, 97, 108, 95, 114, 111, 119, 115], [116, 114, 101, 101, 95, 101, 114, 114, 111, 114], [101, 113], [112, 108, 105, 115, 116, 95, 102, 105, 110, 100], [112, 108, 105, 115, 116, 95, 119, 105, 116, 104], [104, 111, 108, 100, 115, 95, 112, 97, 105, 114], [115, 97, 109, 101, 95, 112, 108, 105, 115, 116], [112, 108, 105, 115, 116, 95, 97, 100, 100, 101, 100], [112, 108, 105, 115, 116, 95, 114, 101, 109, 111, 118, 101, 100], [112, 114, 111, 112, 115, 95, 111, 102, 95, 114, 111, 119, 115], [114, 97, 110, 103, 101, 95, 110, 111, 100, 101, 115], [106, 111, 105, 110, 95, 97, 116], [106, 111, 105, 110, 95, 114, 97, 110, 103, 101], [112, 117, 116, 95, 112, 114, 111, 112, 101, 114, 116, 121], [97, 100, 100, 95, 112, 114, 111, 112, 101, 114, 116, 105, 101, 115], [115, 101, 116, 95, 112, 114, 111, 112, 101, 114, 116, 105, 101, 115], [114, 101, 109, 111, 118, 101, 95, 112, 114, 111, 112, 101, 114, 116, 105, 101, 115], [116, 101, 120, 116, 95, 105, 110, 115, 101, 114, 116, 101, 100], [116, 101, 120, 116, 95, 100, 101, 108, 101, 116, 101, 100], [95, 108, 97, 119, 95, 100, 114, 97, 119], [95, 108, 97, 119, 95, 112, 108, 105, 115, 116], [95, 108, 97, 119, 95, 112, 114, 111, 112, 115], [95, 108, 97, 119, 95, 102, 105, 114, 115, 116], [95, 108, 97, 119, 95, 111, 116, 104, 101, 114], [95, 108, 97, 119, 95, 115, 104, 111, 119, 110], [108, 97, 119], [115, 101, 108, 102], [116, 111, 116, 97, 108], [112, 108, 105, 115, 116], [112, 97, 114, 101, 110, 116], [114, 105, 103, 104, 116], [108, 101, 102, 116], [108, 101, 110, 103, 116, 104], [114, 111, 111, 116], [116, 114, 101, 101], [110, 111, 100, 101], [111, 116, 104, 101, 114], [115, 111, 110], [100, 105, 102, 102, 101, 114, 101, 110, 99, 101], [116, 111, 112], [119, 97, 105, 116, 105, 110, 103], [104, 101, 114, 101], [109, 97, 110, 121], [97, 116], [98, 101, 103, 105, 110], [97, 104, 101, 97, 100], [111, 119, 110], [102, 114, 101, 115, 104], [98, 101, 102, 111, 114, 101], [114, 101, 115, 116], [109, 111, 118, 101, 100], [97, 98, 111, 118, 101], [101, 110, 100], [102, 111, 117, 110, 100], [111, 110, 101], [110, 117, 109, 98, 101, 114], [118, 97, 108, 117, 101], [109, 111, 114, 101], [110, 117, 109, 98, 101, 114, 115], [112, 97, 105, 114], [114, 111, 119, 115], [112, 114, 111, 112, 115], [108, 97, 115, 116], [102, 105, 114, 115, 116], [99, 104, 97, 110, 103, 101, 100], [100, 101, 99, 107], [114, 117, 110, 115], [100, 101, 101, 100], [119, 97, 121], [115, 99, 114, 105, 112, 116], [115, 104, 111, 119, 110], [109, 121, 95, 115, 104, 105, 102, 116], [105, 115, 95, 98, 101, 104, 105, 110, 100], [104, 105, 103, 104], [108, 111, 119], [115, 105, 122, 101], [109, 121, 95, 97, 103, 97, 105, 110], [99, 101, 108, 108], [73, 110, 116, 101, 114, 118, 97, 108], [73, 110, 116, 101, 114, 118, 97, 108, 84, 114, 101, 101], [84, 101, 120, 116, 80, 114, 111, 112, 115], [98, 111, 111, 108], [114, 97, 110, 103, 101], [108, 101, 110], [97, 98, 115], [105, 115, 105, 110, 115, 116, 97, 110, 99, 101], [108, 105, 115, 116], [115, 111, 114, 116, 101, 100], [115, 116, 114], [115, 117, 109], [97, 112, 112, 101, 110, 100], [112, 111, 112], [101, 120, 116, 101, 110, 100]]
noncomputable abbrev nmN : Nat := 117
/-- Interval.__init__ -/
noncomputable def b_init_Interval : Sts :=
  (.cons (.setAttr (.var 50) 51 (.var 51))
  (.cons (.setAttr (.var 50) 52 (.var 52))
  (.cons (.setAttr (.var 50) 55 .none)
  (.cons (.setAttr (.var 50) 54 .none)
  (.cons (.setAttr (.var 50) 53 .none)
  .nil)))))
/-- IntervalTree.__init__ -/
noncomputable def b_init_IntervalTree : Sts :=
  (.cons (.setAttr (.var 50) 57 (.ite (.cmp .gt (.var 56) (.int 0)) (.new 0 (.cons (.var 56) (.cons (.var 52) .nil))) .none))
  .nil)
/-- TextProps.__init__ -/
noncomputable def b_init_TextProps : Sts :=
  (.cons (.setAttr (.var 50) 58 (.new 1 (.cons (.var 56) (.cons (.list .nil) .nil))))
  .nil)
/-- total_of -/
noncomputable def b_total_of : Sts :=
  (.cons (.ret (.ite (.cmp .is (.var 59) .none) (.int 0) (.attr (.var 59) 51)))
  .nil)
/-- own_length -/
noncomputable def b_own_length : Sts :=
  (.cons (.ret (.bin .sub (.bin .sub (.attr (.var 59) 51) (.call 0 (.cons (.attr (.var 59) 55) .nil))) (.call 0 (.cons (.attr (.var 59) 54) .nil))))
  .nil)
/-- text_length -/
noncomputable def b_text_length : Sts :=
  (.cons (.ret (.call 0 (.cons (.attr (.var 58) 57) .nil)))
  .nil)
/-- put_in_stead -/
noncomputable def b_put_in_stead : Sts :=
  (.cons (.assign 53 (.attr (.var 59) 53))
  (.cons (.ite (.cmp .isNot (.var 60) .none) (.cons (.setAttr (.var 60) 53 (.var 53))
    .nil) .nil)
  (.cons (.ite (.cmp .is (.var 53) .none) (.cons (.setAttr (.var 58) 57 (.var 60))
    .nil) (.cons (.ite (.cmp .is (.attr (.var 53) 55) (.var 59)) (.cons (.setAttr (.var 53) 55 (.var 60))
      .nil) (.cons (.setAttr (.var 53) 54 (.var 60))
      .nil))
    .nil))
  .nil)))
/-- set_left -/
noncomputable def b_set_left : Sts :=
  (.cons (.setAttr (.var 59) 55 (.var 61))
  (.cons (.ite (.cmp .isNot (.var 61) .none) (.cons (.setAttr (.var 61) 53 (.var 59))
    .nil) .nil)
  .nil))
/-- set_right -/
noncomputable def b_set_right : Sts :=
  (.cons (.setAttr (.var 59) 54 (.var 61))
  (.cons (.ite (.cmp .isNot (.var 61) .none) (.cons (.setAttr (.var 61) 53 (.var 59))
    .nil) .nil)
  .nil))
/-- rotate_right -/
noncomputable def b_rotate_right : Sts :=
  (.cons (.assign 61 (.attr (.var 59) 55))
  (.cons (.expr (.call 3 (.cons (.var 58) (.cons (.var 59) (.cons (.var 61) .nil)))))
  (.cons (.assign 51 (.attr (.var 59) 51))
  (.cons (.setAttr (.var 59) 51 (.bin .add (.bin .sub (.attr (.var 59) 51) (.attr (.var 61) 51)) (.call 0 (.cons (.attr (.var 61) 54) .nil))))
  (.cons (.expr (.call 4 (.cons (.var 59) (.cons (.attr (.var 61) 54) .nil))))
  (.cons (.expr (.call 5 (.cons (.var 61) (.cons (.var 59) .nil))))
  (.cons (.setAttr (.var 61) 51 (.var 51))
  (.cons (.ret (.var 61))
  .nil))))))))
/-- rotate_left -/
noncomputable def b_rotate_left : Sts :=
  (.cons (.assign 61 (.attr (.var 59) 54))
  (.cons (.expr (.call 3 (.cons (.var 58) (.cons (.var 59) (.cons (.var 61) .nil)))))
  (.cons (.assign 51 (.attr (.var 59) 51))
  (.cons (.setAttr (.var 59) 51 (.bin .add (.bin .sub (.attr (.var 59) 51) (.attr (.var 61) 51)) (.call 0 (.cons (.attr (.var 61) 55) .nil))))
  (.cons (.expr (.call 5 (.cons (.var 59) (.cons (.attr (.var 61) 55) .nil))))
  (.cons (.expr (.call 4 (.cons (.var 61) (.cons (.var 59) .nil))))
  (.cons (.setAttr (.var 61) 51 (.var 51))
  (.cons (.ret (.var 61))
  .nil))))))))
/-- right_turn_helps -/
noncomputable def b_right_turn_helps : Sts :=
  (.cons (.assign 61 (.attr (.var 59) 55))
  (.cons (.assign 62 (.bin .sub (.call 0 (.cons (.var 61) .nil)) (.call 0 (.cons (.attr (.var 59) 54) .nil))))
  (.cons (.ite (.cmp .le (.var 62) (.int 0)) (.cons (.ret (.bool false))
    .nil) .nil)
  (.cons (.ret (.cmp .lt (.abs (.bin .sub (.call 0 (.cons (.attr (.var 61) 55) .nil)) (.bin .add (.bin .sub (.attr (.var 59) 51) (.attr (.var 61) 51)) (.call 0 (.cons (.attr (.var 61) 54) .nil))))) (.var 62)))
  .nil))))
/-- left_turn_helps -/
noncomputable def b_left_turn_helps : Sts :=
  (.cons (.assign 61 (.attr (.var 59) 54))
  (.cons (.assign 62 (.bin .sub (.call 0 (.cons (.var 61) .nil)) (.call 0 (.cons (.attr (.var 59) 55) .nil))))
  (.cons (.ite (.cmp .le (.var 62) (.int 0)) (.cons (.ret (.bool false))
    .nil) .nil)
  (.cons (.ret (.cmp .lt (.abs (.bin .sub (.call 0 (.cons (.attr (.var 61) 54) .nil)) (.bin .add (.bin .sub (.attr (.var 59) 51) (.attr (.var 61) 51)) (.call 0 (.cons (.attr (.var 61) 55) .nil))))) (.var 62)))
  .nil))))
/-- settle -/
noncomputable def b_settle : Sts :=
  (.cons (.assign 64 (.list (.cons (.var 59) .nil)))
  (.cons (.assign 63 (.var 59))
  (.cons (.while (.cmp .gt (.len (.var 64)) (.int 0)) (.cons (.assign 65 (.pop 64))
    (.cons (.ite (.call 8 (.cons (.var 65) .nil)) (.cons (.assign 61 (.call 6 (.cons (.var 58) (.cons (.var 65) .nil))))
      (.cons (.assign 63 (.ite (.cmp .is (.var 65) (.var 63)) (.var 61) (.var 63)))
      (.cons (.expr (.extend 64 (.list (.cons (.var 61) (.cons (.var 65) .nil)))))
      .nil))) (.cons (.ite (.call 9 (.cons (.var 65) .nil)) (.cons (.assign 61 (.call 7 (.cons (.var 58) (.cons (.var 65) .nil))))
        (.cons (.assign 63 (.ite (.cmp .is (.var 65) (.var 63)) (.var 61) (.var 63)))
        (.cons (.expr (.extend 64 (.list (.cons (.var 61) (.cons (.var 65) .nil)))))
        .nil))) .nil)
      .nil))
    .nil)))
  (.cons (.ret (.var 63))
  .nil))))
/-- settle_up -/
noncomputable def b_settle_up : Sts :=
  (.cons (.while (.cmp .isNot (.var 59) .none) (.cons (.assign 59 (.attr (.call 10 (.cons (.var 58) (.cons (.var 59) .nil))) 53))
    .nil))
  .nil)
/-- add_above -/
noncomputable def b_add_above : Sts :=
  (.cons (.while (.cmp .isNot (.var 59) .none) (.cons (.setAttr (.var 59) 51 (.bin .add (.attr (.var 59) 51) (.var 66)))
    (.cons (.assign 59 (.attr (.var 59) 53))
    .nil)))
  .nil)
/-- find_interval -/
noncomputable def b_find_interval : Sts :=
  (.cons (.assign 59 (.attr (.var 58) 57))
  (.cons (.assign 68 (.int 0))
  (.cons (.while (.bool true) (.cons (.assign 69 (.call 0 (.cons (.attr (.var 59) 55) .nil)))
    (.cons (.assign 70 (.call 1 (.cons (.var 59) .nil)))
    (.cons (.ite (.cmp .lt (.var 67) (.bin .add (.var 68) (.var 69))) (.cons (.assign 59 (.attr (.var 59) 55))
      .nil) (.cons (.ite (.cmp .lt (.var 67) (.bin .add (.bin .add (.var 68) (.var 69)) (.var 70))) (.cons (.ret (.tup (.cons (.var 59) (.cons (.bin .add (.var 68) (.var 69)) .nil))))
        .nil) (.cons (.assign 68 (.bin .add (.bin .add (.var 68) (.var 69)) (.var 70)))
        (.cons (.assign 59 (.attr (.var 59) 54))
        .nil)))
      .nil))
    .nil))))
  .nil)))
/-- leftmost -/
noncomputable def b_leftmost : Sts :=
  (.cons (.while (.cmp .isNot (.attr (.var 59) 55) .none) (.cons (.assign 59 (.attr (.var 59) 55))
    .nil))
  (.cons (.ret (.var 59))
  .nil))
/-- rightmost -/
noncomputable def b_rightmost : Sts :=
  (.cons (.while (.cmp .isNot (.attr (.var 59) 54) .none) (.cons (.assign 59 (.attr (.var 59) 54))
    .nil))
  (.cons (.ret (.var 59))
  .nil))
/-- following -/
noncomputable def b_following : Sts :=
  (.cons (.ite (.cmp .isNot (.attr (.var 59) 54) .none) (.cons (.ret (.call 14 (.cons (.attr (.var 59) 54) .nil)))
    .nil) .nil)
  (.cons (.while (.and (.cmp .isNot (.attr (.var 59) 53) .none) (.cmp .is (.attr (.attr (.var 59) 53) 54) (.var 59))) (.cons (.assign 59 (.attr (.var 59) 53))
    .nil))
  (.cons (.ret (.attr (.var 59) 53))
  .nil)))
/-- preceding -/
noncomputable def b_preceding : Sts :=
  (.cons (.ite (.cmp .isNot (.attr (.var 59) 55) .none) (.cons (.ret (.call 15 (.cons (.attr (.var 59) 55) .nil)))
    .nil) .nil)
  (.cons (.while (.and (.cmp .isNot (.attr (.var 59) 53) .none) (.cmp .is (.attr (.attr (.var 59) 53) 55) (.var 59))) (.cons (.assign 59 (.attr (.var 59) 53))
    .nil))
  (.cons (.ret (.attr (.var 59) 53))
  .nil)))
/-- put_behind -/
noncomputable def b_put_behind : Sts :=
  (.cons (.ite (.cmp .is (.attr (.var 59) 54) .none) (.cons (.expr (.call 5 (.cons (.var 59) (.cons (.var 71) .nil))))
    .nil) (.cons (.assign 59 (.call 14 (.cons (.attr (.var 59) 54) .nil)))
    (.cons (.expr (.call 4 (.cons (.var 59) (.cons (.var 71) .nil))))
    .nil)))
  (.cons (.expr (.call 12 (.cons (.attr (.var 71) 53) (.cons (.attr (.var 71) 51) .nil))))
  (.cons (.expr (.call 11 (.cons (.var 58) (.cons (.attr (.var 71) 53) .nil))))
  .nil)))
/-- put_ahead -/
noncomputable def b_put_ahead : Sts :=
  (.cons (.assign 72 (.call 17 (.cons (.var 59) .nil)))
  (.cons (.ite (.cmp .isNot (.var 72) .none) (.cons (.expr (.call 18 (.cons (.var 58) (.cons (.var 72) (.cons (.var 71) .nil)))))
    (.cons .retN
    .nil)) .nil)
  (.cons (.expr (.call 4 (.cons (.var 59) (.cons (.var 71) .nil))))
  (.cons (.expr (.call 12 (.cons (.var 59) (.cons (.attr (.var 71) 51) .nil))))
  (.cons (.expr (.call 11 (.cons (.var 58) (.cons (.var 59) .nil))))
  .nil)))))
/-- split_at -/
noncomputable def b_split_at : Sts :=
  (.cons (.ite (.not (.cmp2 .lt .lt (.int 0) (.var 67) (.call 2 (.cons (.var 58) .nil)))) (.cons .retN
    .nil) .nil)
  (.cons (.assignT [59, 68] (.call 13 (.cons (.var 58) (.cons (.var 67) .nil))))
  (.cons (.ite (.cmp .eq (.var 68) (.var 67)) (.cons .retN
    .nil) .nil)
  (.cons (.assign 73 (.bin .sub (.call 1 (.cons (.var 59) .nil)) (.bin .sub (.var 67) (.var 68))))
  (.cons (.expr (.call 12 (.cons (.var 59) (.cons (.bin .sub (.int 0) (.var 73)) .nil))))
  (.cons (.expr (.call 18 (.cons (.var 58) (.cons (.var 59) (.cons (.new 0 (.cons (.var 73) (.cons (.attr (.var 59) 52) .nil))) .nil)))))
  .nil))))))
/-- drop_interval -/
noncomputable def b_drop_interval : Sts :=
  (.cons (.expr (.call 12 (.cons (.attr (.var 59) 53) (.cons (.bin .sub (.int 0) (.call 1 (.cons (.var 59) .nil))) .nil))))
  (.cons (.assign 75 (.attr (.var 59) 53))
  (.cons (.ite (.or (.cmp .is (.attr (.var 59) 55) .none) (.cmp .is (.attr (.var 59) 54) .none)) (.cons (.assign 61 (.ite (.cmp .is (.attr (.var 59) 54) .none) (.attr (.var 59) 55) (.attr (.var 59) 54)))
    (.cons (.expr (.call 3 (.cons (.var 58) (.cons (.var 59) (.cons (.var 61) .nil)))))
    (.cons (.expr (.call 11 (.cons (.var 58) (.cons (.var 75) .nil))))
    (.cons .retN
    .nil)))) .nil)
  (.cons (.assign 74 (.attr (.var 59) 55))
  (.cons (.assign 65 (.call 14 (.cons (.attr (.var 59) 54) .nil)))
  (.cons (.expr (.call 3 (.cons (.var 58) (.cons (.var 59) (.cons (.attr (.var 59) 54) .nil)))))
  (.cons (.expr (.call 4 (.cons (.var 65) (.cons (.var 74) .nil))))
  (.cons (.while (.cmp .isNot (.var 65) (.var 75)) (.cons (.setAttr (.var 65) 51 (.bin .add (.attr (.var 65) 51) (.attr (.var 74) 51)))
    (.cons (.assign 65 (.attr (.var 65) 53))
    .nil)))
  (.cons (.expr (.call 11 (.cons (.var 58) (.cons (.attr (.var 74) 53) .nil))))
  .nil)))))))))
/-- insert_interval -/
noncomputable def b_insert_interval : Sts :=
  (.cons (.ite (.cmp .eq (.var 66) (.int 0)) (.cons .retN
    .nil) .nil)
  (.cons (.assign 71 (.new 0 (.cons (.var 66) (.cons (.var 52) .nil))))
  (.cons (.ite (.cmp .is (.attr (.var 58) 57) .none) (.cons (.setAttr (.var 58) 57 (.var 71))
    (.cons .retN
    .nil)) .nil)
  (.cons (.expr (.call 20 (.cons (.var 58) (.cons (.var 67) .nil))))
  (.cons (.ite (.cmp .eq (.var 67) (.call 2 (.cons (.var 58) .nil))) (.cons (.expr (.call 18 (.cons (.var 58) (.cons (.call 15 (.cons (.attr (.var 58) 57) .nil)) (.cons (.var 71) .nil)))))
    .nil) (.cons (.expr (.call 19 (.cons (.var 58) (.cons (.idx (.call 13 (.cons (.var 58) (.cons (.var 67) .nil))) (.int 0)) (.cons (.var 71) .nil)))))
    .nil))
  .nil)))))
/-- delete_range -/
noncomputable def b_delete_range : Sts :=
  (.cons (.ite (.cmp .ge (.var 68) (.var 76)) (.cons .retN
    .nil) .nil)
  (.cons (.expr (.call 20 (.cons (.var 58) (.cons (.var 68) .nil))))
  (.cons (.expr (.call 20 (.cons (.var 58) (.cons (.var 76) .nil))))
  (.cons (.assign 55 (.bin .sub (.var 76) (.var 68)))
  (.cons (.while (.cmp .gt (.var 55) (.int 0)) (.cons (.assign 59 (.idx (.call 13 (.cons (.var 58) (.cons (.var 68) .nil))) (.int 0)))
    (.cons (.assign 55 (.bin .sub (.var 55) (.call 1 (.cons (.var 59) .nil))))
    (.cons (.expr (.call 21 (.cons (.var 58) (.cons (.var 59) .nil))))
    .nil))))
  .nil)))))
/-- interval_rows -/
noncomputable def b_interval_rows : Sts :=
  (.cons (.assign 77 (.list .nil))
  (.cons (.assign 68 (.int 0))
  (.cons (.assign 59 (.ite (.cmp .is (.attr (.var 58) 57) .none) .none (.call 14 (.cons (.attr (.var 58) 57) .nil))))
  (.cons (.while (.cmp .isNot (.var 59) .none) (.cons (.assign 76 (.bin .add (.var 68) (.call 1 (.cons (.var 59) .nil))))
    (.cons (.expr (.append 77 (.tup (.cons (.var 68) (.cons (.var 76) (.cons (.attr (.var 59) 52) .nil))))))
    (.cons (.assign 68 (.var 76))
    (.cons (.assign 59 (.call 16 (.cons (.var 59) .nil)))
    .nil)))))
  (.cons (.ret (.var 77))
  .nil)))))
/-- tree_error -/
noncomputable def b_tree_error : Sts :=
  (.cons (.ite (.cmp .is (.attr (.var 58) 57) .none) (.cons (.ret .none)
    .nil) .nil)
  (.cons (.ite (.cmp .isNot (.attr (.attr (.var 58) 57) 53) .none) (.cons (.ret (.str (Str.ofString "parent")))
    .nil) .nil)
  (.cons (.assign 64 (.list (.cons (.attr (.var 58) 57) .nil)))
  (.cons (.while (.cmp .gt (.len (.var 64)) (.int 0)) (.cons (.assign 59 (.pop 64))
    (.cons (.ite (.cmp .le (.call 1 (.cons (.var 59) .nil)) (.int 0)) (.cons (.ret (.str (Str.ofString "length")))
      .nil) .nil)
    (.cons (.for [61] false false (.tup (.cons (.attr (.var 59) 55) (.cons (.attr (.var 59) 54) .nil))) (.cons (.ite (.cmp .isNot (.var 61) .none) (.cons (.ite (.cmp .isNot (.attr (.var 61) 53) (.var 59)) (.cons (.ret (.str (Str.ofString "parent")))
          .nil) .nil)
        (.cons (.expr (.append 64 (.var 61)))
        .nil)) .nil)
      .nil))
    .nil))))
  (.cons (.ret .none)
  .nil)))))
/-- eq -/
noncomputable def b_eq : Sts :=
  (.cons (.ite (.or (.isBool (.var 78)) (.isBool (.var 60))) (.cons (.ret (.and (.isBool (.var 78)) (.and (.isBool (.var 60)) (.cmp .eq (.var 78) (.var 60)))))
    .nil) .nil)
  (.cons (.ret (.cmp .eq (.var 78) (.var 60)))
  .nil))
/-- plist_find -/
noncomputable def b_plist_find : Sts :=
  (.cons (.for [67] false true (.len (.var 52)) (.cons (.ite (.cmp .eq (.idx (.idx (.var 52) (.var 67)) (.int 0)) (.var 79)) (.cons (.ret (.var 67))
      .nil) .nil)
    .nil))
  (.cons (.ret (.neg 1))
  .nil))
/-- plist_with -/
noncomputable def b_plist_with : Sts :=
  (.cons (.assign 67 (.call 27 (.cons (.var 52) (.cons (.var 79) .nil))))
  (.cons (.ite (.cmp .lt (.var 67) (.int 0)) (.cons (.ret (.bin .add (.var 52) (.list (.cons (.tup (.cons (.var 79) (.cons (.var 80) .nil))) .nil))))
    .nil) .nil)
  (.cons (.ret (.bin .add (.bin .add (.sliceTo (.var 52) (.var 67)) (.list (.cons (.tup (.cons (.var 79) (.cons (.var 80) .nil))) .nil))) (.sliceFrom (.var 52) (.bin .add (.var 67) (.int 1)))))
  .nil)))
/-- holds_pair -/
noncomputable def b_holds_pair : Sts :=
  (.cons (.assign 67 (.call 27 (.cons (.var 52) (.cons (.var 79) .nil))))
  (.cons (.ret (.and (.cmp .ge (.var 67) (.int 0)) (.call 26 (.cons (.idx (.idx (.var 52) (.var 67)) (.int 1)) (.cons (.var 80) .nil)))))
  .nil))
/-- same_plist -/
noncomputable def b_same_plist : Sts :=
  (.cons (.ite (.cmp .ne (.len (.var 78)) (.len (.var 60))) (.cons (.ret (.bool false))
    .nil) .nil)
  (.cons (.for [79, 80] true false (.var 78) (.cons (.ite (.not (.call 29 (.cons (.var 60) (.cons (.var 79) (.cons (.var 80) .nil))))) (.cons (.ret (.bool false))
      .nil) .nil)
    .nil))
  (.cons (.ret (.bool true))
  .nil)))
/-- plist_added -/
noncomputable def b_plist_added : Sts :=
  (.cons (.assign 77 (.var 52))
  (.cons (.for [79, 80] true false (.var 81) (.cons (.ite (.not (.call 29 (.cons (.var 77) (.cons (.var 79) (.cons (.var 80) .nil))))) (.cons (.assign 77 (.call 28 (.cons (.var 77) (.cons (.var 79) (.cons (.var 80) .nil)))))
      .nil) .nil)
    .nil))
  (.cons (.ret (.var 77))
  .nil)))
/-- plist_removed -/
noncomputable def b_plist_removed : Sts :=
  (.cons (.ret (.comp (.var 83) [83] false [82] false (.var 52) (.cmp .notIn (.idx (.var 83) (.int 0)) (.var 82))))
  .nil)
/-- props_of_rows -/
noncomputable def b_props_of_rows : Sts :=
  (.cons (.assign 77 (.new 2 (.cons (.int 0) .nil)))
  (.cons (.assign 67 (.int 0))
  (.cons (.for [66, 52] true false (.var 84) (.cons (.expr (.call 22 (.cons (.attr (.var 77) 58) (.cons (.var 67) (.cons (.var 66) (.cons (.var 52) .nil))))))
    (.cons (.expr (.call 35 (.cons (.var 77) (.cons (.var 67) .nil))))
    (.cons (.assign 67 (.bin .add (.var 67) (.var 66)))
    .nil))))
  (.cons (.ret (.var 77))
  .nil))))
/-- range_nodes -/
noncomputable def b_range_nodes : Sts :=
  (.cons (.ite (.cmp .ge (.var 68) (.var 76)) (.cons (.ret (.list .nil))
    .nil) .nil)
  (.cons (.expr (.call 20 (.cons (.attr (.var 85) 58) (.cons (.var 68) .nil))))
  (.cons (.expr (.call 20 (.cons (.attr (.var 85) 58) (.cons (.var 76) .nil))))
  (.cons (.assign 59 (.idx (.call 13 (.cons (.attr (.var 85) 58) (.cons (.var 68) .nil))) (.int 0)))
  (.cons (.assign 77 (.list .nil))
  (.cons (.assign 55 (.bin .sub (.var 76) (.var 68)))
  (.cons (.while (.cmp .gt (.var 55) (.int 0)) (.cons (.expr (.append 77 (.var 59)))
    (.cons (.assign 55 (.bin .sub (.var 55) (.call 1 (.cons (.var 59) .nil))))
    (.cons (.assign 59 (.call 16 (.cons (.var 59) .nil)))
    .nil))))
  (.cons (.ret (.var 77))
  .nil))))))))
/-- join_at -/
noncomputable def b_join_at : Sts :=
  (.cons (.ite (.not (.cmp2 .lt .lt (.int 0) (.var 67) (.call 2 (.cons (.attr (.var 85) 58) .nil)))) (.cons .retN
    .nil) .nil)
  (.cons (.assignT [59, 68] (.call 13 (.cons (.attr (.var 85) 58) (.cons (.var 67) .nil))))
  (.cons (.ite (.cmp .ne (.var 68) (.var 67)) (.cons .retN
    .nil) .nil)
  (.cons (.assign 69 (.call 17 (.cons (.var 59) .nil)))
  (.cons (.ite (.call 30 (.cons (.attr (.var 69) 52) (.cons (.attr (.var 59) 52) .nil))) (.cons (.assign 66 (.call 1 (.cons (.var 59) .nil)))
    (.cons (.expr (.call 21 (.cons (.attr (.var 85) 58) (.cons (.var 59) .nil))))
    (.cons (.expr (.call 12 (.cons (.var 69) (.cons (.var 66) .nil))))
    (.cons (.expr (.call 11 (.cons (.attr (.var 85) 58) (.cons (.var 69) .nil))))
    .nil)))) .nil)
  .nil)))))
/-- join_range -/
noncomputable def b_join_range : Sts :=
  (.cons (.assign 67 (.var 68))
  (.cons (.while (.and (.cmp .le (.var 67) (.var 76)) (.cmp .lt (.var 67) (.call 2 (.cons (.attr (.var 85) 58) .nil)))) (.cons (.assignT [59, 87] (.call 13 (.cons (.attr (.var 85) 58) (.cons (.var 67) .nil))))
    (.cons (.assign 86 (.bin .add (.var 87) (.call 1 (.cons (.var 59) .nil))))
    (.cons (.expr (.call 35 (.cons (.var 85) (.cons (.var 87) .nil))))
    (.cons (.assign 67 (.var 86))
    .nil)))))
  (.cons (.expr (.call 35 (.cons (.var 85) (.cons (.var 76) .nil))))
  .nil)))
/-- put_property -/
noncomputable def b_put_property : Sts :=
  (.cons (.assign 88 (.bool false))
  (.cons (.for [59] false false (.call 34 (.cons (.var 85) (.cons (.var 68) (.cons (.var 76) .nil)))) (.cons (.ite (.not (.call 29 (.cons (.attr (.var 59) 52) (.cons (.var 79) (.cons (.var 80) .nil))))) (.cons (.setAttr (.var 59) 52 (.call 28 (.cons (.attr (.var 59) 52) (.cons (.var 79) (.cons (.var 80) .nil)))))
      (.cons (.assign 88 (.bool true))
      .nil)) .nil)
    .nil))
  (.cons (.expr (.call 36 (.cons (.var 85) (.cons (.var 68) (.cons (.var 76) .nil)))))
  (.cons (.ret (.var 88))
  .nil))))
/-- add_properties -/
noncomputable def b_add_properties : Sts :=
  (.cons (.assign 88 (.bool false))
  (.cons (.for [59] false false (.call 34 (.cons (.var 85) (.cons (.var 68) (.cons (.var 76) .nil)))) (.cons (.assign 71 (.call 31 (.cons (.attr (.var 59) 52) (.cons (.var 52) .nil))))
    (.cons (.ite (.not (.call 30 (.cons (.var 71) (.cons (.attr (.var 59) 52) .nil)))) (.cons (.setAttr (.var 59) 52 (.var 71))
      (.cons (.assign 88 (.bool true))
      .nil)) .nil)
    .nil)))
  (.cons (.expr (.call 36 (.cons (.var 85) (.cons (.var 68) (.cons (.var 76) .nil)))))
  (.cons (.ret (.var 88))
  .nil))))
/-- set_properties -/
noncomputable def b_set_properties : Sts :=
  (.cons (.assign 88 (.bool false))
  (.cons (.for [59] false false (.call 34 (.cons (.var 85) (.cons (.var 68) (.cons (.var 76) .nil)))) (.cons (.ite (.not (.call 30 (.cons (.var 52) (.cons (.attr (.var 59) 52) .nil)))) (.cons (.setAttr (.var 59) 52 (.listOf (.var 52)))
      (.cons (.assign 88 (.bool true))
      .nil)) .nil)
    .nil))
  (.cons (.expr (.call 36 (.cons (.var 85) (.cons (.var 68) (.cons (.var 76) .nil)))))
  (.cons (.ret (.var 88))
  .nil))))
/-- remove_properties -/
noncomputable def b_remove_properties : Sts :=
  (.cons (.assign 88 (.bool false))
  (.cons (.for [59] false false (.call 34 (.cons (.var 85) (.cons (.var 68) (.cons (.var 76) .nil)))) (.cons (.assign 71 (.call 32 (.cons (.attr (.var 59) 52) (.cons (.var 82) .nil))))
    (.cons (.ite (.cmp .ne (.len (.var 71)) (.len (.attr (.var 59) 52))) (.cons (.setAttr (.var 59) 52 (.var 71))
      (.cons (.assign 88 (.bool true))
      .nil)) .nil)
    .nil)))
  (.cons (.expr (.call 36 (.cons (.var 85) (.cons (.var 68) (.cons (.var 76) .nil)))))
  (.cons (.ret (.var 88))
  .nil))))
/-- text_inserted -/
noncomputable def b_text_inserted : Sts :=
  (.cons (.expr (.call 22 (.cons (.attr (.var 85) 58) (.cons (.var 67) (.cons (.var 66) (.cons (.listOf (.var 52)) .nil))))))
  (.cons (.expr (.call 35 (.cons (.var 85) (.cons (.bin .add (.var 67) (.var 66)) .nil))))
  (.cons (.expr (.call 35 (.cons (.var 85) (.cons (.var 67) .nil))))
  .nil)))
/-- text_deleted -/
noncomputable def b_text_deleted : Sts :=
  (.cons (.expr (.call 23 (.cons (.attr (.var 85) 58) (.cons (.var 68) (.cons (.var 76) .nil)))))
  (.cons (.expr (.call 35 (.cons (.var 85) (.cons (.var 68) .nil))))
  .nil))
/-- _law_draw -/
noncomputable def b_law_draw : Sts :=
  (.cons (.setIdx (.var 89) (.int 1) (.bin .add (.idx (.var 89) (.int 1)) (.int 1)))
  (.cons (.ite (.cmp .le (.idx (.var 89) (.int 1)) (.len (.idx (.var 89) (.int 0)))) (.cons (.ret (.bin .mod (.idx (.idx (.var 89) (.int 0)) (.bin .sub (.idx (.var 89) (.int 1)) (.int 1))) (.var 66)))
    .nil) .nil)
  (.cons (.ret (.bin .mod (.bin .fdiv (.bin .add (.bin .add (.bin .mul (.bin .mul (.idx (.var 89) (.int 1)) (.idx (.var 89) (.int 1))) (.int 41)) (.bin .mul (.int 13) (.idx (.var 89) (.int 1)))) (.bin .mul (.int 5) (.len (.idx (.var 89) (.int 0))))) (.int 3)) (.var 66)))
  .nil)))
/-- _law_plist -/
noncomputable def b_law_plist : Sts :=
  (.cons (.assign 87 (.bin .add (.int 1) (.call 43 (.cons (.var 89) (.cons (.int 3) .nil)))))
  (.cons (.ret (.sliceTo (.list (.cons (.tup (.cons (.var 87) (.cons (.call 43 (.cons (.var 89) (.cons (.int 3) .nil))) .nil))) (.cons (.tup (.cons (.bin .add (.var 87) (.int 1)) (.cons (.bool true) .nil))) .nil))) (.call 43 (.cons (.var 89) (.cons (.int 3) .nil)))))
  .nil))
/-- _law_props -/
noncomputable def b_law_props : Sts :=
  (.cons (.ret (.call 33 (.cons (.comp (.tup (.cons (.var 66) (.cons (.listOf (.var 52)) .nil))) [66, 52] true [] false (.var 90) (.bool true)) .nil)))
  .nil)
/-- _law_first -/
noncomputable def b_law_first : Sts :=
  (.cons (.assignT [92, 68, 76, 52] (.var 91))
  (.cons (.ite (.cmp .eq (.var 92) (.int 0)) (.cons (.expr (.call 38 (.cons (.var 85) (.cons (.var 68) (.cons (.var 76) (.cons (.var 52) .nil))))))
    .nil) (.cons (.ite (.cmp .eq (.var 92) (.int 1)) (.cons (.expr (.call 39 (.cons (.var 85) (.cons (.var 68) (.cons (.var 76) (.cons (.var 52) .nil))))))
      .nil) (.cons (.ite (.cmp .eq (.var 92) (.int 2)) (.cons (.expr (.call 40 (.cons (.var 85) (.cons (.var 68) (.cons (.var 76) (.cons (.comp (.var 79) [79, 80] true [] false (.var 52) (.bool true)) .nil))))))
        .nil) (.cons (.expr (.call 37 (.cons (.var 85) (.cons (.var 68) (.cons (.var 76) (.cons (.int 2) (.cons (.bool false) .nil)))))))
        .nil))
      .nil))
    .nil))
  .nil))
/-- _law_other -/
noncomputable def b_law_other : Sts :=
  (.cons (.ite (.cmp .eq (.var 92) (.int 0)) (.cons (.expr (.call 41 (.cons (.var 85) (.cons (.var 67) (.cons (.var 66) (.cons (.var 52) .nil))))))
    .nil) (.cons (.ite (.cmp .eq (.var 92) (.int 1)) (.cons (.expr (.call 42 (.cons (.var 85) (.cons (.var 67) (.cons (.bin .add (.var 67) (.var 66)) .nil)))))
      .nil) (.cons (.expr (.call 37 (.cons (.var 85) (.cons (.var 67) (.cons (.bin .add (.var 67) (.var 66)) (.cons (.int 9) (.cons (.str (Str.ofString "x")) .nil)))))))
      .nil))
    .nil))
  .nil)
/-- _law_shown -/
noncomputable def b_law_shown : Sts :=
  (.cons (.ite (.cmp .isNot (.call 25 (.cons (.attr (.var 85) 58) .nil)) .none) (.cons (.ret .none)
    .nil) .nil)
  (.cons (.assign 77 (.list .nil))
  (.cons (.for [68, 76, 52] true false (.call 24 (.cons (.attr (.var 85) 58) .nil)) (.cons (.expr (.append 77 (.tup (.cons (.var 68) (.cons (.var 76) (.cons (.sorted (.comp (.tup (.cons (.var 79) (.cons (.isBool (.var 80)) (.cons (.strOf (.var 80)) .nil)))) [79, 80] true [] false (.var 52) (.bool true))) .nil))))))
    .nil))
  (.cons (.ret (.var 77))
  .nil))))
/-- law -/
noncomputable def b_law : Sts :=
  (.cons (.assign 89 (.list (.cons (.comp (.abs (.var 101)) [101] false [] false (.sliceTo (.var 93) (.int 63)) (.bool true)) (.cons (.int 0) .nil))))
  (.cons (.assign 90 (.comp (.tup (.cons (.bin .add (.int 1) (.call 43 (.cons (.var 89) (.cons (.int 4) .nil)))) (.cons (.call 44 (.cons (.var 89) .nil)) .nil))) [100] false [89] true (.bin .add (.int 1) (.call 43 (.cons (.var 89) (.cons (.int 3) .nil)))) (.bool true)))
  (.cons (.assign 99 (.sum (.comp (.var 66) [66, 52] true [] false (.var 90) (.bool true))))
  (.cons (.assign 68 (.call 43 (.cons (.var 89) (.cons (.bin .add (.var 99) (.int 1)) .nil))))
  (.cons (.assign 76 (.bin .add (.var 68) (.call 43 (.cons (.var 89) (.cons (.bin .add (.bin .sub (.var 99) (.var 68)) (.int 1)) .nil)))))
  (.cons (.assign 91 (.tup (.cons (.call 43 (.cons (.var 89) (.cons (.int 4) .nil))) (.cons (.var 68) (.cons (.var 76) (.cons (.call 44 (.cons (.var 89) .nil)) .nil))))))
  (.cons (.assignT [92, 96] (.tup (.cons (.call 43 (.cons (.var 89) (.cons (.int 3) .nil))) (.cons (.cmp .eq (.call 43 (.cons (.var 89) (.cons (.int 2) .nil))) (.int 1)) .nil))))
  (.cons (.assignT [98, 97] (.ite (.var 96) (.tup (.cons (.var 76) (.cons (.var 99) .nil))) (.tup (.cons (.int 0) (.cons (.var 68) .nil)))))
  (.cons (.assign 67 (.bin .add (.var 98) (.call 43 (.cons (.var 89) (.cons (.bin .add (.bin .sub (.var 97) (.var 98)) (.int 1)) .nil)))))
  (.cons (.assign 66 (.ite (.cmp .eq (.var 92) (.int 0)) (.bin .add (.int 1) (.call 43 (.cons (.var 89) (.cons (.int 3) .nil)))) (.call 43 (.cons (.var 89) (.cons (.bin .add (.bin .sub (.var 97) (.var 67)) (.int 1)) .nil)))))
  (.cons (.assign 52 (.call 44 (.cons (.var 89) .nil)))
  (.cons (.assignT [78, 60] (.tup (.cons (.call 45 (.cons (.var 90) .nil)) (.cons (.call 45 (.cons (.var 90) .nil)) .nil))))
  (.cons (.expr (.call 46 (.cons (.var 78) (.cons (.var 91) .nil))))
  (.cons (.expr (.call 47 (.cons (.var 78) (.cons (.var 92) (.cons (.var 67) (.cons (.var 66) (.cons (.var 52) .nil)))))))
  (.cons (.expr (.call 47 (.cons (.var 60) (.cons (.var 92) (.cons (.var 67) (.cons (.var 66) (.cons (.var 52) .nil)))))))
  (.cons (.assign 95 (.ite (.or (.var 96) (.cmp .eq (.var 92) (.int 2))) (.int 0) (.ite (.cmp .eq (.var 92) (.int 0)) (.var 66) (.bin .sub (.int 0) (.var 66)))))
  (.cons (.expr (.call 46 (.cons (.var 60) (.cons (.tup (.cons (.idx (.var 91) (.int 0)) (.cons (.bin .add (.var 68) (.var 95)) (.cons (.bin .add (.var 76) (.var 95)) (.cons (.idx (.var 91) (.int 3)) .nil))))) .nil))))
  (.cons (.assign 94 (.call 48 (.cons (.var 78) .nil)))
  (.cons (.ret (.and (.cmp .isNot (.var 94) .none) (.eqDat (.var 94) (.call 48 (.cons (.var 60) .nil)))))
  .nil)))))))))))))))))))
noncomputable def fnL : List (Nat × Fd) := [
  (1000, ⟨[50, 51, 52], b_init_Interval⟩),
  (1001, ⟨[50, 56, 52], b_init_IntervalTree⟩),
  (1002, ⟨[50, 56], b_init_TextProps⟩),
  (0, ⟨[59], b_total_of⟩),
  (1, ⟨[59], b_own_length⟩),
  (2, ⟨[58], b_text_length⟩),
  (3, ⟨[58, 59, 60], b_put_in_stead⟩),
  (4, ⟨[59, 61], b_set_left⟩),
  (5, ⟨[59, 61], b_set_right⟩),
  (6, ⟨[58, 59], b_rotate_right⟩),
  (7, ⟨[58, 59], b_rotate_left⟩),
  (8, ⟨[59], b_right_turn_helps⟩),
  (9, ⟨[59], b_left_turn_helps⟩),
  (10, ⟨[58, 59], b_settle⟩),
  (11, ⟨[58, 59], b_settle_up⟩),
  (12, ⟨[59, 66], b_add_above⟩),
  (13, ⟨[58, 67], b_find_interval⟩),
  (14, ⟨[59], b_leftmost⟩),
  (15, ⟨[59], b_rightmost⟩),
  (16, ⟨[59], b_following⟩),
  (17, ⟨[59], b_preceding⟩),
  (18, ⟨[58, 59, 71], b_put_behind⟩),
  (19, ⟨[58, 59, 71], b_put_ahead⟩),
  (20, ⟨[58, 67], b_split_at⟩),
  (21, ⟨[58, 59], b_drop_interval⟩),
  (22, ⟨[58, 67, 66, 52], b_insert_interval⟩),
  (23, ⟨[58, 68, 76], b_delete_range⟩),
  (24, ⟨[58], b_interval_rows⟩),
  (25, ⟨[58], b_tree_error⟩),
  (26, ⟨[78, 60], b_eq⟩),
  (27, ⟨[52, 79], b_plist_find⟩),
  (28, ⟨[52, 79, 80], b_plist_with⟩),
  (29, ⟨[52, 79, 80], b_holds_pair⟩),
  (30, ⟨[78, 60], b_same_plist⟩),
  (31, ⟨[52, 81], b_plist_added⟩),
  (32, ⟨[52, 82], b_plist_removed⟩),
  (33, ⟨[84], b_props_of_rows⟩),
  (34, ⟨[85, 68, 76], b_range_nodes⟩),
  (35, ⟨[85, 67], b_join_at⟩),
  (36, ⟨[85, 68, 76], b_join_range⟩),
  (37, ⟨[85, 68, 76, 79, 80], b_put_property⟩),
  (38, ⟨[85, 68, 76, 52], b_add_properties⟩),
  (39, ⟨[85, 68, 76, 52], b_set_properties⟩),
  (40, ⟨[85, 68, 76, 82], b_remove_properties⟩),
  (41, ⟨[85, 67, 66, 52], b_text_inserted⟩),
  (42, ⟨[85, 68, 76], b_text_deleted⟩),
  (43, ⟨[89, 66], b_law_draw⟩),
  (44, ⟨[89], b_law_plist⟩),
  (45, ⟨[90], b_law_props⟩),
  (46, ⟨[85, 91], b_law_first⟩),
  (47, ⟨[85, 92, 67, 66, 52], b_law_other⟩),
  (48, ⟨[85], b_law_shown⟩)]
noncomputable def fnT (f : Nat) : Option Fd := fnL.lookup f
noncomputable def iniT (C : Nat) : Nat := 1000 + C
noncomputable def fnIds : List Nat := [0, 1, 2, 3, 4, 5, 6, 7, 8, 9, 10, 11, 12, 13, 14, 15, 16, 17, 18, 19, 20, 21, 22, 23, 24, 25, 26, 27, 28, 29, 30, 31, 32, 33, 34, 35, 36, 37, 38, 39, 40, 41, 42, 43, 44, 45, 46, 47, 48]
end Mine

namespace Mine
open PySem PySem.W PySem.Calls PyProof.Rows

noncomputable def nm (i : Nat) : Str := ⟨(nmT.getD i []).toArray⟩
theorem nmT_nodup : nmT.Nodup := by decide +kernel
theorem nmT_len : nmT.length = nmN := by decide +kernel
theorem nm_inj (i : Nat) (hi : i < nmN) (j : Nat) (hj : j < nmN) (h : nm i = nm j) : i = j := by
  rw [← nmT_len] at hi hj
  have e : nmT.getD i [] = nmT.getD j [] := by
    have := congrArg (fun s : Str => s.cps.toList) h
    exact this
  rw [List.getD_eq_getElem?_getD, List.getD_eq_getElem?_getD, List.getElem?_eq_getElem hi, List.getElem?_eq_getElem hj] at e
  exact (List.getElem_inj nmT_nodup).mp e

noncomputable def ab : Value → Option V
  | .none => some .none
  | .bool b => some (.bool b)
  | .int i _ => some (.int i)
  | .str s _ => some (.str s)
  | .ref a => some (.ref a)
  | _ => none
theorem ab_none {v : Value} (h : ab v = some .none) : v = .none := by cases v <;> simp_all [ab]
theorem ab_bool {v : Value} {b : Bool} (h : ab v = some (.bool b)) : v = .bool b := by cases v <;> simp_all [ab]
theorem ab_int {v : Value} {i : Int} (h : ab v = some (.int i)) : ∃ t, v = .int i t := by cases v <;> simp_all [ab]
theorem ab_str {v : Value} {s : Str} (h : ab v = some (.str s)) : ∃ t, v = .str s t := by cases v <;> simp_all [ab]
theorem ab_ref {v : Value} {a : Nat} (h : ab v = some (.ref a)) : v = .ref a := by cases v <;> simp_all [ab]
theorem ab_handed {v : Value} {x : V} (h : ab v = some x) : handedIn v = true := by cases v <;> first | rfl | simp [ab] at h

noncomputable abbrev tupO (vs : List Value) (n : Nat) : Obj := { cls := .type "tuple", data := .seq vs.toArray n }
noncomputable abbrev lstO (vs : List Value) (n : Nat) : Obj := listOf vs.toArray n

noncomputable def clsA (K : Frag) (C : Nat) : Option Addr := if C < 3 then (match nsIn K mainGlobals (nm (102 + C)) with
  | some (some (.ref a)) => some a
  | _ => none) else none

/-- the entries of an object's dict -/
noncomputable def FRel : List DictEntry → List (Nat × V) → Prop
  | [], [] => True
  | e :: es, (f, v) :: fs => (∃ t, e.key = .str (nm f) t) ∧ f < nmN ∧ ab e.val = some v ∧ FRel es fs
  | _, _ => False

theorem isStr_nm {e : DictEntry} {f g : Nat} {t : Tok} (he : e.key = .str (nm f) t) (hf : f < nmN) (hg : g < nmN) : e.key.isStr (nm g) = decide (f = g) := by
  rw [he]
  show (nm f == nm g) = decide (f = g)
  by_cases h : f = g
  · subst h; simp
  · have : nm f ≠ nm g := fun q => h (nm_inj f hf g hg q)
    simp [h, this]
theorem FRel.len : ∀ {es : List DictEntry} {fs : List (Nat × V)}, FRel es fs → es.length = fs.length
  | [], [], _ => rfl
  | _ :: _, (_, _) :: _, h => congrArg (· + 1) h.2.2.2.len
  | [], _ :: _, h => h.elim
  | _ :: _, [], h => h.elim
theorem FRel.noRef : ∀ {es : List DictEntry} {fs : List (Nat × V)}, FRel es fs → es.any (·.refKey) = false
  | [], [], _ => rfl
  | e :: es, (f, v) :: fs, ⟨⟨t, h1⟩, _, _, h4⟩ => by
    rw [List.any_cons, h4.noRef, Bool.or_false]
    simp [DictEntry.refKey, h1]
  | [], _ :: _, h => h.elim
  | _ :: _, [], h => h.elim
theorem FRel.getL_isSome {es : List DictEntry} {fs : List (Nat × V)} (h : FRel es fs) (name : Str) : (getL name es).isSome = true := by
  unfold getL
  split
  · rfl
  · rw [if_neg (by rw [h.noRef]; exact Bool.false_ne_true)]; rfl
theorem FRel.get : ∀ {es : List DictEntry} {fs : List (Nat × V)} {f : Nat} {v : V}, FRel es fs → f < nmN → getFs f fs = some v → ∃ rv, getL (nm f) es = some (some rv) ∧ ab rv = some v
  | [], [], f, v, _, _, e => nomatch e
  | e :: es, (g, w) :: fs, f, v, ⟨⟨t, h1⟩, h2, h3, h4⟩, hf, q => by
    have hk := isStr_nm h1 h2 hf
    unfold getFs at q
    unfold getL
    rw [List.find?_cons]
    by_cases hg : g = f
    · rw [if_pos hg] at q
      cases q
      rw [hk, decide_eq_true hg]
      exact ⟨_, rfl, h3⟩
    · rw [if_neg hg] at q
      rw [hk, decide_eq_false hg]
      refine e1_2 (h4.get hf q) fun rv a b => ?_
      refine ⟨rv, ?_, b⟩
      unfold getL at a
      rw [List.any_cons, show e.refKey = false by simp [DictEntry.refKey, h1], Bool.false_or]
      exact a
  | [], _ :: _, _, _, h, _, _ => h.elim
  | _ :: _, [], _, _, h, _, _ => h.elim
theorem FRel.put {hsh : Int} {t : Tok} {rv : Value} {v : V} {f : Nat} (hf : f < nmN) (hv : ab rv = some v) : ∀ {es : List DictEntry} {fs : List (Nat × V)}, FRel es fs → FRel (putL (nm f) hsh (.str (nm f) t) rv es) (putFs f v fs)
  | [], [], _ => ⟨⟨t, rfl⟩, hf, hv, trivial⟩
  | e :: es, (g, w) :: fs, ⟨⟨t', h1⟩, h2, h3, h4⟩ => by
    have hk := isStr_nm h1 h2 hf
    unfold putL putFs
    by_cases hg : g = f
    · rw [hk, decide_eq_true hg, if_pos rfl, if_pos hg]
      exact ⟨⟨t', h1⟩, h2, hv, h4⟩
    · rw [hk, decide_eq_false hg, if_neg Bool.false_ne_true, if_neg hg]
      exact ⟨⟨t', h1⟩, h2, h3, h4.put hf hv⟩
  | [], _ :: _, h => h.elim
  | _ :: _, [], h => h.elim
theorem putFs_len (f : Nat) (v : V) : ∀ fs : List (Nat × V), (putFs f v fs).length ≤ fs.length + 1
  | [] => Nat.le_refl _
  | (g, w) :: r => by
    unfold putFs
    by_cases hg : g = f
    · rw [if_pos hg]; exact Nat.le_succ _
    · rw [if_neg hg]; exact Nat.succ_le_succ (putFs_len f v r)

/-- an abstract object in a ledger -/
noncomputable def OM (K : Frag) (D : Nat → Nat) (led : List (Addr × Obj)) (a : Nat) : O → Prop
  | .inst C fs => ∃ ca, clsA K C = some ca ∧ (a, instObj ca (D a)) ∈ led ∧ ∃ es n, (D a, dictOf es n) ∈ led ∧ FRel es fs
  | .list xs => ∃ vs n, (a, lstO vs n) ∈ led ∧ vs.map ab = xs.map some
  | .tup xs => ∃ vs n, (a, tupO vs n) ∈ led ∧ vs.map ab = xs.map some
noncomputable def isInst : Option O → Prop
  | some (.inst _ _) => True
  | _ => False
structure RepD (K : Frag) (h : H) (led : List (Addr × Obj)) (D : Nat → Nat) : Prop where
  inj : ∀ a b, isInst (h a) → isInst (h b) → D a = D b → a = b
  om : ∀ a o, h a = some o → OM K D led a o
structure Cx (K : Frag) (h₀ : Heap) : Prop where
  X : K.In h₀
  T : ∃ p loose mg mb, TopRead p loose mg mb h₀

structure At (K : Frag) (h₀ : Heap) (L : Addr) (X : List (Addr × Obj)) (m : Str → Option Value) (h : H) (hp : Heap) : Prop where
  cx : Cx K h₀
  fr : Fr h₀ L hp m
  led : ∃ led D, News h₀ L hp (X ++ led) ∧ ((X ++ led).map (·.1)).Nodup ∧ RepD K h led D

noncomputable def repl (d : Addr) (o : Obj) (l : List (Addr × Obj)) : List (Addr × Obj) := l.map fun p => if p.1 = d then (d, o) else p
theorem repl_fst (d : Addr) (o : Obj) : ∀ l : List (Addr × Obj), (repl d o l).map (·.1) = l.map (·.1)
  | [] => rfl
  | p :: r => by
    unfold repl
    simp only [List.map_cons]
    rw [show (r.map fun p => if p.1 = d then (d, o) else p) = repl d o r from rfl, repl_fst d o r]
    congr 1
    split
    · rename_i h; exact h.symm
    · rfl
theorem repl_off {d : Addr} {o : Obj} : ∀ {l : List (Addr × Obj)}, d ∉ l.map (·.1) → repl d o l = l
  | [], _ => rfl
  | p :: r, h => by
    unfold repl
    rw [List.map_cons, show (r.map fun p => if p.1 = d then (d, o) else p) = repl d o r from rfl, repl_off fun q => h (List.mem_cons_of_mem _ q), if_neg fun e => h (by rw [List.map_cons, e]; exact List.mem_cons_self)]
theorem repl_append (d : Addr) (o : Obj) (a b : List (Addr × Obj)) : repl d o (a ++ b) = repl d o a ++ repl d o b := List.map_append
theorem repl_mem {d b : Addr} {o x : Obj} {l : List (Addr × Obj)} (h : (b, x) ∈ l) (n : b ≠ d) : (b, x) ∈ repl d o l := by
  have := List.mem_map_of_mem (f := fun p : Addr × Obj => if p.1 = d then (d, o) else p) h
  rwa [if_neg (show ¬ (b, x).1 = d from n)] at this
theorem repl_self {d : Addr} {o x : Obj} {l : List (Addr × Obj)} (h : (d, x) ∈ l) : (d, o) ∈ repl d o l := by
  have := List.mem_map_of_mem (f := fun p : Addr × Obj => if p.1 = d then (d, o) else p) h
  rwa [if_pos rfl] at this
theorem uniq {l : List (Addr × Obj)} {d : Addr} {x y : Obj} (nd : (l.map (·.1)).Nodup) (h1 : (d, x) ∈ l) (h2 : (d, y) ∈ l) : x = y := by
  induction l with
  | nil => cases h1
  | cons p r ih =>
    rw [List.map_cons, List.nodup_cons] at nd
    rcases List.mem_cons.mp h1 with e1 | h1
    · rcases List.mem_cons.mp h2 with e2 | h2
      · have := e1.trans e2.symm; exact (Prod.mk.inj this).2
      · exact absurd (List.mem_map_of_mem (f := (·.1)) h2) (by rw [← e1] at nd; exact nd.1)
    · rcases List.mem_cons.mp h2 with e2 | h2
      · exact absurd (List.mem_map_of_mem (f := (·.1)) h1) (by rw [← e2] at nd; exact nd.1)
      · exact ih nd.2 h1 h2
theorem upd_of {l : List (Addr × Obj)} {d : Addr} {o o' : Obj} (nd : (l.map (·.1)).Nodup) (h : (d, o) ∈ l) : Upd d o o' l (repl d o' l) := by
  induction l with
  | nil => cases h
  | cons p r ih =>
    rw [List.map_cons, List.nodup_cons] at nd
    rcases List.mem_cons.mp h with e | h
    · subst e
      have off : d ∉ r.map (·.1) := nd.1
      have : repl d o' ((d, o) :: r) = (d, o') :: r := by
        show (if (d, o).1 = d then (d, o') else (d, o)) :: repl d o' r = _
        rw [if_pos rfl, repl_off off]
      rw [this]
      exact .head fun q hq e => off (e ▸ List.mem_map_of_mem (f := (·.1)) hq)
    · have hne : p.1 ≠ d := fun e => nd.1 (by rw [e]; exact List.mem_map_of_mem (f := (·.1)) h)
      have : repl d o' (p :: r) = p :: repl d o' r := by
        show (if p.1 = d then (d, o') else p) :: repl d o' r = _
        rw [if_neg hne]
      rw [this]
      exact .tail hne (ih nd.2 h)
theorem mem_off {l : List (Addr × Obj)} {X : List (Addr × Obj)} {d : Addr} {o : Obj} (nd : ((X ++ l).map (·.1)).Nodup) (h : (d, o) ∈ l) : d ∉ X.map (·.1) := fun q => by
  rw [List.map_append] at nd
  exact (List.nodup_append.mp nd).2.2 _ q _ (List.mem_map_of_mem (f := (·.1)) h) rfl
theorem nd_right {l X : List (Addr × Obj)} (nd : ((X ++ l).map (·.1)).Nodup) : (l.map (·.1)).Nodup := by
  rw [List.map_append] at nd; exact (List.nodup_append.mp nd).2.1

/-- the ledger after a change of one object -/
theorem upd_led {X led : List (Addr × Obj)} {d : Addr} {o o' : Obj} (nd : ((X ++ led).map (·.1)).Nodup) (h : (d, o) ∈ led) :
    Upd d o o' (X ++ led) (X ++ repl d o' led) ∧ ((X ++ repl d o' led).map (·.1)).Nodup := by
  have := upd_of (o' := o') nd (List.mem_append_right X h)
  rw [repl_append, repl_off (mem_off nd h)] at this
  refine ⟨this, ?_⟩
  rw [List.map_append, repl_fst, ← List.map_append]; exact nd

end Mine

namespace Mine
open PySem PySem.W PySem.Calls PyProof.Rows

section
variable {K : Frag} {h₀ hp hp' : Heap} {L : Addr} {X led : List (Addr × Obj)} {m m' : Str → Option Value} {h : H} {D : Nat → Nat}

theorem OM.kind {led : List (Addr × Obj)} {a : Nat} {o : O} (x : OM K D led a o) : ∃ ob, (a, ob) ∈ led := match o, x with
  | .inst _ _, ⟨_, _, h, _⟩ => ⟨_, h⟩
  | .list _, ⟨_, _, h, _⟩ => ⟨_, h⟩
  | .tup _, ⟨_, _, h, _⟩ => ⟨_, h⟩
theorem OM.mono {led led' : List (Addr × Obj)} {a : Nat} {o : O} (x : OM K D led a o) (k : ∀ p ∈ led, p ∈ led') : OM K D led' a o := match o, x with
  | .inst _ _, ⟨ca, h1, h2, es, n, h3, h4⟩ => ⟨ca, h1, k _ h2, es, n, k _ h3, h4⟩
  | .list _, ⟨vs, n, h, e⟩ => ⟨vs, n, k _ h, e⟩
  | .tup _, ⟨vs, n, h, e⟩ => ⟨vs, n, k _ h, e⟩
/-- an object of the ledger that is another's stays what it is -/
theorem OM.repl {led : List (Addr × Obj)} {a d : Nat} {o : O} {ob ob' : Obj} (x : OM K D led a o) (hd : (d, ob) ∈ led) (hne : a ≠ d)
    (hD : ∀ C fs, o = .inst C fs → D a ≠ d) : OM K D (repl d ob' led) a o := match o, x with
  | .inst C fs, ⟨ca, h1, h2, es, n, h3, h4⟩ => ⟨ca, h1, repl_mem h2 hne, es, n, repl_mem h3 (hD C fs rfl), h4⟩
  | .list _, ⟨vs, n, h, e⟩ => ⟨vs, n, repl_mem h hne, e⟩
  | .tup _, ⟨vs, n, h, e⟩ => ⟨vs, n, repl_mem h hne, e⟩

theorem isInst_set_list {a b : Nat} {xs : List V} (x : isInst (h.set a (.list xs) b)) : b ≠ a ∧ isInst (h b) := by
  by_cases e : b = a
  · subst e; rw [H.set_self] at x; exact x.elim
  · rw [H.set_ne e] at x; exact ⟨e, x⟩
theorem isInst_set_tup {a b : Nat} {xs : List V} (x : isInst (h.set a (.tup xs) b)) : b ≠ a ∧ isInst (h b) := by
  by_cases e : b = a
  · subst e; rw [H.set_self] at x; exact x.elim
  · rw [H.set_ne e] at x; exact ⟨e, x⟩

theorem RepD.set_list {a n n' : Nat} {vs vs' : List Value} {xs' : List V} (R : RepD K h led D) (nd : (led.map (·.1)).Nodup) (ha : (a, lstO vs n) ∈ led) (hv : vs'.map ab = xs'.map some) :
    RepD K (h.set a (.list xs')) (repl a (lstO vs' n') led) D where
  inj := fun b c hb hc e => R.inj b c (isInst_set_list hb).2 (isInst_set_list hc).2 e
  om := fun b o e => by
    by_cases hba : b = a
    · subst hba
      rw [H.set_self] at e
      cases e
      exact ⟨vs', n', repl_self ha, hv⟩
    · rw [H.set_ne hba] at e
      have x := R.om b o e
      refine x.repl ha hba fun C fs eo => ?_
      subst eo
      obtain ⟨_, _, _, es, k, h3, _⟩ := x
      intro q
      rw [q] at h3
      have := uniq nd h3 ha
      simp [dictOf, W.listOf] at this
theorem RepD.set_inst {a C C' : Nat} {n' : Nat} {fs fs' : List (Nat × V)} {es es' : List DictEntry} {n : Nat} (R : RepD K h led D) (nd : (led.map (·.1)).Nodup) (e0 : h a = some (.inst C fs)) (hd : (D a, dictOf es n) ∈ led)
    (hC : C' = C) (hv : FRel es' fs') : RepD K (h.set a (.inst C' fs')) (repl (D a) (dictOf es' n') led) D := by
  subst hC
  have x0 := R.om a _ e0
  refine e1_3 x0 fun ca h1 h2 _ => ?_
  clear x0
  have hI : ∀ b, isInst (h.set a (.inst C' fs') b) → isInst (h b) := fun b hb => by
    by_cases e : b = a
    · subst e; rw [e0]; trivial
    · rw [H.set_ne e] at hb; exact hb
  refine ⟨fun b c hb hc e => R.inj b c (hI b hb) (hI c hc) e, fun b o e => ?_⟩
  by_cases hba : b = a
  · subst hba
    rw [H.set_self] at e
    cases e
    refine ⟨ca, h1, repl_mem h2 fun q => ?_, es', n', repl_self hd, hv⟩
    have := uniq nd (q ▸ h2 : (D b, instObj ca (D b)) ∈ led) hd
    simp [dictOf, instObj] at this
  · rw [H.set_ne hba] at e
    have x := R.om b o e
    refine x.repl hd (fun q => ?_) fun C fs eo q => ?_
    · subst q
      cases o with
      | inst C fs => obtain ⟨_, _, h2', _⟩ := x; have := uniq nd h2' hd; simp [dictOf, instObj] at this
      | list xs => obtain ⟨_, _, h2', _⟩ := x; have := uniq nd h2' hd; simp [dictOf, W.listOf] at this
      | tup xs => obtain ⟨_, _, h2', _⟩ := x; have := uniq nd h2' hd; simp [dictOf] at this
    · subst eo
      exact hba (R.inj b a (by rw [e]; trivial) (by rw [e0]; trivial) q)

theorem RepD.lt {a : Nat} {o : O} (R : RepD K h led D) (N : News h₀ L hp (X ++ led)) (e : h a = some o) : a < hp.objs.size := by
  obtain ⟨ob, hm⟩ := (R.om a o e).kind
  exact Heap.lt_size (N _ (List.mem_append_right _ hm)).1
theorem At.fresh (S : At K h₀ L X m h hp) : h hp.objs.size = none := by
  refine e2_3 S.led fun led D N nd R => ?_
  cases q : h hp.objs.size with
  | none => rfl
  | some o => exact absurd (R.lt N q) (Nat.lt_irrefl _)
theorem At.fresh_ge (S : At K h₀ L X m h hp) {a : Nat} (ha : hp.objs.size ≤ a) : h a = none := by
  refine e2_3 S.led fun led D N nd R => ?_
  cases q : h a with
  | none => rfl
  | some o => exact absurd (R.lt N q) (Nat.not_lt.mpr ha)

/-- a new list or tuple -/
theorem RepD.add {a : Nat} {o : O} {ob : Obj} (R : RepD K h led D) (hn : ¬ isInst (some o)) (hO : OM K D [(a, ob)] a o) : RepD K (h.set a o) ((a, ob) :: led) D := by
  have hI : ∀ b, isInst (h.set a o b) → b ≠ a ∧ isInst (h b) := fun b hb => by
    by_cases e : b = a
    · subst e; rw [H.set_self] at hb; exact (hn hb).elim
    · rw [H.set_ne e] at hb; exact ⟨e, hb⟩
  refine ⟨fun b c hb hc e => R.inj b c (hI b hb).2 (hI c hc).2 e, fun b o' e => ?_⟩
  by_cases hba : b = a
  · subst hba
    rw [H.set_self] at e
    cases e
    exact hO.mono fun p hp => by rw [List.mem_singleton.mp hp]; exact List.mem_cons_self
  · rw [H.set_ne hba] at e
    exact (R.om b o' e).mono fun p hp => List.mem_cons_of_mem _ hp
theorem news_perm {a : Addr × Obj} (N : News h₀ L hp (a :: (X ++ led))) : News h₀ L hp (X ++ a :: led) := fun p hp => N p (by
  rcases List.mem_append.mp hp with q | q
  · exact List.mem_cons_of_mem _ (List.mem_append_left _ q)
  · rcases List.mem_cons.mp q with q | q
    · rw [q]; exact List.mem_cons_self
    · exact List.mem_cons_of_mem _ (List.mem_append_right _ q))
theorem nd_add {a : Addr} {o : Obj} (nd : ((X ++ led).map (·.1)).Nodup) (hl : ∀ p ∈ X ++ led, p.1 < a) : ((X ++ (a, o) :: led).map (·.1)).Nodup := by
  have e : ((X ++ (a, o) :: led).map (·.1)).Perm (a :: ((X ++ led).map (·.1))) := by
    rw [List.map_append, List.map_cons, List.map_append]
    exact List.perm_middle
  refine e.nodup_iff.mpr (List.nodup_cons.mpr ⟨fun q => ?_, nd⟩)
  refine e1_2 (List.mem_map.mp q) fun p hp e => ?_
  exact absurd (hl p hp) (by rw [e]; exact Nat.lt_irrefl _)

/-- what an evaluation hands on -/
noncomputable def Rest (s s' : Shared) : Prop := s'.gens = s.gens ∧ s'.os = s.os
theorem Rest.refl (s : Shared) : Rest s s := ⟨rfl, rfl⟩
theorem Rest.trans {a b c : Shared} (x : Rest a b) (y : Rest b c) : Rest a c := ⟨y.1.trans x.1, y.2.trans x.2⟩
noncomputable def Post (K : Frag) (h₀ : Heap) (L : Addr) (X : List (Addr × Obj)) (m : Str → Option Value) (s : Shared) (Q : V → H → Prop) (v : Value) (s' : Shared) : Prop :=
  ∃ av h', ab v = some av ∧ At K h₀ L X m h' s'.heap ∧ Rest s s' ∧ Q av h'
theorem Post.intro {s s' : Shared} {Q : V → H → Prop} {v : Value} {av : V} {h' : H} (a : ab v = some av) (b : At K h₀ L X m h' s'.heap) (q : Q av h') (r : Rest s s' := by exact ⟨rfl, rfl⟩) : Post K h₀ L X m s Q v s' := ⟨av, h', a, b, r, q⟩
theorem Post.from {s s₁ s' : Shared} {Q : V → H → Prop} {v : Value} (r : Rest s s₁) (p : Post K h₀ L X m s₁ Q v s') : Post K h₀ L X m s Q v s' := let ⟨av, h', a, b, r', q⟩ := p; ⟨av, h', a, b, r.trans r', q⟩
theorem bindP {prog : Program} {w : World} {A : Around} {t : Sem Value} {R : Value → Shared → Prop} {E : Value → Shared → Prop} {s : Shared} {s₀ : Shared} {Q : V → H → Prop} (p : wpAny (model prog w) A t (Post K h₀ L X m s Q) E s₀)
    (k : ∀ rv s₁ av h1, ab rv = some av → At K h₀ L X m h1 s₁.heap → Rest s s₁ → Q av h1 → R rv s₁) : wpAny (model prog w) A t R E s₀ := wpAny_mono p (fun rv s₁ ⟨av, h1, a, b, r, q⟩ => k rv s₁ av h1 a b r q) fun _ _ x => x
end

section
variable {prog : Program} {w : World} {A : Around} {E : Value → Shared → Prop} {K : Frag} {h₀ : Heap} {L : Addr} {X : List (Addr × Obj)} {m : Str → Option Value} {h : H} {s : Shared} {Q : V → H → Prop}

theorem newList_S {vs : List Value} {xs : List V} (S : At K h₀ L X m h s.heap) (hv : vs.map ab = xs.map some) (hz : vs.length ≤ lim) (q : newO h (.list xs) Q) :
    wpAny (model prog w) A (newList vs) (Post K h₀ L X m s Q) E s := by
  refine e2_3 S.led fun led D N nd R => ?_
  refine newList_N S.fr N (fun h' F' N' => ?_) (Nat.le_trans hz (by decide))
  exact Post.intro rfl ⟨S.cx, F', _, D, news_perm N', nd_add nd fun p hp => Heap.lt_size (N p hp).1, R.add (o := .list xs) (fun z => z) ⟨vs, 0, List.mem_singleton.mpr rfl, hv⟩⟩ (q _ S.fresh)
theorem newTuple_S {vs : List Value} {xs : List V} (S : At K h₀ L X m h s.heap) (hv : vs.map ab = xs.map some) (hz : vs.length ≤ lim) (q : newO h (.tup xs) Q) :
    wpAny (model prog w) A (newTuple vs) (Post K h₀ L X m s Q) E s := by
  refine e2_3 S.led fun led D N nd R => ?_
  refine newTuple_N S.fr N (fun h' F' N' => ?_) (Nat.le_trans hz (by decide))
  exact Post.intro rfl ⟨S.cx, F', _, D, news_perm N', nd_add nd fun p hp => Heap.lt_size (N p hp).1, R.add (o := .tup xs) (fun z => z) ⟨vs, 0, List.mem_singleton.mpr rfl, hv⟩⟩ (q _ S.fresh)

noncomputable def fieldOk (K : Frag) (f C : Nat) : Bool := match clsA K C with
  | some ca => findIn K (.ref ca) "__setattr__" == some (some (.builtin "object.__setattr__")) && plainOver K ca && takerIn K ca (nm f) == some none && hasDictIn K ca && plainGet K ca (nm f) && findIn K (.ref ca) (nm f) == some none
  | none => true
noncomputable def FieldOk (K : Frag) (f : Nat) : Prop := f < nmN ∧ ∀ C, C < 3 → fieldOk K f C = true
theorem clsA_lt {C : Nat} {ca : Addr} (e : clsA K C = some ca) : C < 3 := by
  unfold clsA at e
  split at e
  · assumption
  · cases e
theorem FieldOk.at {f C : Nat} {ca : Addr} (x : FieldOk K f) (e : clsA K C = some ca) :
    findIn K (.ref ca) "__setattr__" = some (some (.builtin "object.__setattr__")) ∧ plainOver K ca = true ∧ takerIn K ca (nm f) = some none ∧ hasDictIn K ca = true ∧ plainGet K ca (nm f) = true ∧ findIn K (.ref ca) (nm f) = some none := by
  have := x.2 C (clsA_lt e)
  unfold fieldOk at this
  rw [e] at this
  simp only [Bool.and_eq_true, beq_iff_eq] at this
  obtain ⟨⟨⟨⟨⟨a, b⟩, c⟩, d⟩, e⟩, f⟩ := this
  exact ⟨a, b, c, d, e, f⟩

theorem getAttr_S {rv : Value} {v x : V} {f : Nat} {b : Bool} (S : At K h₀ L X m h s.heap) (hf : FieldOk K f) (hv : ab rv = some v) (e : getF h v f = some x) (q : Q x h) :
    wpAny (model prog w) A (getAttr rv (nm f) b) (Post K h₀ L X m s Q) E s := by
  refine e2_3 S.led fun led D N nd R => ?_
  cases v with
  | ref a =>
    rw [ab_ref hv]
    unfold getF at e
    dsimp only at e
    set_option tactic.hygienic true in split at e
    · rename_i C fs ea
      obtain ⟨ca, h1, h2, es, n, h3, h4⟩ := R.om a _ ea
      refine e0_6 (hf.at h1) fun k1 k2 k3 k4 k5 k6 => ?_
      refine e1_2 (h4.get hf.1 e) fun rv' g1 g2 => ?_
      have I := InstAt.of_news N (List.mem_append_right _ h2) (List.mem_append_right X h3)
      exact get_own S.fr S.cx.X I k5 k4 k6 rfl g1 (ab_handed g2) (Post.intro g2 S q)
    · cases e
  | _ => cases e

theorem setAttr_S {rv ro : Value} {v o : V} {f : Nat} {h' : H} {Q : Unit → Shared → Prop} (S : At K h₀ L X m h s.heap) (hf : FieldOk K f) (hv : ab rv = some v) (ho : ab ro = some o) (e : setF h o f v = some h')
    (q : ∀ s', At K h₀ L X m h' s'.heap → Rest s s' → Q () s') :
    wpAny (model prog w) A (setAttr ro (nm f) rv) Q E s := by
  refine e2_3 S.led fun led D N nd R => ?_
  cases o with
  | ref a =>
    rw [ab_ref ho]
    unfold setF at e
    dsimp only at e
    set_option tactic.hygienic true in split at e
    · rename_i C fs ea
      set_option tactic.hygienic true in split at e
      · rename_i hlen
        cases e
        obtain ⟨ca, h1, h2, es, n, h3, h4⟩ := R.om a _ ea
        refine e0_6 (hf.at h1) fun k1 k2 k3 k4 k5 k6 => ?_
        have I := InstAt.of_news N (List.mem_append_right _ h2) (List.mem_append_right X h3)
        have hput := h4.put (hsh := PyData.keyHash w.params (nm f)) (t := s.toks + 1) hf.1 hv
        obtain ⟨U, nd'⟩ := upd_led (o' := dictOf (putL (nm f) (PyData.keyHash w.params (nm f)) (.str (nm f) (s.toks + 1)) rv es) (putN (nm f) es n)) nd h3
        refine set_dict S.fr S.cx.X N I rfl k1 k2 k3 k4 (h4.getL_isSome _) rfl U ?_ fun h'' F' N' => q _ ⟨S.cx, F', _, D, N', nd', R.set_inst (nd_right nd) ea h3 rfl hput⟩ ⟨rfl, rfl⟩
        rw [hput.len]
        exact Nat.le_trans (putFs_len _ _ _) (by lia)
      · cases e
    · cases e
  | _ => cases e
end
end Mine

namespace Mine
open PySem PySem.W PySem.Calls PyProof.Rows

section
variable {prog : Program} {w : World} {A : Around} {E : Value → Shared → Prop} {K : Frag} {h₀ : Heap} {L : Addr} {X : List (Addr × Obj)} {m : Str → Option Value} {h : H} {s : Shared} {Q : V → H → Prop}

theorem At.list {a : Nat} {xs : List V} (S : At K h₀ L X m h s.heap) (e : h a = some (.list xs)) : ∃ vs : List Value, s.heap.IsList a vs.toArray ∧ vs.map ab = xs.map some := by
  refine e2_3 S.led fun led D N nd R => ?_
  refine e2_2 (R.om a _ e) fun vs n hm hv => ?_
  exact ⟨vs, ⟨_, (N _ (List.mem_append_right _ hm)).1, rfl, _, rfl⟩, hv⟩
theorem At.tup {a : Nat} {xs : List V} (S : At K h₀ L X m h s.heap) (e : h a = some (.tup xs)) : ∃ vs : List Value, IsTup s.heap a vs.toArray ∧ vs.map ab = xs.map some := by
  refine e2_3 S.led fun led D N nd R => ?_
  refine e2_2 (R.om a _ e) fun vs n hm hv => ?_
  exact ⟨vs, ⟨_, (N _ (List.mem_append_right _ hm)).1, rfl, _, rfl⟩, hv⟩
theorem At.alive {a : Nat} {o : O} (S : At K h₀ L X m h s.heap) (e : h a = some o) : ∃ ob, s.heap.get? a = some ob := by
  refine e2_3 S.led fun led D N nd R => ?_
  obtain ⟨ob, hm⟩ := (R.om a _ e).kind
  exact ⟨ob, (N _ (List.mem_append_right _ hm)).1⟩
theorem At.instOb {a C : Nat} {fs : List (Nat × V)} (S : At K h₀ L X m h s.heap) (e : h a = some (.inst C fs)) : ∃ ob c, s.heap.get? a = some ob ∧ ob.cls = .ref c := by
  refine e2_3 S.led fun led D N nd R => ?_
  refine e1_3 (R.om a _ e) fun ca h1 h2 _ => ?_
  exact ⟨_, ca, (N _ (List.mem_append_right _ h2)).1, rfl⟩
theorem listAt_ref {v : V} {xs : List V} (e : listAt h v = some xs) : ∃ a, v = .ref a ∧ h a = some (.list xs) := by
  cases v with
  | ref a =>
    refine ⟨a, rfl, ?_⟩
    unfold listAt at e
    dsimp only at e
    set_option tactic.hygienic true in split at e
    · rename_i q; cases e; exact q
    · cases e
  | _ => cases e
theorem intOf_inv {v : V} {i : Int} (e : intOf v = some i) : v = .int i := by cases v with
  | int x => exact congrArg V.int (Option.some.inj e)
  | _ => exact no e
theorem tupAt_ref {v : V} {xs : List V} (e : tupAt h v = some xs) : ∃ a, v = .ref a ∧ h a = some (.tup xs) := by
  cases v with
  | ref a =>
    refine ⟨a, rfl, ?_⟩
    unfold tupAt at e
    dsimp only at e
    set_option tactic.hygienic true in split at e
    · rename_i q; cases e; exact q
    · cases e
  | _ => cases e
theorem itemsOf_ref {v : V} {xs : List V} (e : itemsOf h v = some xs) : ∃ a, v = .ref a ∧ (h a = some (.list xs) ∨ h a = some (.tup xs)) := by
  cases v with
  | ref a =>
    refine ⟨a, rfl, ?_⟩
    unfold itemsOf at e
    dsimp only at e
    set_option tactic.hygienic true in split at e
    · rename_i q; cases e; exact .inl q
    · rename_i q; cases e; exact .inr q
    · cases e
  | _ => cases e
theorem ab_len {vs : List Value} {xs : List V} (h : vs.map ab = xs.map some) : vs.length = xs.length := by
  have := congrArg List.length h
  simpa using this
theorem ab_get {vs : List Value} {xs : List V} (h : vs.map ab = xs.map some) {i : Nat} {x : V} (e : xs[i]? = some x) : ∃ v, vs[i]? = some v ∧ ab v = some x := by
  have := congrArg (fun l : List (Option V) => l[i]?) h
  simp only [List.getElem?_map, e, Option.map_some] at this
  cases q : vs[i]? with
  | none => rw [q] at this; cases this
  | some v => rw [q] at this; exact ⟨v, rfl, Option.some.inj this⟩
theorem ab_app {vs ws : List Value} {xs ys : List V} (h : vs.map ab = xs.map some) (g : ws.map ab = ys.map some) : (vs ++ ws).map ab = (xs ++ ys).map some := by
  rw [List.map_append, List.map_append, h, g]
theorem ab_ints {vs : List Value} : ∀ {xs : List V} {ns : List Int}, vs.map ab = xs.map some → intsOf xs = some ns → IntsAre vs ns := by
  induction vs with
  | nil => intro xs ns h e; cases xs with
    | nil => cases e; exact .nil
    | cons _ _ => cases h
  | cons v vs ih =>
    intro xs ns h e
    cases xs with
    | nil => cases h
    | cons x xs =>
      simp only [List.map_cons, List.cons.injEq] at h
      set_option tactic.hygienic true in cases x <;> first | (simp only [intsOf] at e; cases e) | skip
      rename_i i
      simp only [intsOf, Option.map_eq_some_iff] at e
      refine e1_2 e fun ns' e1 e92 => ?_
      clear e
      obtain rfl := e92
      obtain ⟨t, rfl⟩ := ab_int h.1
      exact .cons _ _ (ih h.2 e1)

/-- the list object in the ledger -/
theorem At.listObj {a : Nat} {xs : List V} {hp : Heap} (S : At K h₀ L X m h hp) (e : h a = some (.list xs)) : ∃ (vs : List Value) (n : Nat) (led : List (Addr × Obj)) (D : Nat → Nat),
    vs.map ab = xs.map some ∧ (a, lstO vs n) ∈ led ∧ News h₀ L hp (X ++ led) ∧ ((X ++ led).map (·.1)).Nodup ∧ RepD K h led D := by
  refine e2_3 S.led fun led D N nd R => ?_
  refine e2_2 (R.om a _ e) fun vs n hm hv => ?_
  exact ⟨vs, n, led, D, hv, hm, N, nd, R⟩

noncomputable def opM : Op → Operator
  | .add => .Add
  | .sub => .Sub
  | .mul => .Mult
  | .fdiv => .FloorDiv
  | .mod => .Mod
theorem div_small {a b : Int} (h : 0 < b) (h' : b ≤ 1000000) : Builtin.divisionGoesByPylong a b = false := by
  unfold Builtin.divisionGoesByPylong
  simp only [Bool.and_eq_false_iff]
  left
  apply decide_eq_false
  have h1 : b.natAbs.log2 ≤ 20 := by
    have : b.natAbs ≠ 0 := by lia
    have := Nat.log2_lt this (k := 20)
    have : b.natAbs < 2 ^ 20 := by omega
    exact Nat.le_of_lt (by simp_all)
  split <;> lia

theorem binop_S {op : Op} {ra rb : Value} {a b : V} (S : At K h₀ L X m h s.heap) (ha : ab ra = some a) (hb : ab rb = some b) (q : binop op a b h Q) :
    wpAny (model prog w) A (binaryOp (opM op) ra rb) (Post K h₀ L X m s Q) E s := by
  cases op with
  | sub => obtain ⟨x, y, rfl, rfl, q⟩ := intsP_inv q; obtain ⟨t, rfl⟩ := ab_int ha; obtain ⟨u, rfl⟩ := ab_int hb; exact sub_int (Post.intro rfl S q)
  | mul =>
    obtain ⟨x, y, rfl, rfl, ⟨b1, b2, b3, b4⟩, q⟩ := intsP_inv q; obtain ⟨t, rfl⟩ := ab_int ha; obtain ⟨u, rfl⟩ := ab_int hb
    exact PyProof.Rows.mul_int (Post.intro rfl S q) (.of_left (intBits_le_64 (by lia) (by lia)))
  | fdiv =>
    obtain ⟨x, y, rfl, rfl, b1, q⟩ := intsP_inv q; obtain ⟨t, rfl⟩ := ab_int ha; obtain ⟨u, rfl⟩ := ab_int hb
    exact floordiv_int (Int.ne_of_gt b1.1) (Post.intro rfl S q) (.inl (div_small b1.1 b1.2))
  | mod =>
    obtain ⟨x, y, rfl, rfl, b1, q⟩ := intsP_inv q; obtain ⟨t, rfl⟩ := ab_int ha; obtain ⟨u, rfl⟩ := ab_int hb
    exact mod_int' (Int.ne_of_gt b1) (Post.intro rfl S q)
  | add =>
    cases a with
    | int x => cases b with
      | int y => obtain ⟨t, rfl⟩ := ab_int ha; obtain ⟨u, rfl⟩ := ab_int hb; exact add_int (Post.intro rfl S q)
      | _ => exact q.elim
    | ref x => cases b with
      | ref y =>
        rw [ab_ref ha, ab_ref hb]
        refine e1_2 (need_ex q) fun xs e1 q => ?_
        refine e1_3 (need_ex q) fun ys e2 hl hq => ?_
        refine e1_2 (listAt_ref e1) fun _ q1 e3 => ?_
        refine e1_2 (listAt_ref e2) fun _ q2 e4 => ?_
        cases q1; cases q2
        refine e1_2 (S.list e3) fun vs L1 hv => ?_
        refine e1_2 (S.list e4) fun us L2 hu => ?_
        refine e2_3 S.led fun led D N nd R => ?_
        refine add_arrays S.fr N L1 L2 (fun h' F' N' => ?_) (by rw [List.size_toArray, List.size_toArray, sizeLine_eq, ab_len hv, ab_len hu]; exact Nat.le_trans hl (by decide))
        exact Post.intro rfl ⟨S.cx, F', _, D, news_perm N', nd_add nd fun p hp => Heap.lt_size (N p hp).1, R.add (o := .list (xs ++ ys)) (fun z => z) ⟨vs ++ us, 0, List.mem_singleton.mpr rfl, ab_app hv hu⟩⟩ (hq _ S.fresh)
      | _ => exact q.elim
    | _ => exact q.elim

noncomputable def cmM : Cm → CmpOp
  | .lt => .Lt
  | .le => .LtE
  | .gt => .Gt
  | .ge => .GtE
  | .eq => .Eq
  | .ne => .NotEq
  | .is => .Is
  | .isNot => .IsNot
  | .notIn => .NotIn

theorem pyIs_S {ra rb : Value} {a b : V} {c : Bool} {Q : Bool → Prop} (S : At K h₀ L X m h s.heap) (ha : ab ra = some a) (hb : ab rb = some b) (e : pyIs h a b = some c) (q : Q c) :
    wpAny (model prog w) A (compareOp .Is ra rb) (fun r s' => r = .bool c ∧ s' = s) E s ∧ wpAny (model prog w) A (compareOp .IsNot ra rb) (fun r s' => r = .bool (!c) ∧ s' = s) E s := by
  have plain : ∀ {x y : Value}, PySem.plainIs x y = true → (x == y) = c → wpAny (model prog w) A (compareOp .Is x y) (fun r s' => r = .bool c ∧ s' = s) E s ∧ wpAny (model prog w) A (compareOp .IsNot x y) (fun r s' => r = .bool (!c) ∧ s' = s) E s :=
    fun hp he => ⟨wpAny_is_plain hp ⟨by rw [he], rfl⟩, wpAny_isNot_plain hp ⟨by rw [he], rfl⟩⟩
  cases a with
  | none => cases ab_none ha; cases b with
    | none => cases ab_none hb; cases Option.some.inj e; exact plain rfl rfl
    | ref y => cases ab_ref hb; cases Option.some.inj e; exact plain rfl rfl
    | _ => exact no e
  | ref x => cases ab_ref ha; cases b with
    | none => cases ab_none hb; cases Option.some.inj e; exact plain rfl rfl
    | ref y =>
      cases ab_ref hb
      unfold pyIs at e
      dsimp only at e
      by_cases hxy : x = y
      · subst hxy
        rw [if_pos rfl] at e
        cases Option.some.inj e
        exact ⟨wpAny_is_ref_self ⟨rfl, rfl⟩, wpAny_isNot_ref_self ⟨rfl, rfl⟩⟩
      · rw [if_neg hxy] at e
        set_option tactic.hygienic true in split at e
        · rename_i q1 q2
          cases Option.some.inj e
          refine e2_2 (S.instOb q1) fun ox cx h1 h1' => ?_
          refine e2_2 (S.instOb q2) fun oy cy h2 h2' => ?_
          exact ⟨wpAny_is_ref_other hxy h1 h2 (by rw [h1']; intro z; cases z) ⟨rfl, rfl⟩, wpAny_isNot_ref_other hxy h1 h2 (by rw [h1']; intro z; cases z) ⟨rfl, rfl⟩⟩
        · exact no e
    | _ => exact no e
  | _ => exact no e

theorem intsB_S {o : CmpOp} {ra rb : Value} {a b : V} {c : Bool} {f : Int → Int → Bool} (ha : ab ra = some a) (hb : ab rb = some b) (e : intsB a b f = some c)
    (k : ∀ x y tx ty, wpAny (model prog w) A (compareOp o (.int x tx) (.int y ty)) (fun r s' => r = .bool (f x y) ∧ s' = s) E s) : wpAny (model prog w) A (compareOp o ra rb) (fun r s' => r = .bool c ∧ s' = s) E s := by
  refine e2_3 (intsB_inv e) fun x y e92 e93 e94 => ?_
  obtain rfl := e92
  obtain rfl := e93
  obtain rfl := e94
  obtain ⟨t, rfl⟩ := ab_int ha
  obtain ⟨u, rfl⟩ := ab_int hb
  exact k x y t u
theorem pyEq_inv {a b : V} {c : Bool} (e : pyEq a b = some c) : (∃ x y, a = .int x ∧ b = .int y ∧ decide (x = y) = c) ∨ (∃ x y, a = .bool x ∧ b = .bool y ∧ decide (x = y) = c) ∨ ∃ x y, a = .str x ∧ b = .str y ∧ decide (x = y) = c := by
  cases a with
  | bool x => cases b with
    | bool y => exact .inr (.inl ⟨x, y, rfl, rfl, Option.some.inj e⟩)
    | _ => exact no e
  | int x => cases b with
    | int y => exact .inl ⟨x, y, rfl, rfl, Option.some.inj e⟩
    | _ => exact no e
  | str x => cases b with
    | str y => exact .inr (.inr ⟨x, y, rfl, rfl, Option.some.inj e⟩)
    | _ => exact no e
  | _ => exact no e
theorem pyEq_S {ra rb : Value} {a b : V} {c : Bool} (ha : ab ra = some a) (hb : ab rb = some b) (e : pyEq a b = some c) : wpAny (model prog w) A (compareOp .Eq ra rb) (fun r s' => r = .bool c ∧ s' = s) E s := by
  rcases pyEq_inv e with ⟨x, y, rfl, rfl, rfl⟩ | ⟨x, y, rfl, rfl, rfl⟩ | ⟨x, y, rfl, rfl, rfl⟩
  · obtain ⟨t, rfl⟩ := ab_int ha; obtain ⟨u, rfl⟩ := ab_int hb; exact eq_int ⟨rfl, rfl⟩
  · cases ab_bool ha; cases ab_bool hb; exact eq_bool ⟨rfl, rfl⟩
  · obtain ⟨t, rfl⟩ := ab_str ha; obtain ⟨u, rfl⟩ := ab_str hb; exact eq_str ⟨rfl, rfl⟩
theorem notIn_S {ra rb : Value} {a b : V} {c : Bool} (S : At K h₀ L X m h s.heap) (ha : ab ra = some a) (hb : ab rb = some b) (e : cmpop .notIn a b h = some c) : wpAny (model prog w) A (compareOp .NotIn ra rb) (fun r s' => r = .bool c ∧ s' = s) E s := by
  refine e1_2 (Option.bind_eq_some_iff.mp e) fun x e1 e => ?_
  refine e1_2 (Option.bind_eq_some_iff.mp e) fun xs e2 e => ?_
  refine e1_2 (Option.map_eq_some_iff.mp e) fun ns e3 e92 => ?_
  obtain rfl := e92
  cases intOf_inv e1
  obtain ⟨t, rfl⟩ := ab_int ha
  refine e1_2 (listAt_ref e2) fun l e91 e4 => ?_
  obtain rfl := e91
  cases ab_ref hb
  refine e1_2 (S.list e4) fun vs L1 hv => ?_
  refine notin_list_ints L1 (ab_ints hv e3) ⟨congrArg (fun b => Value.bool (!b)) ?_, rfl⟩
  rw [Bool.eq_iff_iff, List.any_eq_true, List.contains_iff_mem]
  exact ⟨fun ⟨y, h1, h2⟩ => (beq_iff_eq.mp h2) ▸ h1, fun h1 => ⟨x, h1, beq_self_eq_true x⟩⟩
theorem cmpop_S {op : Cm} {ra rb : Value} {a b : V} {c : Bool} (S : At K h₀ L X m h s.heap) (ha : ab ra = some a) (hb : ab rb = some b) (e : cmpop op a b h = some c) :
    wpAny (model prog w) A (compareOp (cmM op) ra rb) (fun r s' => r = .bool c ∧ At K h₀ L X m h s'.heap ∧ Rest s s') E s := by
  have fin : ∀ {t : Sem Value}, wpAny (model prog w) A t (fun r s' => r = .bool c ∧ s' = s) E s → wpAny (model prog w) A t (fun r s' => r = .bool c ∧ At K h₀ L X m h s'.heap ∧ Rest s s') E s :=
    fun h => wpAny_mono h (fun r s' ⟨h1, h2⟩ => ⟨h1, by rw [h2]; exact S, by rw [h2]; exact .refl s⟩) fun _ _ x => x
  refine fin ?_
  cases op with
  | lt => exact intsB_S ha hb e fun _ _ _ _ => wpAny_lt_int ⟨rfl, rfl⟩
  | le => exact intsB_S ha hb e fun _ _ _ _ => le_int ⟨rfl, rfl⟩
  | gt => exact intsB_S ha hb e fun _ _ _ _ => gt_int ⟨rfl, rfl⟩
  | ge => exact intsB_S ha hb e fun _ _ _ _ => ge_int ⟨rfl, rfl⟩
  | ne => exact intsB_S ha hb e fun _ _ _ _ => ne_int ⟨rfl, rfl⟩
  | eq => exact pyEq_S ha hb e
  | «is» => exact (pyIs_S (Q := fun _ => True) S ha hb e trivial).1
  | isNot =>
    refine e1_2 (Option.map_eq_some_iff.mp e) fun c' e' e92 => ?_
    obtain rfl := e92
    exact (pyIs_S (Q := fun _ => True) S ha hb e' trivial).2
  | notIn => exact notIn_S S ha hb e

theorem idx_S {value slice : Expr} {ra rb : Value} {v : V} {k : Int} {xs : List V} {x : V} (S : At K h₀ L X m h s.heap) (ha : ab ra = some v) (hb : ab rb = some (.int k)) (e : itemsOf h v = some xs) (h0 : 0 ≤ k) (hl : xs.length ≤ lim) (hx : xs[k.toNat]? = some x) (q : Q x h)
    (hs : subscripted slice false ra rb = operate [ra, rb] (getItem ra rb)) : wpAny (model prog w) A (subscriptTail value slice ra rb) (Post K h₀ L X m s Q) E s := by
  obtain ⟨t, rfl⟩ := ab_int hb
  replace e := itemsOf_ref e
  obtain ⟨a, rfl, e⟩ := e
  cases ab_ref ha
  have hk : k.toNat < xs.length := by
    rcases Nat.lt_or_ge k.toNat xs.length with q | q
    · exact q
    · rw [List.getElem?_eq_none q] at hx; cases hx
  unfold lim at hl
  rcases e with e | e
  · refine e1_2 (S.list e) fun vs L1 hv => ?_
    refine e1_2 (ab_get hv hx) fun rv g1 g2 => ?_
    exact tail_any L1.typeIs slot_list_getitem.lookup (wpAny_getItem_list L1 h0 (by lia) (by simpa using g1) (Post.intro g2 S q)) hs
  · refine e1_2 (S.tup e) fun vs L1 hv => ?_
    refine e1_2 (ab_get hv hx) fun rv g1 g2 => ?_
    have hlen := ab_len hv
    exact item_tupleT (j := k.toNat) L1 (by lia) (by lia) (by
      unfold seqIndex?
      simp only
      have e1 : (if k < 0 then k + (vs.length : Int) else k) = k := if_neg (by lia)
      rw [e1, if_pos (by simp only [Bool.and_eq_true, decide_eq_true_eq]; lia)]) g1 (Post.intro g2 S q) hs

theorem take_ab {vs : List Value} {xs : List V} (h : vs.map ab = xs.map some) (n : Nat) : (vs.take n).map ab = (xs.take n).map some := by rw [List.map_take, List.map_take, h]
theorem drop_ab {vs : List Value} {xs : List V} (h : vs.map ab = xs.map some) (n : Nat) : (vs.drop n).map ab = (xs.drop n).map some := by rw [List.map_drop, List.map_drop, h]

theorem slice_S {value slice : Expr} {ra vl vu : Value} {lo hi : Option Int} {v : V} {xs ys : List V} (S : At K h₀ L X m h s.heap) (ha : ab ra = some v) (pl : IsPart vl lo) (pu : IsPart vu hi) (e : listAt h v = some xs) (hz : xs.length ≤ lim)
    (hp : ∀ vs : List Value, vs.map ab = xs.map some → ∃ us : List Value, slicePick vs.toArray lo hi none = us.toArray ∧ us.map ab = ys.map some) (q : newO h (.list ys) Q)
    (hs : ∀ r, subscripted slice false ra (.ref r) = operate [.ref r, ra] (getItem ra (.ref r))) :
    wpAny (model prog w) A (subscriptTail value slice ra (.ref s.heap.objs.size)) (Post K h₀ L X m s Q) E { s with heap := s.heap.push { cls := .type "slice", data := .fields #[vl, vu, .none] } } := by
  replace e := listAt_ref e
  obtain ⟨a, rfl, e⟩ := e
  cases ab_ref ha
  refine e4_5 (S.listObj e) fun vs n led D hv hm N nd R => ?_
  have L1 : s.heap.IsList a vs.toArray := ⟨_, (N _ (List.mem_append_right _ hm)).1, rfl, _, rfl⟩
  refine e1_2 (hp vs hv) fun us hu hau => ?_
  have hlen := ab_len hv
  refine tail_any (ops := [.ref s.heap.objs.size, .ref a]) (Heap.IsList.typeIs (s := { s with heap := s.heap.push { cls := .type "slice", data := .fields #[vl, vu, .none] } }) (L1.push _)) slot_list_getitem.lookup
    (wpAny_getItem_list_slice (L1.push _) (Heap.IsSliceOf.new ..) pl pu .none (by simp) ?_ (by rw [List.size_toArray, hlen, sizeLine_eq]; unfold lim at hz; lia)) (hs _)
  have N1 := News.push (S.fr.push { cls := .type "slice", data := .fields #[vl, vu, .none] }) (N.grown fun _ _ e => Heap.get?_push_of_some _ e) { cls := .type "list", data := .seq us.toArray }
  rw [Heap.size_push] at N1
  rw [hu]
  show Post K h₀ L X m s Q (.ref (s.heap.push _).objs.size) _
  rw [Heap.size_push]
  have hlt : ∀ p ∈ X ++ led, p.1 < s.heap.objs.size + 1 := fun p hp => Nat.lt_succ_of_lt (Heap.lt_size (N p hp).1)
  exact Post.intro rfl ⟨S.cx, (S.fr.push _).push _, _, D, news_perm N1, nd_add nd hlt, R.add (o := .list ys) (fun z => z) ⟨us, 0, List.mem_singleton.mpr rfl, hau⟩⟩ (q _ (S.fresh_ge (Nat.le_succ _)))
theorem pick_upto {vs : List Value} {xs : List V} (hv : vs.map ab = xs.map some) {k : Int} (h0 : 0 ≤ k) : ∃ us : List Value, slicePick vs.toArray none (some k) none = us.toArray ∧ us.map ab = (xs.take k.toNat).map some := by
  refine ⟨vs.take k.toNat, ?_, take_ab hv _⟩
  rw [kms_pick_eq]
  unfold kms_pick kms_lo kms_hi
  simp only [List.drop_zero, if_neg (show ¬ k < 0 by lia), Nat.sub_zero]
  rw [kmk_take_min]
theorem pick_from {vs : List Value} {xs : List V} (hv : vs.map ab = xs.map some) {k : Int} (h0 : 0 ≤ k) : ∃ us : List Value, slicePick vs.toArray (some k) none none = us.toArray ∧ us.map ab = (xs.drop k.toNat).map some := by
  refine ⟨vs.drop k.toNat, ?_, drop_ab hv _⟩
  rw [kms_pick_eq]
  unfold kms_pick kms_lo kms_hi
  simp only [if_neg (show ¬ k < 0 by lia)]
  rw [kmk_drop_min, List.take_of_length_le]
  rw [List.length_drop]
  omega

theorem len_S {rv : Value} {v : V} {xs : List V} (S : At K h₀ L X m h s.heap) (hv : ab rv = some v) (e : itemsOf h v = some xs) (hl : xs.length ≤ lim) (q : Q (.int xs.length) h) :
    wpAny (model prog w) A (call (.builtin "len") [rv]) (Post K h₀ L X m s Q) E s := by
  replace e := itemsOf_ref e
  obtain ⟨a, rfl, e⟩ := e
  cases ab_ref hv
  unfold lim at hl
  rcases e with e | e
  · refine e1_2 (S.list e) fun vs L1 hv => ?_
    have := ab_len hv
    exact call_len_list L1 (by rw [List.size_toArray, this]; lia) (Post.intro (by rw [List.size_toArray, this]; rfl) S q)
  · refine e1_2 (S.tup e) fun vs L1 hv => ?_
    have := ab_len hv
    exact len_tuple L1 (by rw [List.size_toArray, this]; lia) (Post.intro (by rw [List.size_toArray, this]; rfl) S q)
theorem abs_S {rv : Value} {i : Int} (S : At K h₀ L X m h s.heap) (hv : ab rv = some (.int i)) (q : Q (.int i.natAbs) h) :
    wpAny (model prog w) A (call (.builtin "abs") [rv]) (Post K h₀ L X m s Q) E s := by
  obtain ⟨t, rfl⟩ := ab_int hv
  exact call_abs_int fun u tk => Post.intro (by show some (V.int _) = _; congr 2; split <;> lia) S q
theorem isBool_S {rv : Value} {v : V} (S : At K h₀ L X m h s.heap) (hv : ab rv = some v) (q : isB v fun b => Q (.bool b) h) : wpAny (model prog w) A (call (.builtin "isinstance") [rv, .type "bool"]) (Post K h₀ L X m s Q) E s := by
  cases v with
  | bool _ => cases ab_bool hv; exact IsiPair.bool_bool (Post.intro rfl S q)
  | int _ => obtain ⟨t, rfl⟩ := ab_int hv; exact IsiPair.int_bool (Post.intro rfl S q)
  | str _ => obtain ⟨t, rfl⟩ := ab_str hv; exact IsiPair.str_bool (Post.intro rfl S q)
  | _ => exact q.elim
theorem listOf_S {rv : Value} {v : V} {xs : List V} (S : At K h₀ L X m h s.heap) (hv : ab rv = some v) (e : listAt h v = some xs) (hl : xs.length ≤ lim) (q : newO h (.list xs) Q) :
    wpAny (model prog w) A (call (.type "list") [rv]) (Post K h₀ L X m s Q) E s := by
  replace e := listAt_ref e
  obtain ⟨a, rfl, e⟩ := e
  cases ab_ref hv
  refine e4_5 (S.listObj e) fun vs n led D hv hm N nd R => ?_
  have L1 : s.heap.IsList a vs.toArray := ⟨_, (N _ (List.mem_append_right _ hm)).1, rfl, _, rfl⟩
  have := ab_len hv
  refine list_copyK S.fr N L1 (fun d c h' F' N' hlt => ?_) (by rw [List.size_toArray, this, sizeLine_eq]; unfold lim at hl; lia)
  refine Post.intro rfl ⟨S.cx, F', _, D, news_perm N', nd_add nd hlt, R.add (o := .list xs) (fun z => z) ⟨vs, c, List.mem_singleton.mpr rfl, hv⟩⟩ (q _ ?_)
  cases e9 : h d with
  | none => rfl
  | some o =>
    obtain ⟨ob, hm⟩ := (R.om d o e9).kind
    exact absurd (hlt _ (List.mem_append_right _ hm)) (Nat.lt_irrefl _)

theorem setList_S {a : Nat} {n n' : Nat} {vs vs' : List Value} {xs' : List V} {led : List (Addr × Obj)} {D : Nat → Nat} {h' : Heap} (cx : Cx K h₀) (F : Fr h₀ L h' m) (nd : ((X ++ led).map (·.1)).Nodup) (R : RepD K h led D) (hm : (a, lstO vs n) ∈ led)
    (N : News h₀ L h' (X ++ repl a (lstO vs' n') led)) (nd' : ((X ++ repl a (lstO vs' n') led).map (·.1)).Nodup) (hv : vs'.map ab = xs'.map some) : At K h₀ L X m (h.set a (.list xs')) h' :=
  ⟨cx, F, _, D, N, nd', R.set_list (nd_right nd) hm hv⟩
theorem append_S {ra ry : Value} {v y : V} {xs : List V} (S : At K h₀ L X m h s.heap) (ha : ab ra = some v) (hy : ab ry = some y) (e : listAt h v = some xs) (hl : xs.length < lim) (q : Q .none (setList h v (xs ++ [y]))) :
    wpAny (model prog w) A (call (.builtin "list.append") [ra, ry]) (Post K h₀ L X m s Q) E s := by
  replace e := listAt_ref e
  obtain ⟨a, rfl, e⟩ := e
  cases ab_ref ha
  refine e4_5 (S.listObj e) fun vs n led D hv hm N nd R => ?_
  obtain ⟨U, nd'⟩ := upd_led (o' := lstO (vs ++ [ry]) (n + 1)) nd hm
  have hl' := ab_len hv
  refine append_K (its := vs.toArray) S.fr N (by rw [List.push_toArray]; exact U) (fun h' F' N' => ?_) (by rw [List.size_toArray, hl', sizeLine_eq]; unfold lim at hl; lia)
  exact Post.intro rfl (setList_S S.cx F' nd R hm N' nd' (ab_app hv (by simp [hy]))) q
theorem extend_S {ra ry : Value} {v y : V} {xs ys : List V} (S : At K h₀ L X m h s.heap) (ha : ab ra = some v) (hy : ab ry = some y) (e : listAt h v = some xs) (e' : listAt h y = some ys) (hne : ys ≠ []) (hl : xs.length + ys.length < lim) (q : Q .none (setList h v (xs ++ ys))) :
    wpAny (model prog w) A (call (.builtin "list.extend") [ra, ry]) (Post K h₀ L X m s Q) E s := by
  replace e := listAt_ref e
  obtain ⟨a, rfl, e⟩ := e
  replace e' := listAt_ref e'
  obtain ⟨b, rfl, e'⟩ := e'
  cases ab_ref ha
  cases ab_ref hy
  refine e2_3 S.led fun led D N nd R => ?_
  refine e2_2 (R.om a _ e) fun vs n hm hv => ?_
  refine e2_2 (R.om b _ e') fun us k hm2 hu => ?_
  obtain ⟨U, nd'⟩ := upd_led (o' := lstO (vs ++ us) (n + 1)) nd hm
  have l1 := ab_len hv
  have l2 := ab_len hu
  unfold lim at hl
  refine kl_extend (its := vs.toArray) (its2 := us.toArray) S.fr N (List.mem_append_right _ hm2) rfl (by
      show us.length ≠ 0
      rw [l2]; intro z; exact hne (List.length_eq_zero_iff.mp z)) U ?_ (by show vs.length ≤ _; rw [l1, sizeLine_eq]; lia) (by simp only [List.size_toArray, l1, l2, sizeLine_eq]; lia) fun h' F' N' => Post.intro rfl (setList_S S.cx F' nd R hm N' nd' (ab_app hv hu)) q
  simp only [List.size_toArray, l1, l2]
  unfold Builtin.List.listTooLong
  rw [decide_eq_false (show ¬ (xs.length + ys.length > sizeLine) by rw [sizeLine_eq]; lia), Bool.and_false]
  exact Bool.false_ne_true
theorem pop_S {ra : Value} {v y : V} {xs : List V} (S : At K h₀ L X m h s.heap) (ha : ab ra = some v) (e : listAt h v = some xs) (hy : xs.getLast? = some y) (hz : xs.length ≤ lim) (q : Q y (setList h v xs.dropLast)) :
    wpAny (model prog w) A (call (.builtin "list.pop") [ra]) (Post K h₀ L X m s Q) E s := by
  replace e := listAt_ref e
  obtain ⟨a, rfl, e⟩ := e
  cases ab_ref ha
  refine e4_5 (S.listObj e) fun vs n led D hv hm N nd R => ?_
  have l1 := ab_len hv
  obtain ⟨xs', rfl⟩ : ∃ xs', xs = xs' ++ [y] := List.getLast?_eq_some_iff.mp hy
  cases e9 : kl_last vs with
  | none =>
    have := kl_last_none e9
    subst this
    simp at l1
  | some r =>
    obtain ⟨p, ry⟩ := r
    have e8 := kl_last_spec e9
    subst e8
    have hv' : p.map ab = xs'.map some ∧ ab ry = some y := by
      rw [List.map_append, List.map_append] at hv
      have := List.append_inj' hv rfl
      exact ⟨this.1, by simpa using this.2⟩
    obtain ⟨U, nd'⟩ := upd_led (o' := lstO p (n + 1)) nd hm
    refine kl_pop (its := (p ++ [ry]).toArray) S.fr N e9 U (by show (p ++ [ry]).length ≤ _; rw [l1, sizeLine_eq]; unfold lim at hz; lia) fun h' F' N' => Post.intro hv'.2 (setList_S S.cx F' nd R hm N' nd' hv'.1) (by rw [List.dropLast_concat] at q; exact q)
end
end Mine

namespace Mine
open PySem PySem.W PySem.Calls PyProof.Rows

/-! looks at the text's terms: one form each, and what follows from a look that went well (printed by mkv.py) -/
noncomputable abbrev EB := PySem.Expr → Bool
noncomputable abbrev SB := PySem.Stmt → Bool
theorem an {a b : Bool} (h : (a && b) = true) : a = true ∧ b = true := Bool.and_eq_true_iff.mp h
theorem a1 {a b : Bool} (h : (a && b) = true) : a = true := (an h).1
theorem a2 {a b : Bool} (h : (a && b) = true) : b = true := (an h).2
theorem eqb {α : Type} [BEq α] [LawfulBEq α] {a b : α} (h : (a == b) = true) : a = b := beq_iff_eq.mp h
theorem off {p : Prop} (h : false = true) : p := Bool.noConfusion h
noncomputable def onIdx (n m : Nat) (f : n = m → Bool) : Bool := @dite Bool (n = m) (Nat.decEq n m) f fun _ => false
theorem onIdx_inv {n m : Nat} {f : n = m → Bool} (h : onIdx n m f = true) : ∃ e : n = m, f e = true := by
  unfold onIdx at h
  by_cases e : n = m
  · rw [dif_pos e] at h; exact ⟨e, h⟩
  · rw [dif_neg e] at h; exact off h
noncomputable def l0 {α : Type} (l : List α) : Bool := List.rec true (fun _ _ _ => false) l
noncomputable def lc {α : Type} (f : α → List α → Bool) (l : List α) : Bool := List.rec false (fun a as _ => f a as) l
noncomputable def l1 {α : Type} (f : α → Bool) (l : List α) : Bool := lc (fun a r => l0 r && f a) l
noncomputable def l2 {α : Type} (f : α → α → Bool) (l : List α) : Bool := lc (fun a r => l1 (f a) r) l
@[elab_as_elim] theorem l0_el {α : Type} {P : List α → Prop} {l : List α} (h : l0 l = true) (k : P []) : P l := match l, h with
  | [], _ => k
@[elab_as_elim] theorem lc_el {α : Type} {f : α → List α → Bool} {P : List α → Prop} {l : List α} (h : lc f l = true) (k : ∀ a as, f a as = true → P (a :: as)) : P l := match l, h with
  | a :: as, h => k a as h
@[elab_as_elim] theorem l1_el {α : Type} {f : α → Bool} {P : List α → Prop} {l : List α} (h : l1 f l = true) (k : ∀ a, f a = true → P [a]) : P l :=
  lc_el h fun a _ h => l0_el (P := fun r => P (a :: r)) (a1 h) (k a (a2 h))
@[elab_as_elim] theorem l2_el {α : Type} {f : α → α → Bool} {P : List α → Prop} {l : List α} (h : l2 f l = true) (k : ∀ a b, f a b = true → P [a, b]) : P l :=
  lc_el h fun a _ h => l1_el (P := fun r => P (a :: r)) h (k a)
noncomputable def oN {α : Type} (o : Option α) : Bool := Option.rec true (fun _ => false) o
noncomputable def oS {α : Type} (f : α → Bool) (o : Option α) : Bool := Option.rec false f o
@[elab_as_elim] theorem oN_el {α : Type} {P : Option α → Prop} {o : Option α} (h : oN o = true) (k : P none) : P o := match o, h with
  | none, _ => k
@[elab_as_elim] theorem oS_el {α : Type} {f : α → Bool} {P : Option α → Prop} {o : Option α} (h : oS f o = true) (k : ∀ a, f a = true → P (some a)) : P o := match o, h with
  | some a, h => k a h
noncomputable def cNone (c : Const) : Bool := onIdx c.ctorIdx 0 fun _ => true
@[elab_as_elim] theorem cNone_el {P : Const → Prop} {c : Const} (h : cNone c = true) (k : P .none) : P c :=
  let ⟨i, _⟩ := onIdx_inv h
  PySem.Const.none.elim (motive := P) c i k
noncomputable def cBool (f : Bool → Bool) (e : Const) : Bool := onIdx e.ctorIdx 1 fun i => PySem.Const.bool.elim (motive := fun _ => Bool) e i fun b => f b
@[elab_as_elim] theorem cBool_el {f : Bool → Bool} {P : Const → Prop} {e : Const} (h : cBool f e = true) (kk : ∀ b, f b = true → P (PySem.Const.bool b)) : P e :=
  let ⟨i, h⟩ := onIdx_inv h
  PySem.Const.bool.elim (motive := fun e => ∀ i, PySem.Const.bool.elim (motive := fun _ => Bool) e i (fun b => f b) = true → P e) e i (fun b _ h => kk b h) i h
noncomputable def cInt (f : Int → Bool) (e : Const) : Bool := onIdx e.ctorIdx 2 fun i => PySem.Const.int.elim (motive := fun _ => Bool) e i fun b => f b
@[elab_as_elim] theorem cInt_el {f : Int → Bool} {P : Const → Prop} {e : Const} (h : cInt f e = true) (kk : ∀ b, f b = true → P (PySem.Const.int b)) : P e :=
  let ⟨i, h⟩ := onIdx_inv h
  PySem.Const.int.elim (motive := fun e => ∀ i, PySem.Const.int.elim (motive := fun _ => Bool) e i (fun b => f b) = true → P e) e i (fun b _ h => kk b h) i h
noncomputable def cStr (f : Str → Bool) (e : Const) : Bool := onIdx e.ctorIdx 5 fun i => PySem.Const.str.elim (motive := fun _ => Bool) e i fun b => f b
@[elab_as_elim] theorem cStr_el {f : Str → Bool} {P : Const → Prop} {e : Const} (h : cStr f e = true) (kk : ∀ b, f b = true → P (PySem.Const.str b)) : P e :=
  let ⟨i, h⟩ := onIdx_inv h
  PySem.Const.str.elim (motive := fun e => ∀ i, PySem.Const.str.elim (motive := fun _ => Bool) e i (fun b => f b) = true → P e) e i (fun b _ h => kk b h) i h
noncomputable def vBoo (f : BoolOp → List PySem.Expr → Pos → Bool) (e : PySem.Expr) : Bool := onIdx e.ctorIdx 0 fun i => PySem.Expr.BoolOp.elim (motive_1 := fun _ => Bool) e i fun o l p => f o l p
@[elab_as_elim] theorem vBoo_el {f : BoolOp → List PySem.Expr → Pos → Bool} {P : PySem.Expr → Prop} {e : PySem.Expr} (h : vBoo f e = true) (kk : ∀ o l p, f o l p = true → P (PySem.Expr.BoolOp o l p)) : P e :=
  let ⟨i, h⟩ := onIdx_inv h
  PySem.Expr.BoolOp.elim (motive_1 := fun e => ∀ i, PySem.Expr.BoolOp.elim (motive_1 := fun _ => Bool) e i (fun o l p => f o l p) = true → P e) e i (fun o l p _ h => kk o l p h) i h
noncomputable def vBin (f : PySem.Expr → Operator → PySem.Expr → Bool) (e : PySem.Expr) : Bool := onIdx e.ctorIdx 2 fun i => PySem.Expr.BinOp.elim (motive_1 := fun _ => Bool) e i fun a o b _ => f a o b
@[elab_as_elim] theorem vBin_el {f : PySem.Expr → Operator → PySem.Expr → Bool} {P : PySem.Expr → Prop} {e : PySem.Expr} (h : vBin f e = true) (kk : ∀ a o b p, f a o b = true → P (PySem.Expr.BinOp a o b p)) : P e :=
  let ⟨i, h⟩ := onIdx_inv h
  PySem.Expr.BinOp.elim (motive_1 := fun e => ∀ i, PySem.Expr.BinOp.elim (motive_1 := fun _ => Bool) e i (fun a o b _ => f a o b) = true → P e) e i (fun a o b p _ h => kk a o b p h) i h
noncomputable def vUn (f : UnaryOp → PySem.Expr → Bool) (e : PySem.Expr) : Bool := onIdx e.ctorIdx 3 fun i => PySem.Expr.UnaryOp.elim (motive_1 := fun _ => Bool) e i fun o a _ => f o a
@[elab_as_elim] theorem vUn_el {f : UnaryOp → PySem.Expr → Bool} {P : PySem.Expr → Prop} {e : PySem.Expr} (h : vUn f e = true) (kk : ∀ o a p, f o a = true → P (PySem.Expr.UnaryOp o a p)) : P e :=
  let ⟨i, h⟩ := onIdx_inv h
  PySem.Expr.UnaryOp.elim (motive_1 := fun e => ∀ i, PySem.Expr.UnaryOp.elim (motive_1 := fun _ => Bool) e i (fun o a _ => f o a) = true → P e) e i (fun o a p _ h => kk o a p h) i h
noncomputable def vIf (f : PySem.Expr → PySem.Expr → PySem.Expr → Bool) (e : PySem.Expr) : Bool := onIdx e.ctorIdx 5 fun i => PySem.Expr.IfExp.elim (motive_1 := fun _ => Bool) e i fun t a b _ => f t a b
@[elab_as_elim] theorem vIf_el {f : PySem.Expr → PySem.Expr → PySem.Expr → Bool} {P : PySem.Expr → Prop} {e : PySem.Expr} (h : vIf f e = true) (kk : ∀ t a b p, f t a b = true → P (PySem.Expr.IfExp t a b p)) : P e :=
  let ⟨i, h⟩ := onIdx_inv h
  PySem.Expr.IfExp.elim (motive_1 := fun e => ∀ i, PySem.Expr.IfExp.elim (motive_1 := fun _ => Bool) e i (fun t a b _ => f t a b) = true → P e) e i (fun t a b p _ h => kk t a b p h) i h
noncomputable def vCom (f : PySem.Expr → List Comprehension → Scope → Pos → Bool) (e : PySem.Expr) : Bool := onIdx e.ctorIdx 8 fun i => PySem.Expr.ListComp.elim (motive_1 := fun _ => Bool) e i fun a gs sc p => f a gs sc p
@[elab_as_elim] theorem vCom_el {f : PySem.Expr → List Comprehension → Scope → Pos → Bool} {P : PySem.Expr → Prop} {e : PySem.Expr} (h : vCom f e = true) (kk : ∀ a gs sc p, f a gs sc p = true → P (PySem.Expr.ListComp a gs sc p)) : P e :=
  let ⟨i, h⟩ := onIdx_inv h
  PySem.Expr.ListComp.elim (motive_1 := fun e => ∀ i, PySem.Expr.ListComp.elim (motive_1 := fun _ => Bool) e i (fun a gs sc p => f a gs sc p) = true → P e) e i (fun a gs sc p _ h => kk a gs sc p h) i h
noncomputable def vCmp (f : PySem.Expr → List CmpOp → List PySem.Expr → Bool) (e : PySem.Expr) : Bool := onIdx e.ctorIdx 15 fun i => PySem.Expr.Compare.elim (motive_1 := fun _ => Bool) e i fun a os bs _ => f a os bs
@[elab_as_elim] theorem vCmp_el {f : PySem.Expr → List CmpOp → List PySem.Expr → Bool} {P : PySem.Expr → Prop} {e : PySem.Expr} (h : vCmp f e = true) (kk : ∀ a os bs p, f a os bs = true → P (PySem.Expr.Compare a os bs p)) : P e :=
  let ⟨i, h⟩ := onIdx_inv h
  PySem.Expr.Compare.elim (motive_1 := fun e => ∀ i, PySem.Expr.Compare.elim (motive_1 := fun _ => Bool) e i (fun a os bs _ => f a os bs) = true → P e) e i (fun a os bs p _ h => kk a os bs p h) i h
noncomputable def vCal (f : PySem.Expr → List PySem.Expr → List Keyword → Pos → Bool) (e : PySem.Expr) : Bool := onIdx e.ctorIdx 16 fun i => PySem.Expr.Call.elim (motive_1 := fun _ => Bool) e i fun g as ks p => f g as ks p
@[elab_as_elim] theorem vCal_el {f : PySem.Expr → List PySem.Expr → List Keyword → Pos → Bool} {P : PySem.Expr → Prop} {e : PySem.Expr} (h : vCal f e = true) (kk : ∀ g as ks p, f g as ks p = true → P (PySem.Expr.Call g as ks p)) : P e :=
  let ⟨i, h⟩ := onIdx_inv h
  PySem.Expr.Call.elim (motive_1 := fun e => ∀ i, PySem.Expr.Call.elim (motive_1 := fun _ => Bool) e i (fun g as ks p => f g as ks p) = true → P e) e i (fun g as ks p _ h => kk g as ks p h) i h
noncomputable def vConst (f : Const → Bool) (e : PySem.Expr) : Bool := onIdx e.ctorIdx 19 fun i => PySem.Expr.Constant.elim (motive_1 := fun _ => Bool) e i fun c _ _ => f c
@[elab_as_elim] theorem vConst_el {f : Const → Bool} {P : PySem.Expr → Prop} {e : PySem.Expr} (h : vConst f e = true) (kk : ∀ c k p, f c = true → P (PySem.Expr.Constant c k p)) : P e :=
  let ⟨i, h⟩ := onIdx_inv h
  PySem.Expr.Constant.elim (motive_1 := fun e => ∀ i, PySem.Expr.Constant.elim (motive_1 := fun _ => Bool) e i (fun c _ _ => f c) = true → P e) e i (fun c k p _ h => kk c k p h) i h
noncomputable def vAttr (f : PySem.Expr → Str → Pos → Bool) (e : PySem.Expr) : Bool := onIdx e.ctorIdx 20 fun i => PySem.Expr.Attribute.elim (motive_1 := fun _ => Bool) e i fun v n p => f v n p
@[elab_as_elim] theorem vAttr_el {f : PySem.Expr → Str → Pos → Bool} {P : PySem.Expr → Prop} {e : PySem.Expr} (h : vAttr f e = true) (kk : ∀ v n p, f v n p = true → P (PySem.Expr.Attribute v n p)) : P e :=
  let ⟨i, h⟩ := onIdx_inv h
  PySem.Expr.Attribute.elim (motive_1 := fun e => ∀ i, PySem.Expr.Attribute.elim (motive_1 := fun _ => Bool) e i (fun v n p => f v n p) = true → P e) e i (fun v n p _ h => kk v n p h) i h
noncomputable def vSub (f : PySem.Expr → PySem.Expr → Bool) (e : PySem.Expr) : Bool := onIdx e.ctorIdx 21 fun i => PySem.Expr.Subscript.elim (motive_1 := fun _ => Bool) e i fun v s _ => f v s
@[elab_as_elim] theorem vSub_el {f : PySem.Expr → PySem.Expr → Bool} {P : PySem.Expr → Prop} {e : PySem.Expr} (h : vSub f e = true) (kk : ∀ v s p, f v s = true → P (PySem.Expr.Subscript v s p)) : P e :=
  let ⟨i, h⟩ := onIdx_inv h
  PySem.Expr.Subscript.elim (motive_1 := fun e => ∀ i, PySem.Expr.Subscript.elim (motive_1 := fun _ => Bool) e i (fun v s _ => f v s) = true → P e) e i (fun v s p _ h => kk v s p h) i h
noncomputable def vName (f : Str → Pos → Bool) (e : PySem.Expr) : Bool := onIdx e.ctorIdx 23 fun i => PySem.Expr.Name.elim (motive_1 := fun _ => Bool) e i fun n p => f n p
@[elab_as_elim] theorem vName_el {f : Str → Pos → Bool} {P : PySem.Expr → Prop} {e : PySem.Expr} (h : vName f e = true) (kk : ∀ n p, f n p = true → P (PySem.Expr.Name n p)) : P e :=
  let ⟨i, h⟩ := onIdx_inv h
  PySem.Expr.Name.elim (motive_1 := fun e => ∀ i, PySem.Expr.Name.elim (motive_1 := fun _ => Bool) e i (fun n p => f n p) = true → P e) e i (fun n p _ h => kk n p h) i h
noncomputable def vList (f : List PySem.Expr → Bool) (e : PySem.Expr) : Bool := onIdx e.ctorIdx 24 fun i => PySem.Expr.List.elim (motive_1 := fun _ => Bool) e i fun l _ => f l
@[elab_as_elim] theorem vList_el {f : List PySem.Expr → Bool} {P : PySem.Expr → Prop} {e : PySem.Expr} (h : vList f e = true) (kk : ∀ l p, f l = true → P (PySem.Expr.List l p)) : P e :=
  let ⟨i, h⟩ := onIdx_inv h
  PySem.Expr.List.elim (motive_1 := fun e => ∀ i, PySem.Expr.List.elim (motive_1 := fun _ => Bool) e i (fun l _ => f l) = true → P e) e i (fun l p _ h => kk l p h) i h
noncomputable def vTup (f : List PySem.Expr → Pos → Bool) (e : PySem.Expr) : Bool := onIdx e.ctorIdx 25 fun i => PySem.Expr.Tuple.elim (motive_1 := fun _ => Bool) e i fun l _ p => f l p
@[elab_as_elim] theorem vTup_el {f : List PySem.Expr → Pos → Bool} {P : PySem.Expr → Prop} {e : PySem.Expr} (h : vTup f e = true) (kk : ∀ l k p, f l p = true → P (PySem.Expr.Tuple l k p)) : P e :=
  let ⟨i, h⟩ := onIdx_inv h
  PySem.Expr.Tuple.elim (motive_1 := fun e => ∀ i, PySem.Expr.Tuple.elim (motive_1 := fun _ => Bool) e i (fun l _ p => f l p) = true → P e) e i (fun l k p _ h => kk l k p h) i h
noncomputable def vSli (f : Option PySem.Expr → Option PySem.Expr → Option PySem.Expr → Bool) (e : PySem.Expr) : Bool := onIdx e.ctorIdx 26 fun i => PySem.Expr.Slice.elim (motive_1 := fun _ => Bool) e i fun a b c _ => f a b c
@[elab_as_elim] theorem vSli_el {f : Option PySem.Expr → Option PySem.Expr → Option PySem.Expr → Bool} {P : PySem.Expr → Prop} {e : PySem.Expr} (h : vSli f e = true) (kk : ∀ a b c p, f a b c = true → P (PySem.Expr.Slice a b c p)) : P e :=
  let ⟨i, h⟩ := onIdx_inv h
  PySem.Expr.Slice.elim (motive_1 := fun e => ∀ i, PySem.Expr.Slice.elim (motive_1 := fun _ => Bool) e i (fun a b c _ => f a b c) = true → P e) e i (fun a b c p _ h => kk a b c p h) i h
noncomputable def wRet (f : Option PySem.Expr → Bool) (e : PySem.Stmt) : Bool := onIdx e.ctorIdx 3 fun i => PySem.Stmt.Return.elim (motive_2 := fun _ => Bool) e i fun v _ => f v
@[elab_as_elim] theorem wRet_el {f : Option PySem.Expr → Bool} {P : PySem.Stmt → Prop} {e : PySem.Stmt} (h : wRet f e = true) (kk : ∀ v p, f v = true → P (PySem.Stmt.Return v p)) : P e :=
  let ⟨i, h⟩ := onIdx_inv h
  PySem.Stmt.Return.elim (motive_2 := fun e => ∀ i, PySem.Stmt.Return.elim (motive_2 := fun _ => Bool) e i (fun v _ => f v) = true → P e) e i (fun v p _ h => kk v p h) i h
noncomputable def wAss (f : List PySem.Expr → PySem.Expr → Bool) (e : PySem.Stmt) : Bool := onIdx e.ctorIdx 5 fun i => PySem.Stmt.Assign.elim (motive_2 := fun _ => Bool) e i fun ts v _ => f ts v
@[elab_as_elim] theorem wAss_el {f : List PySem.Expr → PySem.Expr → Bool} {P : PySem.Stmt → Prop} {e : PySem.Stmt} (h : wAss f e = true) (kk : ∀ ts v p, f ts v = true → P (PySem.Stmt.Assign ts v p)) : P e :=
  let ⟨i, h⟩ := onIdx_inv h
  PySem.Stmt.Assign.elim (motive_2 := fun e => ∀ i, PySem.Stmt.Assign.elim (motive_2 := fun _ => Bool) e i (fun ts v _ => f ts v) = true → P e) e i (fun ts v p _ h => kk ts v p h) i h
noncomputable def wFor (f : PySem.Expr → PySem.Expr → List PySem.Stmt → List PySem.Stmt → Bool) (e : PySem.Stmt) : Bool := onIdx e.ctorIdx 9 fun i => PySem.Stmt.For.elim (motive_2 := fun _ => Bool) e i fun t i b o _ => f t i b o
@[elab_as_elim] theorem wFor_el {f : PySem.Expr → PySem.Expr → List PySem.Stmt → List PySem.Stmt → Bool} {P : PySem.Stmt → Prop} {e : PySem.Stmt} (h : wFor f e = true) (kk : ∀ t i b o p, f t i b o = true → P (PySem.Stmt.For t i b o p)) : P e :=
  let ⟨i, h⟩ := onIdx_inv h
  PySem.Stmt.For.elim (motive_2 := fun e => ∀ i, PySem.Stmt.For.elim (motive_2 := fun _ => Bool) e i (fun t i b o _ => f t i b o) = true → P e) e i (fun t i b o p _ h => kk t i b o p h) i h
noncomputable def wWhi (f : PySem.Expr → List PySem.Stmt → List PySem.Stmt → Bool) (e : PySem.Stmt) : Bool := onIdx e.ctorIdx 11 fun i => PySem.Stmt.While.elim (motive_2 := fun _ => Bool) e i fun t b o _ => f t b o
@[elab_as_elim] theorem wWhi_el {f : PySem.Expr → List PySem.Stmt → List PySem.Stmt → Bool} {P : PySem.Stmt → Prop} {e : PySem.Stmt} (h : wWhi f e = true) (kk : ∀ t b o p, f t b o = true → P (PySem.Stmt.While t b o p)) : P e :=
  let ⟨i, h⟩ := onIdx_inv h
  PySem.Stmt.While.elim (motive_2 := fun e => ∀ i, PySem.Stmt.While.elim (motive_2 := fun _ => Bool) e i (fun t b o _ => f t b o) = true → P e) e i (fun t b o p _ h => kk t b o p h) i h
noncomputable def wIf (f : PySem.Expr → List PySem.Stmt → List PySem.Stmt → Bool) (e : PySem.Stmt) : Bool := onIdx e.ctorIdx 12 fun i => PySem.Stmt.If.elim (motive_2 := fun _ => Bool) e i fun t a b _ => f t a b
@[elab_as_elim] theorem wIf_el {f : PySem.Expr → List PySem.Stmt → List PySem.Stmt → Bool} {P : PySem.Stmt → Prop} {e : PySem.Stmt} (h : wIf f e = true) (kk : ∀ t a b p, f t a b = true → P (PySem.Stmt.If t a b p)) : P e :=
  let ⟨i, h⟩ := onIdx_inv h
  PySem.Stmt.If.elim (motive_2 := fun e => ∀ i, PySem.Stmt.If.elim (motive_2 := fun _ => Bool) e i (fun t a b _ => f t a b) = true → P e) e i (fun t a b p _ h => kk t a b p h) i h
noncomputable def wExp (f : PySem.Expr → Bool) (e : PySem.Stmt) : Bool := onIdx e.ctorIdx 24 fun i => PySem.Stmt.Expr.elim (motive_2 := fun _ => Bool) e i fun v _ => f v
@[elab_as_elim] theorem wExp_el {f : PySem.Expr → Bool} {P : PySem.Stmt → Prop} {e : PySem.Stmt} (h : wExp f e = true) (kk : ∀ v p, f v = true → P (PySem.Stmt.Expr v p)) : P e :=
  let ⟨i, h⟩ := onIdx_inv h
  PySem.Stmt.Expr.elim (motive_2 := fun e => ∀ i, PySem.Stmt.Expr.elim (motive_2 := fun _ => Bool) e i (fun v _ => f v) = true → P e) e i (fun v p _ h => kk v p h) i h
end Mine

namespace Mine
open PySem PySem.W PySem.Calls PyProof.Rows

structure EnvOk (env : Env) (L : Addr) : Prop where
  kind : env.scope.kind = .function
  loc : env.locals = L
  glob : env.globals = mainGlobals
  blt : env.builtins = builtinsNs

noncomputable def LocV (env : Env) (m : Str → Option Value) (X : List (Addr × Obj)) (x : Nat) (rv : Value) : Prop :=
  (env.kindOf (nm x) = some .local ∧ m (nm x) = some rv) ∨
    ((env.kindOf (nm x) = some .cell ∨ env.kindOf (nm x) = some .free) ∧ ∃ c o, env.cells.lookup (nm x) = some c ∧ (c, o) ∈ X ∧ o.data = .cell (some rv))
noncomputable def Loc (env : Env) (m : Str → Option Value) (X : List (Addr × Obj)) (ρ : R) : Prop := ∀ x v, ρ x = some v → x < nmN ∧ ∃ rv, ab rv = some v ∧ LocV env m X x rv
theorem LocV.mono {env : Env} {m : Str → Option Value} {X X' : List (Addr × Obj)} {x : Nat} {rv : Value} (k : ∀ p ∈ X, p ∈ X') (h : LocV env m X x rv) : LocV env m X' x rv :=
  h.imp id fun ⟨a, c, o, b, d, e⟩ => ⟨a, c, o, b, k _ d, e⟩
theorem Loc.mono {env : Env} {m : Str → Option Value} {X X' : List (Addr × Obj)} {ρ : R} (k : ∀ p ∈ X, p ∈ X') (h : Loc env m X ρ) : Loc env m X' ρ := fun x v e =>
  let ⟨a, rv, b, c⟩ := h x v e; ⟨a, rv, b, c.mono k⟩
theorem Loc.set {env : Env} {m : Str → Option Value} {X : List (Addr × Obj)} {ρ : R} {x : Nat} {v : V} {rv : Value} (h : Loc env m X ρ) (hx : x < nmN) (hk : env.kindOf (nm x) = some .local) (hv : ab rv = some v) :
    Loc env (fun y => if y = nm x then some rv else m y) X (ρ.set x v) := fun y u e => by
  rcases R.set_at e with ⟨rfl, rfl⟩ | ⟨hy, e⟩
  · exact ⟨hx, rv, hv, .inl ⟨hk, if_pos rfl⟩⟩
  · obtain ⟨a, rv', b, c⟩ := h y u e
    exact ⟨a, rv', b, c.imp (fun ⟨h1, h2⟩ => ⟨h1, (if_neg fun q => hy (nm_inj y a x hx q)).trans h2⟩) id⟩

section
variable {prog : Program} {w : World} {A : Around} {E : Value → Shared → Prop} {K : Frag} {h₀ : Heap} {L : Addr} {X : List (Addr × Obj)} {m : Str → Option Value} {h : H} {s : Shared} {env : Env} {ρ : R}

theorem At.ext {hp hp' : Heap} (S : At K h₀ L X m h hp) (k : ∀ b o, hp.get? b = some o → hp'.get? b = some o) : At K h₀ L X m h hp' := by
  refine e2_3 S.led fun led D N nd R => ?_
  exact ⟨S.cx, S.fr.keeps k, led, D, N.grown k, nd, R⟩
theorem At.extBut {hp hp' : Heap} (S : At K h₀ L X m h hp) (k : Heap.ExtBut hp.objs.size hp hp') : At K h₀ L X m h hp' :=
  S.ext fun b o e => k b o (Nat.ne_of_lt (Heap.lt_size e)) e

theorem Name_S {x : Nat} {pos : Pos} {v : V} {Q : V → H → Prop} (S : At K h₀ L X m h s.heap) (O : EnvOk env L) (l : Loc env m X ρ) (e : ρ x = some v) (hd : (nm x == ("__debug__" : Str)) = false) (hc : (nm x == ("__classdict__" : Str)) = false) (q : Q v h) :
    wpAny (model prog w) A (eval (.Name (nm x) pos) env) (Post K h₀ L X m s Q) E s := by
  obtain ⟨hx, rv, hv, hl⟩ := l x v e
  refine wpAny_Name ?_ hd
  rcases hl with ⟨hk, hm⟩ | ⟨hk, c, o, h1, h2, h3⟩
  · exact wpAny_loadName_local O.kind hk (O.loc ▸ S.fr.ns) hm (Post.intro hv S q)
  · refine e2_3 S.led fun led D N nd R => ?_
    have hc' : s.heap.IsCell c (some rv) := ⟨o, (N _ (List.mem_append_left _ h2)).1, h3⟩
    rcases hk with hk | hk
    · exact wpAny_loadName_cell O.kind hk h1 hc' (Post.intro hv S q)
    · exact wpAny_loadName_free O.kind hk h1 hc' (Post.intro hv S q) hc

theorem storeName_S {x : Nat} {rv : Value} {v : V} {Q : Unit → Shared → Prop} (S : At K h₀ L X m h s.heap) (O : EnvOk env L) (l : Loc env m X ρ) (hx : x < nmN) (hk : env.kindOf (nm x) = some .local) (hv : ab rv = some v)
    (q : ∀ m' s', At K h₀ L X m' h s'.heap → Loc env m' X (ρ.set x v) → Rest s s' → Q () s') : wpAny (model prog w) A (storeName env (nm x) rv) Q E s := by
  refine e2_3 S.led fun led D N nd R => ?_
  refine wpAny_storeName_local hk (O.loc ▸ S.fr.ns) (fun h' hn hs => ?_) (by rw [O.kind]; rfl)
  rw [O.loc] at hn hs
  exact q _ _ ⟨S.cx, S.fr.set hn hs, led, D, N.set hs, nd, R⟩ (l.set hx hk hv) ⟨rfl, rfl⟩

/-- what assigning to targets hands on -/
noncomputable def PostB (K : Frag) (h₀ : Heap) (L : Addr) (X : List (Addr × Obj)) (h : H) (env : Env) (s : Shared) (Q : R → Prop) (s' : Shared) : Prop :=
  ∃ ρ' m', At K h₀ L X m' h s'.heap ∧ Loc env m' X ρ' ∧ Rest s s' ∧ Q ρ'
theorem bindB {α : Type} {t : Sem α} {RR : α → Shared → Prop} {s₀ : Shared} {Q : R → Prop} (p : wpAny (model prog w) A t (fun _ s' => PostB K h₀ L X h env s Q s') E s₀)
    (k : ∀ v s₁ ρ' m', At K h₀ L X m' h s₁.heap → Loc env m' X ρ' → Rest s s₁ → Q ρ' → RR v s₁) : wpAny (model prog w) A t RR E s₀ := wpAny_mono p (fun v s₁ ⟨ρ', m', a, b, r, q⟩ => k v s₁ ρ' m' a b r q) fun _ _ x => x

noncomputable def okTgt (sc : Scope) (x : Nat) (e : PySem.Expr) : Bool := vName (fun n _ => n == nm x && (decide (x < nmN) && sc.names.lookup (nm x) == some .local)) e
noncomputable def okTgts (sc : Scope) : List Nat → List PySem.Expr → Bool
  | [], [] => true
  | x :: xs, e :: es => okTgt sc x e && okTgts sc xs es
  | _, _ => false
theorem okTgt_name {sc : Scope} {x : Nat} {e : PySem.Expr} (h : okTgt sc x e = true) : ∃ p, e = .Name (nm x) p ∧ x < nmN ∧ sc.names.lookup (nm x) = some .local :=
   vName_el (P := fun e => ∃ p, e = .Name (nm x) p ∧ x < nmN ∧ sc.names.lookup (nm x) = some .local) h fun n p h => ⟨p, congrArg (PySem.Expr.Name · p) (eqb (a1 h)), of_decide_eq_true (a1 (a2 h)), eqb (a2 (a2 h))⟩

theorem tgts_S {xs : List Nat} : ∀ {es : List PySem.Expr} {vs : List Value} {avs : List V} {m : Str → Option Value} {ρ : R} {s : Shared} {Q : R → Prop}, At K h₀ L X m h s.heap → EnvOk env L → Loc env m X ρ → okTgts env.scope xs es = true →
    vs.map ab = avs.map some → avs.length = xs.length → Q (ρ.setAll xs avs) →
    wpAny (model prog w) A (assignInOrder ((assignEach es env).map (·.2)) vs) (fun _ s' => PostB K h₀ L X h env s Q s') E s := by
  induction xs with
  | nil =>
    intro es vs avs m ρ s Q S O l ok hv hl q
    cases es with
    | nil =>
      cases avs with
      | nil => cases vs with
        | nil => exact wpAny_pure ⟨ρ, m, S, l, .refl s, q⟩
        | cons _ _ => cases hv
      | cons _ _ => cases hl
    | cons _ _ => cases ok
  | cons x xs ih =>
    intro es vs avs m ρ s Q S O l ok hv hl q
    cases es with
    | nil => cases ok
    | cons e es =>
      replace ok := an ok
      refine e1_3 (okTgt_name ok.1) fun p e91 hx hk => ?_
      obtain rfl := e91
      cases avs with
      | nil => cases hl
      | cons v avs =>
        cases vs with
        | nil => cases hv
        | cons rv vs =>
          replace hv := List.cons.inj hv
          show wpAny _ _ (holding vs (assign (.Name (nm x) p) env rv) >>= fun _ => assignInOrder ((assignEach es env).map (·.2)) vs) _ _ _
          refine wpAny_bind (wpAny_holding (wpAny_assign_Name (storeName_S S O l hx hk hv.1 fun m' s' S' l' r => ?_)))
          refine wpAny_mono (ih S' O l' ok.2 hv.2 (Nat.succ.inj hl) q) (fun _ s'' ⟨ρ', m'', a, b, c, d⟩ => ⟨ρ', m'', a, b, r.trans c, d⟩) fun _ _ x => x

noncomputable def okT (sc : Scope) (tup : Bool) (xs : List Nat) (e : PySem.Expr) : Bool := @Bool.rec (fun _ => Bool) (okTgts sc xs [e]) (vTup (fun es _ => okTgts sc xs es) e) tup
theorem tgts_notStar {sc : Scope} : ∀ {xs : List Nat} {es : List PySem.Expr}, okTgts sc xs es = true → (assignEach es env).findIdx? (·.1) = none ∧ (assignEach es env).length = xs.length
  | [], [], _ => ⟨rfl, rfl⟩
  | x :: xs, e :: es, h => by
    replace h := an h
    refine e1_3 (okTgt_name h.1) fun p e91 _ _ => ?_
    obtain rfl := e91
    obtain ⟨a, b⟩ := tgts_notStar (xs := xs) (es := es) h.2
    refine ⟨?_, congrArg (· + 1) b⟩
    show List.findIdx? _ ((false, _) :: assignEach es env) = none
    rw [List.findIdx?_cons, a]
    rfl
  | [], _ :: _, h => by cases h
  | _ :: _, [], h => by cases h

theorem bindT_S {xs : List Nat} {tup : Bool} {t : PySem.Expr} {rv : Value} {v : V} {Q : R → Prop} (S : At K h₀ L X m h s.heap) (hh : A.handled = none) (O : EnvOk env L) (l : Loc env m X ρ) (ok : okT env.scope tup xs t = true) (hv : ab rv = some v) (q : bindT xs tup v ρ h Q) :
    wpAny (model prog w) A (assign t env rv) (fun _ s' => PostB K h₀ L X h env s Q s') E s := by
  cases tup with
  | false =>
    match xs, ok, q with
    | [x], ok, q =>
      refine e1_3 (okTgt_name (an ok).1) fun p e91 hx hk => ?_
      obtain rfl := e91
      exact wpAny_assign_Name (storeName_S S O l hx hk hv fun m' s' S' l' r => ⟨_, m', S', l', r, q⟩)
  | true =>
    refine vTup_el (e := t) ok fun es k p ok => ?_
    refine e1_3 (need_ex q) fun avs e1 hl q1 => ?_
    refine e1_2 (tupAt_ref e1) fun a e91 e2 => ?_
    obtain rfl := e91
    cases ab_ref hv
    refine e1_2 (S.tup e2) fun vs T hvs => ?_
    obtain ⟨n1, n2⟩ := tgts_notStar (env := env) ok
    show wpAny _ _ (do standAt p; unpack (.ref a) (assignEach es env)) _ _ _
    refine wpAny_bind (wpAny_standAt ?_)
    unfold unpack
    rw [n1]
    have hsz : (assignEach es env).length = vs.toArray.size := by rw [n2, List.size_toArray, ab_len hvs, hl]
    rw [hsz]
    refine wpAny_bind (wpAny_holding (unpackItems_tuple hh T fun h' he => ?_))
    exact tgts_S (s := { s with heap := h' }) (S.extBut he) O l ok hvs hl q1

end
end Mine

namespace Mine
open PySem PySem.W PySem.Calls PyProof.Rows

inductive Src where
  | lst (l : Nat)
  | tup (l : Nat)
  | rng (n : Int)
noncomputable def ItOb : Src → Nat → Obj → Prop
  | .lst l, i, o => o.cls = .type "list_iterator" ∧ o.data = .fields #[.ref l, .int i 0]
  | .tup l, i, o => o.cls = .type "tuple_iterator" ∧ o.data = .fields #[.ref l, .int i 0]
  | .rng n, i, o => o = { cls := .type "range_iterator", data := .fields #[rawInt (0 + (i : Int) * 1), rawInt (((n.toNat : Nat) : Int) - (i : Int)), rawInt 1] }
noncomputable def SrcIs (h : H) (xs : List V) : Src → Prop
  | .lst l => h l = some (.list xs)
  | .tup l => h l = some (.tup xs)
  | .rng n => xs = (List.range n.toNat).map fun i => V.int (i : Nat)
noncomputable def Src.val : Src → V
  | .lst l => .ref l
  | .tup l => .ref l
  | .rng n => .int n
theorem SrcIs.same {h h' : H} {xs : List V} {src : Src} (a : SrcIs h xs src) (b : sameAt src.val h h') : SrcIs h' xs src := by
  cases src with
  | lst l => exact (show h' l = h l from b).trans a
  | tup l => exact (show h' l = h l from b).trans a
  | rng n => exact a

section
variable {prog : Program} {w : World} {A : Around} {E : Value → Shared → Prop} {K : Frag} {h₀ : Heap} {L I : Addr} {X : List (Addr × Obj)} {m : Str → Option Value} {h : H} {s : Shared} {env : Env} {ρ : R} {oI : Obj} {xs : List V} {src : Src}

theorem At.drop {hp : Heap} {p : Addr × Obj} (S : At K h₀ L (p :: X) m h hp) : At K h₀ L X m h hp := by
  refine e2_3 S.led fun led D N nd R => ?_
  exact ⟨S.cx, S.fr, led, D, fun q hq => N q (List.mem_cons_of_mem _ hq), (List.nodup_cons.mp nd).2, R⟩
theorem At.here {hp : Heap} (S : At K h₀ L ((I, oI) :: X) m h hp) : hp.get? I = some oI ∧ I ≠ L ∧ h₀.get? I = none := by
  refine e2_3 S.led fun led D N nd R => ?_
  exact N (I, oI) List.mem_cons_self
theorem At.off {hp : Heap} {a : Nat} {o : O} (S : At K h₀ L ((I, oI) :: X) m h hp) (e : h a = some o) : a ≠ I := by
  refine e2_3 S.led fun led D N nd R => ?_
  obtain ⟨ob, hm⟩ := (R.om a o e).kind
  rintro rfl
  exact (List.nodup_cons.mp nd).1 (List.mem_map_of_mem (f := (·.1)) (List.mem_append_right X hm))
theorem At.reIter {hp hp' : Heap} {oI' : Obj} (S : At K h₀ L ((I, oI) :: X) m h hp) (k : ∀ b o, ¬ b ∈ [I] → hp.get? b = some o → hp'.get? b = some o) (e : hp'.get? I = some oI') : At K h₀ L ((I, oI') :: X) m h hp' := by
  refine e0_3 S.here fun g1 g2 g3 => ?_
  refine e2_3 S.led fun led D N nd R => ?_
  have k' : ∀ b o, b ≠ I → hp.get? b = some o → hp'.get? b = some o := fun b o hb => k b o fun q => hb (List.mem_singleton.mp q)
  have nI := (List.nodup_cons.mp nd).1
  refine ⟨S.cx, ⟨S.fr.ns.at' fun o q => k' L o (Ne.symm g2) q, fun b o q => k' b o (fun z => by rw [z, g3] at q; cases q) (S.fr.keep b o q), S.fr.above⟩, led, D, fun p hp' => ?_, nd, R⟩
  rcases List.mem_cons.mp hp' with rfl | hp''
  · exact ⟨e, g2, g3⟩
  · have z := N p (List.mem_cons_of_mem _ hp'')
    refine ⟨k' _ _ (fun q => nI ?_) z.1, z.2⟩
    rw [← q]; exact List.mem_map_of_mem (f := (·.1)) hp''
theorem At.pushX {hp : Heap} (S : At K h₀ L X m h hp) (o : Obj) (hf : o.isFreed = false := by rfl) : At K h₀ L ((hp.objs.size, o) :: X) m h (hp.push o) := by
  refine e2_3 S.led fun led D N nd R => ?_
  refine ⟨S.cx, S.fr.push o, led, D, N.push S.fr o hf, List.nodup_cons.mpr ⟨fun q => ?_, nd⟩, R⟩
  refine e1_2 (List.mem_map.mp q) fun p hp' e => ?_
  exact absurd (Heap.lt_size (N p hp').1) (by rw [e]; exact Nat.lt_irrefl _)

theorem ab_at {vs : List Value} {xs : List V} (h : vs.map ab = xs.map some) {i : Nat} {v : Value} {x : V} (e : vs[i]? = some v) (e' : xs[i]? = some x) : ab v = some x := by
  refine e1_2 (ab_get h e') fun v' a b => ?_
  rw [e] at a; cases a; exact b

theorem next_S (hh : A.handled = none) {i : Nat} (S : At K h₀ L ((I, oI) :: X) m h s.heap) (ho : ItOb src i oI) (e : SrcIs h xs src) :
    (∀ x, xs[i]? = some x → wpAny (model prog w) A (pyNext (.ref I)) (fun r s' => ∃ rx oI', r = some rx ∧ ab rx = some x ∧ At K h₀ L ((I, oI') :: X) m h s'.heap ∧ Rest s s' ∧ ItOb src (i + 1) oI') E s) ∧
    (i = xs.length → wpAny (model prog w) A (pyNext (.ref I)) (fun r s' => r = none ∧ At K h₀ L X m h s'.heap ∧ Rest s s') E s) := by
  refine e0_3 S.here fun g1 g2 g3 => ?_
  have out : ∀ {h' : Heap} {tk : Nat}, (∀ b o, ¬ b ∈ [I] → s.heap.get? b = some o → h'.get? b = some o) → At K h₀ L X m h h' := fun {h' tk} k => by
    refine e2_3 S.led fun led D N nd R => ?_
    have k' : ∀ b o, b ≠ I → s.heap.get? b = some o → h'.get? b = some o := fun b o hb => k b o fun q => hb (List.mem_singleton.mp q)
    have nI := (List.nodup_cons.mp nd).1
    refine ⟨S.cx, ⟨S.fr.ns.at' fun o q => k' L o (Ne.symm g2) q, fun b o q => k' b o (fun z => by rw [z, g3] at q; cases q) (S.fr.keep b o q), S.fr.above⟩, led, D, fun p hp' => ?_, (List.nodup_cons.mp nd).2, R⟩
    have z := N p (List.mem_cons_of_mem _ hp')
    refine ⟨k' _ _ (fun q => nI ?_) z.1, z.2⟩
    rw [← q]; exact List.mem_map_of_mem (f := (·.1)) hp'
  cases src with
  | lst l =>
    refine e1_2 (S.list e) fun vs L1 hv => ?_
    have hne : l ≠ I := S.off e
    have W := Walks.list (prog := prog) (w := w) hh I l hne vs.toArray
    have st : s.heap.IsListIter I l i ∧ s.heap.IsList l vs.toArray := ⟨⟨oI, g1, ho⟩, L1⟩
    refine ⟨fun x hx => ?_, fun hi => ?_⟩
    · refine e1_2 (ab_get hv hx) fun v hvx hab => ?_
      have hlt : i < vs.toArray.size := by
        rw [List.size_toArray]
        rcases Nat.lt_or_ge i vs.length with q | q
        · exact q
        · rw [List.getElem?_eq_none q] at hvx; cases hvx
      refine W.item i s _ E hlt st fun v' h' tk hP hst k => ?_
      refine e1_2 hst.1 fun o' q1 q2 => ?_
      refine ⟨v', o', rfl, ?_, S.reIter k q1, ⟨rfl, rfl⟩, q2⟩
      exact ab_at hv (by simpa using hP) hx
    · refine W.done s _ E (by rw [List.size_toArray, ab_len hv, ← hi]; exact st) fun h' tk k => ⟨rfl, out (tk := tk) k, ⟨rfl, rfl⟩⟩
  | tup l =>
    refine e1_2 (S.tup e) fun vs L1 hv => ?_
    have hne : l ≠ I := S.off e
    have W := Walks.tuple (prog := prog) (w := w) hh I l hne vs.toArray
    have st : s.heap.IsTupleIter I l i ∧ s.heap.IsTuple l vs.toArray := ⟨⟨oI, g1, ho⟩, L1⟩
    refine ⟨fun x hx => ?_, fun hi => ?_⟩
    · refine e1_2 (ab_get hv hx) fun v hvx hab => ?_
      have hlt : i < vs.toArray.size := by
        rw [List.size_toArray]
        rcases Nat.lt_or_ge i vs.length with q | q
        · exact q
        · rw [List.getElem?_eq_none q] at hvx; cases hvx
      refine W.item i s _ E hlt st fun v' h' tk hP hst k => ?_
      refine e1_2 hst.1 fun o' q1 q2 => ?_
      refine ⟨v', o', rfl, ?_, S.reIter k q1, ⟨rfl, rfl⟩, q2⟩
      exact ab_at hv (by simpa using hP) hx
    · refine W.done s _ E (by rw [List.size_toArray, ab_len hv, ← hi]; exact st) fun h' tk k => ⟨rfl, out (tk := tk) k, ⟨rfl, rfl⟩⟩
  | rng n =>
    have W := Walks.range (prog := prog) (w := w) (A := A) hh I 0 1 n.toNat
    have st : IsRangeIter s.heap I (0 + (i : Int) * 1) (((n.toNat : Nat) : Int) - (i : Int)) 1 := by rw [ho] at g1; exact g1
    have e' : xs = (List.range n.toNat).map fun i => V.int (i : Nat) := e
    refine ⟨fun x hx => ?_, fun hi => ?_⟩
    · have hlt : i < n.toNat := by
        rcases Nat.lt_or_ge i n.toNat with q | q
        · exact q
        · rw [e', List.getElem?_eq_none (by simpa using q)] at hx; cases hx
      have hx' : x = .int (i : Nat) := by
        rw [e', List.getElem?_map, List.getElem?_range hlt] at hx
        exact (Option.some.inj hx).symm
      refine W.item i s _ E hlt st fun v' h' tk hP hst k => ?_
      obtain ⟨t, rfl⟩ := hP
      refine ⟨_, _, rfl, ?_, S.reIter k hst, ⟨rfl, rfl⟩, ?_⟩
      · rw [hx']
        show some (V.int _) = some (V.int _)
        congr 2
        lia
      · rfl
    · have hl : xs.length = n.toNat := by rw [e']; simp
      refine W.done s _ E (by rw [← hl, ← hi]; rw [← hl] at st; rw [hi] at st ⊢; rw [hl] at st ⊢; exact st) fun h' tk k => ⟨rfl, out (tk := tk) k, ⟨rfl, rfl⟩⟩

theorem letGo_S {i : Nat} {t : PySem.Expr} {v : Value} {Q : Unit → Shared → Prop} (S : At K h₀ L ((I, oI) :: X) m h s.heap) (ho : ItOb src i oI) (q : Q () s) : wpAny (model prog w) A (letOwnedTupleGo t (.ref I) v) Q E s := by
  refine e0_3 S.here fun g1 g2 g3 => ?_
  unfold letOwnedTupleGo
  cases t <;> first
    | exact wpAny_pure q
    | (cases v <;> first
        | exact wpAny_pure q
        | (refine wpAny_bind (wpAny_load g1 ?_)
           cases src with
           | lst l => rw [ho.1, ho.2]; exact wpAny_pure q
           | tup l => rw [ho.1, ho.2]; exact wpAny_pure q
           | rng n => rw [show oI = _ from ho]; exact wpAny_pure q))
end
end Mine

namespace Mine
open PySem PySem.W PySem.Calls PyProof.Rows

noncomputable def PostS (K : Frag) (h₀ : Heap) (L : Addr) (X : List (Addr × Obj)) (env : Env) (s : Shared) (Qn : R → H → Prop) (Qr : V → H → Prop) (f : Flow) (s' : Shared) : Prop := match f with
  | .next => ∃ ρ' m' h', At K h₀ L X m' h' s'.heap ∧ Loc env m' X ρ' ∧ Rest s s' ∧ Qn ρ' h'
  | .ret rv => ∃ av m' h', ab rv = some av ∧ At K h₀ L X m' h' s'.heap ∧ Rest s s' ∧ Qr av h'
  | _ => False

section
variable {prog : Program} {w : World} {A : Around} {K : Frag} {h₀ : Heap} {L I : Addr} {X : List (Addr × Obj)} {env : Env} {xs : List V} {src : Src}

theorem Loc.unIter {env : Env} {m : Str → Option Value} {p : Addr × Obj} {ρ : R} (l : Loc env m (p :: X) ρ) (hp : ∀ v, p.2.data ≠ .cell v) : Loc env m X ρ := fun x v e => by
  obtain ⟨a, rv, b, c⟩ := l x v e
  refine ⟨a, rv, b, c.imp id fun ⟨k1, c', o, k2, k3, k4⟩ => ⟨k1, c', o, k2, ?_, k4⟩⟩
  rcases List.mem_cons.mp k3 with e1 | k3
  · exact absurd k4 (by rw [show o = p.2 from (congrArg (·.2) e1)]; exact hp _)
  · exact k3

theorem ItOb.noCell {i : Nat} {o : Obj} (ho : ItOb src i o) (v : Option Value) : o.data ≠ .cell v := fun k => by
  cases src with
  | lst l => rw [ho.2] at k; cases k
  | tup l => rw [ho.2] at k; cases k
  | rng n => rw [show o = _ from ho] at k; cases k
/-- a for's turns -/
theorem forLoop_S (hh : A.handled = none) (O : EnvOk env L) {tgts : List Nat} {tup : Bool} {target : PySem.Expr} {body : List PySem.Stmt} (ok : okT env.scope tup tgts target = true) (wb : R → H → (R → H → Prop) → Prop) {Qr : V → H → Prop}
    (hb : ∀ {X : List (Addr × Obj)} {m : Str → Option Value} {ρ : R} {h : H} {s : Shared} {k : R → H → Prop} {E : Value → Shared → Prop}, At K h₀ L X m h s.heap → Loc env m X ρ → wb ρ h k → wpAny (model prog w) A (execs body env) (PostS K h₀ L X env s k Qr) E s)
    {h1 : H} {s₀ s : Shared} {Qn : R → H → Prop} {Rr : Result → Shared → Prop} (hR : ∀ f s', PostS K h₀ L X env s₀ Qn Qr f s' → Rr (.ok f) s') (hsrc : SrcIs h1 xs src)
    {rest : List V} {i : Nat} {m : Str → Option Value} {h : H} {ρ : R} {oI : Obj} (hd : xs.drop i = rest) (hi : i ≤ xs.length) (S : At K h₀ L ((I, oI) :: X) m h s.heap) (l : Loc env m X ρ) (r : Rest s₀ s) (ho : ItOb src i oI)
    (q : forL (sameAt src.val h1) (fun x ρ h k => bindT tgts tup x ρ h fun ρ' => wb ρ' h k) rest ρ h Qn) :
    codeAny (model prog w) A (.forLoop target (.ref I) body [] env) Rr s := by
  generalize hF : (fun rest ρ h => forL (sameAt src.val h1) (fun x ρ h k => bindT tgts tup x ρ h fun ρ' => wb ρ' h k) rest ρ h Qn) = F
  obtain ⟨J, hJ, hJ'⟩ : ∃ J : Nat → Shared → Prop, (∀ rest i m h ρ oI s', xs.drop i = rest → i ≤ xs.length → At K h₀ L ((I, oI) :: X) m h s'.heap → Loc env m X ρ → Rest s₀ s' → ItOb src i oI → F rest ρ h → J rest.length s') ∧
      ∀ n s', J n s' → ∀ {P : Prop}, (∀ rest i m h ρ oI, n = rest.length → xs.drop i = rest → i ≤ xs.length → At K h₀ L ((I, oI) :: X) m h s'.heap → Loc env m X ρ → Rest s₀ s' → ItOb src i oI → F rest ρ h → P) → P :=
    ⟨fun n s' => ∃ rest i m h ρ oI, n = rest.length ∧ xs.drop i = rest ∧ i ≤ xs.length ∧ At K h₀ L ((I, oI) :: X) m h s'.heap ∧ Loc env m X ρ ∧ Rest s₀ s' ∧ ItOb src i oI ∧ F rest ρ h, fun rest i m h ρ oI _ a b c d e f l => ⟨rest, i, m, h, ρ, oI, rfl, a, b, c, d, e, f, l⟩, fun _ _ h _ k => e6_8 h k⟩
  refine codeAny_forLoop_any J ?_ rest.length (hJ rest i m h ρ oI s hd hi S l r ho (by rw [← hF]; exact q))
  clear q hd hi S r ho l
  refine fun n s hI => hJ' n s hI fun rest i m h ρ oI en hd hi S l r ho q => ?_
  clear hI hJ'
  subst en
  rw [← hF] at q
  cases rest with
  | nil =>
    obtain ⟨q1, q2⟩ := q
    have hil : i = xs.length := Nat.le_antisymm hi (List.drop_eq_nil_iff.mp hd)
    refine wpAny_mono ((next_S hh S ho (hsrc.same q1)).2 hil) (fun r' s' ⟨e, S', r1⟩ => ?_) fun _ _ x => x
    subst e
    exact wpAny_execs_nil (hR _ _ ⟨ρ, m, h, S', l, r.trans r1, q2⟩)
  | cons x rest =>
    obtain ⟨q1, q2⟩ := q
    have hx : xs[i]? = some x := by
      have := congrArg List.head? hd
      rw [List.head?_drop] at this
      exact this
    refine wpAny_mono ((next_S hh S ho (hsrc.same q1)).1 x hx) (fun r' s1 ⟨rx, oI', e, hab, S1, r1, ho1⟩ => ?_) fun _ _ x => x
    subst e
    refine letGo_S S1 ho1 ?_
    refine bindB (bindT_S S1 hh O (l.mono fun p hp => List.mem_cons_of_mem _ hp) ok hab q2) fun _ s2 ρ' m' S2 l2 r2 q3 => ?_
    refine wpAny_mono (hb S2 l2 q3) (fun f s3 p => ?_) fun _ _ x => x
    cases f with
    | next =>
      refine e3_4 p fun ρ3 m3 h3 S3 l3 r3 q4 => ?_
      clear p
      refine ⟨rest.length, Nat.lt_succ_self _, hJ rest (i + 1) m3 h3 ρ3 oI' _ ?_ ?_ S3 ?_ (((r.trans r1).trans r2).trans r3) ho1 (by rw [← hF]; exact q4)⟩
      · rw [← List.drop_drop, hd]; rfl
      · rcases Nat.lt_or_ge i xs.length with z | z
        · exact z
        · rw [List.getElem?_eq_none z] at hx; cases hx
      · exact l3.unIter ho1.noCell
    | ret rv =>
      refine e3_4 p fun av m3 h3 e3 S3 r3 q4 => ?_
      clear p
      exact hR _ _ ⟨av, m3, h3, e3, S3.drop, ((r.trans r1).trans r2).trans r3, q4⟩
    | brk => exact p.elim
    | cont => exact p.elim

/-- a while, unrolled once -/
theorem while_S (O : EnvOk env L) {test : PySem.Expr} {body : List PySem.Stmt} (wt : R → H → (Bool → H → Prop) → Prop) (wb : R → H → (R → H → Prop) → Prop) {Qr : V → H → Prop}
    (ht : ∀ {m : Str → Option Value} {ρ : R} {h : H} {s : Shared} {k : Bool → H → Prop} {E : Value → Shared → Prop}, At K h₀ L X m h s.heap → Loc env m X ρ → wt ρ h k →
      wpAny (model prog w) A (PySem.isTrue test env (eval test env)) (fun b s' => ∃ h', At K h₀ L X m h' s'.heap ∧ Rest s s' ∧ k b h') E s)
    (hb : ∀ {m : Str → Option Value} {ρ : R} {h : H} {s : Shared} {k : R → H → Prop} {E : Value → Shared → Prop}, At K h₀ L X m h s.heap → Loc env m X ρ → wb ρ h k → wpAny (model prog w) A (execs body env) (PostS K h₀ L X env s k Qr) E s)
    {pos : Pos} {s : Shared} {Qn : R → H → Prop} {m : Str → Option Value} {h : H} {ρ : R} {E : Value → Shared → Prop} (S : At K h₀ L X m h s.heap) (l : Loc env m X ρ)
    (hE : PassesOwn (model prog w) A env E)
    (q : ∀ I : R → H → Prop, (∀ ρ h, wt ρ h (fun c h => if c = true then wb ρ h I else Qn ρ h) → I ρ h) → I ρ h) :
    wpAny (model prog w) A (exec (.While test body [] pos) env) (PostS K h₀ L X env s Qn Qr) E s := by
  refine whl_start 0 ?_
  refine q (fun ρ h => ∀ (m : Str → Option Value) (s' : Shared), At K h₀ L X m h s'.heap → Loc env m X ρ → Rest s s' → WhlRest prog w A E env test body [] (PostS K h₀ L X env s Qn Qr) 0 s') ?_ m s S l (.refl s)
  intro ρ h q m s1 S l r
  refine whl_turn (k := 0) hE (wpAny_mono (ht S l q) (fun b s2 ⟨h2, S2, r2, q2⟩ => ?_) fun _ _ x => x)
  cases b with
  | false => exact WhlIf.no rfl (wpAny_execs_nil ⟨ρ, m, h2, S2, l, r.trans r2, by simpa using q2⟩)
  | true =>
    refine WhlIf.yes rfl ?_
    refine wpAny_mono (hb S2 l (by simpa using q2)) (fun f s3 p => ?_) fun _ _ x => x
    cases f with
    | next =>
      refine e3_4 p fun ρ3 m3 h3 S3 l3 r3 q4 => ?_
      clear p
      exact q4 m3 s3 S3 l3 ((r.trans r2).trans r3)
    | ret rv =>
      refine e3_4 p fun av m3 h3 e3 S3 r3 q4 => ?_
      clear p
      exact ⟨av, m3, h3, e3, S3, (r.trans r2).trans r3, q4⟩
    | brk => exact p.elim
    | cont => exact p.elim
end

/-- the built-ins that the text reads -/
noncomputable def bltT : List (Str × Value) := [("len", .builtin "len"), ("abs", .builtin "abs"), ("isinstance", .builtin "isinstance"), ("bool", .type "bool"), ("list", .type "list"), ("sorted", .builtin "sorted"), ("str", .type "str"), ("sum", .builtin "sum"), ("range", .type "range")]
theorem bm_len : ((("len" : Str), Value.builtin "len") : Str × Value) ∈ bltT := List.Mem.head _
theorem bm_abs : ((("abs" : Str), Value.builtin "abs") : Str × Value) ∈ bltT := List.Mem.tail _ (List.Mem.head _)
theorem bm_isinstance : ((("isinstance" : Str), Value.builtin "isinstance") : Str × Value) ∈ bltT := List.Mem.tail _ (List.Mem.tail _ (List.Mem.head _))
theorem bm_bool : ((("bool" : Str), Value.type "bool") : Str × Value) ∈ bltT := List.Mem.tail _ (List.Mem.tail _ (List.Mem.tail _ (List.Mem.head _)))
theorem bm_list : ((("list" : Str), Value.type "list") : Str × Value) ∈ bltT := List.Mem.tail _ (List.Mem.tail _ (List.Mem.tail _ (List.Mem.tail _ (List.Mem.head _))))
theorem bm_sorted : ((("sorted" : Str), Value.builtin "sorted") : Str × Value) ∈ bltT := List.Mem.tail _ (List.Mem.tail _ (List.Mem.tail _ (List.Mem.tail _ (List.Mem.tail _ (List.Mem.head _)))))
theorem bm_str : ((("str" : Str), Value.type "str") : Str × Value) ∈ bltT := List.Mem.tail _ (List.Mem.tail _ (List.Mem.tail _ (List.Mem.tail _ (List.Mem.tail _ (List.Mem.tail _ (List.Mem.head _))))))
theorem bm_sum : ((("sum" : Str), Value.builtin "sum") : Str × Value) ∈ bltT := List.Mem.tail _ (List.Mem.tail _ (List.Mem.tail _ (List.Mem.tail _ (List.Mem.tail _ (List.Mem.tail _ (List.Mem.tail _ (List.Mem.head _)))))))
theorem bm_range : ((("range" : Str), Value.type "range") : Str × Value) ∈ bltT := List.Mem.tail _ (List.Mem.tail _ (List.Mem.tail _ (List.Mem.tail _ (List.Mem.tail _ (List.Mem.tail _ (List.Mem.tail _ (List.Mem.tail _ (List.Mem.head _))))))))
theorem bltT_ok : ∀ p ∈ bltT, bootBuiltins p.1 = some p.2 ∧ p.1 ≠ "__name__" ∧ (p.1 == ("__debug__" : Str)) = false := by
  intro p hp
  simp only [bltT, List.mem_cons, List.not_mem_nil, or_false] at hp
  rcases hp with rfl | rfl | rfl | rfl | rfl | rfl | rfl | rfl | rfl
  · exact ⟨(by boot_by_name : bootBuiltins (Str.ofString "len") = some (.builtin "len")), by decide, by decide⟩
  · exact ⟨(by boot_by_name : bootBuiltins (Str.ofString "abs") = some (.builtin "abs")), by decide, by decide⟩
  · exact ⟨(by boot_by_name : bootBuiltins (Str.ofString "isinstance") = some (.builtin "isinstance")), by decide, by decide⟩
  · exact ⟨(by boot_by_name : bootBuiltins (Str.ofString "bool") = some (.type "bool")), by decide, by decide⟩
  · exact ⟨(by boot_by_name : bootBuiltins (Str.ofString "list") = some (.type "list")), by decide, by decide⟩
  · exact ⟨(by boot_by_name : bootBuiltins (Str.ofString "sorted") = some (.builtin "sorted")), by decide, by decide⟩
  · exact ⟨(by boot_by_name : bootBuiltins (Str.ofString "str") = some (.type "str")), by decide, by decide⟩
  · exact ⟨(by boot_by_name : bootBuiltins (Str.ofString "sum") = some (.builtin "sum")), by decide, by decide⟩
  · exact ⟨(by boot_by_name : bootBuiltins (Str.ofString "range") = some (.type "range")), by decide, by decide⟩

section
variable {prog : Program} {w : World} {A : Around} {E : Value → Shared → Prop} {K : Frag} {h₀ : Heap} {L : Addr} {X : List (Addr × Obj)} {m : Str → Option Value} {h : H} {s : Shared} {env : Env} {ρ : R}

theorem blt_S {n : Str} {v : Value} {pos : Pos} {Q : Value → Shared → Prop} (S : At K h₀ L X m h s.heap) (O : EnvOk env L) (hm : (n, v) ∈ bltT) (hK : nsIn K mainGlobals n = some none) (hk : env.kindOf n = some .globalImplicit) (q : Q v s) :
    wpAny (model prog w) A (eval (.Name n pos) env) Q E s := by
  refine e4_1 S.cx.T fun p loose mg mb T => ?_
  refine e0_3 (bltT_ok _ hm) fun b1 b2 b3 => ?_
  exact Name_function_global O.kind hk (loadGlobal_builtin (O.glob ▸ T.g.keeps S.fr.keep) (mg_none_of S.cx.X T.g hK) (O.blt ▸ T.b.keeps S.fr.keep) ((T.builtins n b2).trans b1) q) b3
theorem glb_S {n : Str} {v : Value} {pos : Pos} {Q : Value → Shared → Prop} (S : At K h₀ L X m h s.heap) (O : EnvOk env L) (hK : nsIn K mainGlobals n = some (some v)) (hk : env.kindOf n = some .globalImplicit) (hd : (n == ("__debug__" : Str)) = false) (q : Q v s) :
    wpAny (model prog w) A (eval (.Name n pos) env) Q E s := by
  refine e4_1 S.cx.T fun p loose mg mb T => ?_
  exact Name_function_global O.kind hk (loadGlobal_global (O.glob ▸ T.g.keeps S.fr.keep) (mg_of S.cx.X T.g hK) q) hd

theorem callWith1 {f : Value} {pos : Pos} {e : PySem.Expr} {Q : Value → Shared → Prop} (hf : ∀ a, f ≠ .ref a) (he : starEach [e] env = [(false, eval e env)]) (q : wpAny (model prog w) A (eval e env) (fun v s₁ => wpAny (model prog w) A (call f [v]) Q E s₁) E s) :
    wpAny (model prog w) A (callWith pos f [] (backTo pos (starEach [e] env)) []) Q E s := by
  have hk : ∀ h : Heap, True → ∃ k, (k = Keeper.frame ∨ k = Keeper.machine ∨ k = Keeper.boundFrame) ∧ Looks (model prog w) h (keeperOf f) k := fun h _ => by
    refine ⟨.machine, .inr (.inl rfl), ?_⟩
    cases f <;> first | exact (hf _ rfl).elim | exact Looks.of_pure rfl
  rw [he]
  refine callWith_of (P := fun _ => True) rfl hk (evalArgs_plain ?_)
  have := wpAny_items_cons (rest := []) (pos := pos) (Q := fun vs s₁ => True ∧ wpAny (model prog w) A (call f ([] ++ vs)) Q E s₁) (wpAny_mono q (fun v s₁ z => wpAny_items_nil ⟨trivial, z⟩) fun _ _ x => x) he
  rw [he] at this
  exact this
theorem callWith2 {f : Value} {pos : Pos} {e e' : PySem.Expr} {Q : Value → Shared → Prop} (hf : ∀ a, f ≠ .ref a) (he : starEach [e, e'] env = [(false, eval e env), (false, eval e' env)]) (he' : starEach [e'] env = [(false, eval e' env)])
    (q : wpAny (model prog w) A (eval e env) (fun v s₁ => wpAny (model prog w) A (eval e' env) (fun u s₂ => wpAny (model prog w) A (call f [v, u]) Q E s₂) E s₁) E s) :
    wpAny (model prog w) A (callWith pos f [] (backTo pos (starEach [e, e'] env)) []) Q E s := by
  have hk : ∀ h : Heap, True → ∃ k, (k = Keeper.frame ∨ k = Keeper.machine ∨ k = Keeper.boundFrame) ∧ Looks (model prog w) h (keeperOf f) k := fun h _ => by
    refine ⟨.machine, .inr (.inl rfl), ?_⟩
    cases f <;> first | exact (hf _ rfl).elim | exact Looks.of_pure rfl
  rw [he]
  refine callWith_of (P := fun _ => True) rfl hk (evalArgs_plain ?_)
  have h2 := fun (v : Value) (s₁ : Shared) (z : wpAny (model prog w) A (eval e' env) (fun u s₂ => wpAny (model prog w) A (call f [v, u]) Q E s₂) E s₁) =>
    wpAny_items_cons (rest := []) (pos := pos) (Q := fun us s₂ => True ∧ wpAny (model prog w) A (call f ([] ++ (v :: us))) Q E s₂) (wpAny_mono z (fun u s₂ z => wpAny_items_nil ⟨trivial, z⟩) fun _ _ x => x) he'
  have := wpAny_items_cons (rest := [e']) (pos := pos) (Q := fun vs s₁ => True ∧ wpAny (model prog w) A (call f ([] ++ vs)) Q E s₁) (wpAny_mono q h2 fun _ _ x => x) (by rw [he, he'])
  rw [he] at this
  exact this
end
end Mine

namespace Mine
open PySem PySem.W PySem.Calls PyProof.Rows

section
variable {K : Frag} {h₀ : Heap} {L : Addr} {X : List (Addr × Obj)} {m : Str → Option Value} {h : H}

/-- At, and the object at C is none of it -/
structure AtC (K : Frag) (h₀ : Heap) (L : Addr) (X : List (Addr × Obj)) (m : Str → Option Value) (h : H) (hp : Heap) (C : Addr) : Prop where
  cx : Cx K h₀
  fr : Fr h₀ L hp m
  led : ∃ led D, News h₀ L hp (X ++ led) ∧ ((X ++ led).map (·.1)).Nodup ∧ RepD K h led D ∧ ∀ p ∈ X ++ led, p.1 ≠ C
  ne : C ≠ L
  new : h₀.get? C = none
theorem AtC.at {hp hp' : Heap} {C : Addr} (S : AtC K h₀ L X m h hp C) (k : Heap.SameBut C hp hp') : At K h₀ L X m h hp' := by
  refine e2_4 S.led fun led D N nd R off => ?_
  refine ⟨S.cx, ⟨S.fr.ns.sameBut k (Ne.symm S.ne), fun b o e => (k.2 b fun q => ?_).trans (S.fr.keep b o e), S.fr.above⟩, led, D, fun p hp => ⟨(k.2 _ (off p hp)).trans (N p hp).1, (N p hp).2⟩, nd, R⟩
  rw [q, S.new] at e; cases e

/-- another frame over the same objects, and back -/
theorem enter {hp : Heap} (S : At K h₀ L X m h hp) : ∃ g : Heap,
    (∀ {hp' : Heap} {L' : Addr} {Y : List (Addr × Obj)} {m' : Str → Option Value} {h' : H}, At K g L' (Y ++ X) m' h' hp' → hp.objs.size ≤ L' → AtC K h₀ L (Y ++ X) m h' hp' L') ∧
    (∀ {h₁ : Heap} {L' : Addr} {mb : Str → Option Value} {Y : List (Addr × Obj)}, h₁.Ns L' mb → hp.objs.size ≤ L' → (∀ b o, hp.get? b = some o → h₁.get? b = some o) →
      (∀ p ∈ Y, h₁.get? p.1 = some p.2 ∧ hp.objs.size ≤ p.1 ∧ p.1 ≠ L') → (Y.map (·.1)).Nodup → At K g L' (Y ++ X) mb h h₁) := by
  refine e2_3 S.led fun led D N nd R => ?_
  let as := (X ++ led).map (·.1)
  have nm : ∀ b o, h₀.get? b = some o → b ∉ as := fun b o e q => by
    refine e1_2 (List.mem_map.mp q) fun p hp e92 => ?_
    obtain rfl := e92
    rw [(N p hp).2.2] at e; cases e
  have st : ∀ b o, h₀.get? b = some o → (hideAll hp as).get? b = some o := fun b o e => hideAll_get _ (S.fr.keep b o e) (nm b o e)
  refine e3_4 S.fr.ns fun oL es ep hL hLd hLk hLf => ?_
  have nL : L ∉ as := fun q => by
    refine e1_2 (List.mem_map.mp q) fun p hp e => ?_
    exact (N p hp).2.1 e
  have hLg := hideAll_get as hL nL
  refine ⟨hideAll hp as, fun {hp' L' Y m' h'} S' hl => ?_, fun {h₁ L' mb Y} hns hl hk hY hYn => ?_⟩
  · refine e2_3 S'.led fun led' D' N' nd' R' => ?_
    have hLs : L < hp.objs.size := S.fr.ns.lt
    refine ⟨S.cx, ⟨⟨oL, es, ep, S'.fr.keep L oL hLg, hLd, hLk, hLf⟩, fun b o e => S'.fr.keep b o (st b o e), S.fr.above⟩, ⟨led', D', fun p hp' => ?_, nd', R', fun p hp' => (N' p hp').2.1⟩, fun q => ?_, ?_⟩
    · have z := N' p hp'
      refine ⟨z.1, fun q => ?_, ?_⟩
      · have := z.2.2; rw [q, hLg] at this; cases this
      · cases q : h₀.get? p.1 with
        | none => rfl
        | some o => have := z.2.2; rw [st _ _ q] at this; cases this
    · exact absurd hLs (by rw [← q]; exact Nat.not_lt.mpr hl)
    · exact Heap.get?_none_of_le (Nat.le_trans (Nat.le_of_lt (Nat.lt_of_le_of_lt S.fr.above hLs)) hl)
  · have hX : ∀ p ∈ X ++ led, h₁.get? p.1 = some p.2 ∧ p.1 ≠ L' ∧ (hideAll hp as).get? p.1 = none := fun p hp =>
      ⟨hk _ _ (N p hp).1, fun q => absurd (Heap.lt_size (N p hp).1) (by rw [q]; exact Nat.not_lt.mpr hl), hideAll_none _ (List.mem_map_of_mem hp)⟩
    refine ⟨⟨S.cx.X.keeps st, ?_⟩, ⟨hns, fun b o e => hk b o (of_hideAll _ e), by rw [hideAll_size]; exact hl⟩, led, D, fun p hp' => ?_, ?_, R⟩
    · obtain ⟨p, loose, mg, mb, T⟩ := S.cx.T; exact ⟨p, loose, mg, mb, T.keeps st⟩
    · rw [List.append_assoc] at hp'
      rcases List.mem_append.mp hp' with q | q
      · exact ⟨(hY p q).1, (hY p q).2.2, Heap.get?_none_of_le (by rw [hideAll_size]; exact (hY p q).2.1)⟩
      · exact hX p q
    · rw [List.append_assoc, List.map_append]
      refine List.nodup_append.mpr ⟨hYn, nd, fun a ha b hb e => ?_⟩
      refine e1_2 (List.mem_map.mp ha) fun p hp1 e92 => ?_
      obtain rfl := e92
      refine e1_2 (List.mem_map.mp hb) fun q hq1 e92 => ?_
      obtain rfl := e92
      exact absurd (Heap.lt_size (N q hq1).1) (by rw [← e]; exact Nat.not_lt.mpr (hY p hp1).2.1)
end

/-- the arguments of a simple def -/
theorem bindArgs_simple {fd : FuncData} {vals : List Value} {names : List Str} (h1 : fd.params.posonlyargs = []) (h2 : fd.params.args.map (·.arg) = names) (h3 : fd.params.vararg = none) (h4 : fd.params.kwonlyargs = []) (h5 : fd.params.kwarg = none)
    (h6 : fd.defaults = .none) (hn : names.Nodup) (hl : vals.length = names.length) : bindArgs fd ⟨vals, []⟩ = pure (names.zip vals) := by
  have key : ∀ (ns : List Str) (vs : List Value), ns.Nodup → vs.length = ns.length → ns.filterMap (fun n => ((ns.zip vs).lookup n).map (n, ·)) = ns.zip vs := by
    intro ns
    induction ns with
    | nil => intro vs _ _; rfl
    | cons n ns ih =>
      intro vs hn hl
      cases vs with
      | nil => cases hl
      | cons v vs =>
        rw [List.nodup_cons] at hn
        rw [List.zip_cons_cons, List.filterMap_cons]
        simp only [List.lookup_cons, beq_self_eq_true, Option.map_some]
        refine congrArg ((n, v) :: ·) (Eq.trans ?_ (ih vs hn.2 (Nat.succ.inj hl)))
        have cg : ∀ (l : List Str), (∀ x ∈ l, x ≠ n) → l.filterMap (fun x => ((match x == n with | true => some v | false => (ns.zip vs).lookup x) : Option Value).map (x, ·)) = l.filterMap (fun x => ((ns.zip vs).lookup x).map (x, ·)) := by
          intro l
          induction l with
          | nil => intro _; rfl
          | cons y l ihl =>
            intro hy
            have : (y == n) = false := beq_eq_false_iff_ne.mpr (hy y List.mem_cons_self)
            rw [List.filterMap_cons, List.filterMap_cons, this, ihl fun x hx => hy x (List.mem_cons_of_mem _ hx)]
        exact cg ns fun x hx e => hn.1 (e ▸ hx)
  have look : ∀ (ns : List Str) (vs : List Value), vs.length = ns.length → ∀ n ∈ ns, ((ns.zip vs).lookup n).isNone = false := by
    intro ns
    induction ns with
    | nil => intro vs _ n hn; cases hn
    | cons a ns ih =>
      intro vs hl n hn
      cases vs with
      | nil => cases hl
      | cons v vs =>
        rw [List.zip_cons_cons, List.lookup_cons]
        cases h : n == a with
        | true => rfl
        | false =>
          rcases List.mem_cons.mp hn with rfl | hn
          · simp at h
          · exact ih vs (Nat.succ.inj hl) n hn
  unfold bindArgs
  have e : seqItems? Value.none = pure none := rfl
  have miss : ∀ k, (names.take k).filter (fun n => ((names.zip vals).lookup n).isNone) = [] := fun k =>
    List.filter_eq_nil_iff.mpr fun n hn => by rw [look names vals hl n (List.mem_of_mem_take hn)]; exact Bool.false_ne_true
  simp only [h1, h2, h3, h4, h5, h6, List.map_nil, List.nil_append, List.append_nil, List.forIn_nil, pure_bind, e, Option.getD_none, hl, Nat.lt_irrefl, gt_iff_lt, decide_false, Bool.false_and, Bool.false_eq_true, if_false,
    List.drop_nil, List.length_nil, Nat.sub_zero, miss, List.isEmpty_nil, Bool.not_true, List.zip_nil_right, key names vals hn hl]
end Mine

namespace Mine
open PySem PySem.W PySem.Calls PyProof.Rows

noncomputable def fieldIds : List Nat := [51, 52, 53, 54, 55, 57, 58]
noncomputable def isGlob (sc : Scope) (n : Str) : Bool := sc.names.lookup n == some .globalImplicit
noncomputable def notStar : PySem.Expr → Bool
  | .Starred .. => false
  | _ => true
noncomputable def notComp : PySem.Expr → Bool
  | .ListComp .. | .SetComp .. | .DictComp .. => false
  | _ => true
noncomputable def notSlice : PySem.Expr → Bool
  | .Slice .. => false
  | _ => true
noncomputable def notSet : PySem.Expr → Bool
  | .Set .. => false
  | _ => true
noncomputable def plainBase : PySem.Expr → Bool
  | .Call (.Name _ _) [] [] _ => false
  | _ => true
theorem starEach_cons {e : PySem.Expr} {r : List PySem.Expr} {env : Env} (h : notStar e = true) : starEach (e :: r) env = (false, eval e env) :: starEach r env := by
  cases e <;> first | rfl | cases h
theorem swapsWith_no {e : PySem.Expr} {t : Option PySem.Expr} {l : Nat} {env : Env} (h : notComp e = true) : swapsWith e t l env = pure false := by
  cases e <;> first | rfl | cases h
theorem folded_no {e : PySem.Expr} {env : Env} (h : notSet e = true) (x : Value) : foldedSetIterable e env x = pure x := by
  cases e <;> first | rfl | cases h
theorem subscripted_no {s : PySem.Expr} {o i : Value} (h : notSlice s = true) : subscripted s false o i = operate [o, i] (getItem o i) := by
  cases s <;> first | rfl | cases h
theorem attributeBase_no {e : PySem.Expr} {a : Str} {env : Env} {t : Sem Value} (h : plainBase e = true) : attributeBase e a env t = t := by
  cases e with
  | Call f as ks p =>
    cases f with
    | Name n np =>
      cases as with
      | nil => cases ks with
        | nil => cases h
        | cons _ _ => rfl
      | cons _ _ => rfl
    | _ => rfl
  | _ => rfl

/-- a comprehension's names, seen from outside -/
noncomputable def relab (sc csc : Scope) : Scope := { csc with names := csc.names.map fun (n, k) => if (k == .free && sc.kind == .function && sc.names.lookup n == some .cell) then (n, .cell) else (n, k) }
theorem relab_eq (csc : Scope) (env : Env) : relabel csc env = relab env.scope csc := rfl
noncomputable def okComp (sc csc : Scope) (frees : List Nat) : Bool :=
  csc.kind == .function && csc.names.all (fun y => y.2 != .cell) && csc.names.all (fun y => y.2 != .local || csc.names.lookup y.1 == some .local) &&
  csc.names.all (fun y => y.2 != .free || frees.any fun x => nm x == y.1) &&
  frees.all fun x => csc.names.contains (nm x, .free) && (relab sc csc).names.lookup (nm x) != some .local && ((relab sc csc).names.lookup (nm x) == some .cell || (relab sc csc).names.lookup (nm x) == some .free) && (sc.names.lookup (nm x) == some .cell || sc.names.lookup (nm x) == some .free)

noncomputable def tl (pos : Pos) (G : EB) (b : PySem.Expr) (r : List PySem.Expr) : Bool := List.rec (G b) (fun c r _ => G (.BoolOp .And (b :: c :: r) pos)) r
noncomputable def kNone : EB := vConst cNone
noncomputable def kBool (b : Bool) : EB := vConst (cBool fun c => b == c)
noncomputable def kInt (i : Int) : EB := vConst (cInt fun j => i == j)
noncomputable def kStr (s : Str) : EB := vConst (cStr fun t => s == t)
noncomputable def kVar (x : Nat) : EB := vName fun n _ => n == nm x
noncomputable def kAttr (F : EB) (f : Nat) : EB := vAttr fun v n _ => n == nm f && (fieldIds.contains f && (plainBase v && F v))
noncomputable def kBin (F G : EB) (op : Op) : EB := vBin fun a o b => o == opM op && (F a && G b)
noncomputable def kNeg (i : Int) : EB := vUn fun o a => o == .USub && vConst (cInt fun j => i == j) a
noncomputable def kNot (F : EB) : EB := vUn fun o a => o == .Not && F a
noncomputable def kCmp (F G : EB) (op : Cm) : EB := vCmp fun a os bs => l1 (fun o => l1 (fun b => o == cmM op && (behindInMarks o b == false && (F a && G b))) bs) os
noncomputable def kCmp2 (F G J : EB) (op₁ op₂ : Cm) : EB := vCmp fun a os bs => l2 (fun o₁ o₂ => l2 (fun b c => o₁ == cmM op₁ && (o₂ == cmM op₂ && (behindInMarks o₂ c == false && (F a && (G b && J c))))) bs) os
noncomputable def kAnd (F G : EB) : EB := vBoo fun o l pos => o == .And && lc (fun a r => lc (fun b r => F a && tl pos G b r) r) l
noncomputable def kOr (F G : EB) : EB := vBoo fun o l _ => o == .Or && l2 (fun a b => F a && G b) l
noncomputable def kIte (F G J : EB) : EB := vIf fun t a b => F t && (G a && J b)
/-- a call by a name, no keywords -/
noncomputable def kNm (sc : Scope) (N : Str → Bool) (F : List PySem.Expr → Bool) : EB := vCal fun g es ks _ => l0 ks && (vName (fun n _ => N n && isGlob sc n) g && F es)
noncomputable def kCall (sc : Scope) (f : Nat) (F : List PySem.Expr → Bool) : EB := kNm sc (fun n => n == nm f && fnIds.contains f) F
noncomputable def kNew (sc : Scope) (C : Nat) (F : List PySem.Expr → Bool) : EB := kNm sc (fun n => n == nm (102 + C) && decide (C < 3)) F
noncomputable def kBlt (sc : Scope) (x : Str) (F : EB) : EB := kNm sc (fun n => n == x) (l1 fun a => notStar a && F a)
noncomputable def kIsB (sc : Scope) (F : EB) : EB := kNm sc (fun n => n == ("isinstance" : Str)) (l2 fun a b => vName (fun n _ => n == ("bool" : Str) && isGlob sc n) b && (notStar a && F a))
/-- a method of a name -/
noncomputable def kMt (x : Nat) (me : Str) (F : List PySem.Expr → Bool) : EB := vCal fun g as ks pos => l0 ks && (vAttr (fun v m apos => vName (fun n _ => n == nm x) v && (m == me && apos.endLine == pos.line)) g && F as)
noncomputable def kPop (x : Nat) : EB := kMt x "pop" l0
noncomputable def kMet (x : Nat) (me : Str) (F : EB) : EB := kMt x me (l1 fun a => notStar a && F a)
noncomputable def kList (F : List PySem.Expr → Bool) : EB := vList F
noncomputable def kTup (F : List PySem.Expr → Bool) : EB := vTup fun l _ => F l
noncomputable def kIdx (F G : EB) : EB := vSub fun v s => notSlice s && (F v && G s)
noncomputable def kTo (F G : EB) : EB := vSub fun v s => vSli (fun a b c => oN a && (oN c && oS (fun u => F v && G u) b)) s
noncomputable def kFrom (F G : EB) : EB := vSub fun v s => vSli (fun a b c => oN b && (oN c && oS (fun u => F v && G u) a)) s
noncomputable def isTru (e : Ex) : Bool := match e with
  | .bool b => b
  | _ => false
noncomputable def kCond (cond : Ex) (F : EB) (l : List PySem.Expr) : Bool := List.rec (isTru cond) (fun c r _ => l0 r && F c) l
noncomputable def kSrc (sc : Scope) (rng : Bool) (F : EB) (iter : PySem.Expr) : Bool := notSet iter && @Bool.rec (fun _ => Bool) (F iter) (kBlt sc "range" F iter) rng
noncomputable def kGen (T : EB) (C : List PySem.Expr → Bool) (I : EB) (g : Comprehension) : Bool := g.is_async == 0 && (T g.target && (C g.ifs && I g.iter))
noncomputable def kComp (sc : Scope) (tgts : List Nat) (tup : Bool) (frees : List Nat) (rng : Bool) (cond : Ex) (F G : Scope → EB) (J : EB) : EB :=
  vCom fun elt' gs csc _ => okComp sc csc frees && (F (relab sc csc) elt' && l1 (kGen (okT (relab sc csc) tup tgts) (kCond cond (G (relab sc csc))) (kSrc sc rng J)) gs)
noncomputable def kCons (F : EB) (G : List PySem.Expr → Bool) : List PySem.Expr → Bool := lc fun a as => notStar a && (F a && G as)
noncomputable def kNil : List PySem.Expr → Bool := l0

section
variable {P : PySem.Expr → Prop} {e : PySem.Expr} {F G J : EB} {sc : Scope}
@[elab_as_elim] theorem kNone_el (h : kNone e = true) (kk : ∀ k p, P (.Constant .none k p)) : P e := vConst_el h fun c k p h => cNone_el (P := fun c => P (.Constant c k p)) h (kk k p)
@[elab_as_elim] theorem kBool_el {b : Bool} (h : kBool b e = true) (kk : ∀ k p, P (.Constant (.bool b) k p)) : P e := vConst_el h fun c k p h => cBool_el (P := fun c => P (.Constant c k p)) h fun _ h => eqb h ▸ kk k p
@[elab_as_elim] theorem kInt_el {b : Int} (h : kInt b e = true) (kk : ∀ k p, P (.Constant (.int b) k p)) : P e := vConst_el h fun c k p h => cInt_el (P := fun c => P (.Constant c k p)) h fun _ h => eqb h ▸ kk k p
@[elab_as_elim] theorem kStr_el {b : Str} (h : kStr b e = true) (kk : ∀ k p, P (.Constant (.str b) k p)) : P e := vConst_el h fun c k p h => cStr_el (P := fun c => P (.Constant c k p)) h fun _ h => eqb h ▸ kk k p
@[elab_as_elim] theorem kVar_el {x : Nat} (h : kVar x e = true) (kk : ∀ p, P (.Name (nm x) p)) : P e := vName_el h fun _ p h => (eqb h).symm ▸ kk p
@[elab_as_elim] theorem kAttr_el {f : Nat} (h : kAttr F f e = true) (kk : ∀ v p, f ∈ fieldIds → plainBase v = true → F v = true → P (.Attribute v (nm f) p)) : P e :=
  vAttr_el h fun v _ p h => (eqb (a1 h)).symm ▸ kk v p (List.contains_iff_mem.mp (a1 (a2 h))) (a1 (a2 (a2 h))) (a2 (a2 (a2 h)))
@[elab_as_elim] theorem kBin_el {op : Op} (h : kBin F G op e = true) (kk : ∀ a b p, F a = true → G b = true → P (.BinOp a (opM op) b p)) : P e :=
  vBin_el h fun a _ b p h => (eqb (a1 h)).symm ▸ kk a b p (a1 (a2 h)) (a2 (a2 h))
@[elab_as_elim] theorem kNeg_el {i : Int} (h : kNeg i e = true) (kk : ∀ k p' p, P (.UnaryOp .USub (.Constant (.int i) k p') p)) : P e :=
  vUn_el h fun _ a p h => (eqb (a1 h)).symm ▸ kInt_el (P := fun a => P (.UnaryOp .USub a p)) (a2 h) fun k p' => kk k p' p
@[elab_as_elim] theorem kNot_el (h : kNot F e = true) (kk : ∀ a p, F a = true → P (.UnaryOp .Not a p)) : P e := vUn_el h fun _ a p h => (eqb (a1 h)).symm ▸ kk a p (a2 h)
@[elab_as_elim] theorem kCmp_el {op : Cm} (h : kCmp F G op e = true) (kk : ∀ a b p, behindInMarks (cmM op) b = false → F a = true → G b = true → P (.Compare a [cmM op] [b] p)) : P e :=
  vCmp_el h fun a _ bs p h => l1_el (P := fun os => P (.Compare a os bs p)) h fun _ h => l1_el (P := fun bs => P (.Compare a [_] bs p)) h fun b h => by
    cases eqb (a1 h); exact kk a b p (eqb (a1 (a2 h))) (a1 (a2 (a2 h))) (a2 (a2 (a2 h)))
@[elab_as_elim] theorem kCmp2_el {op₁ op₂ : Cm} (h : kCmp2 F G J op₁ op₂ e = true) (kk : ∀ a b c p, behindInMarks (cmM op₂) c = false → F a = true → G b = true → J c = true → P (.Compare a [cmM op₁, cmM op₂] [b, c] p)) : P e :=
  vCmp_el h fun a _ bs p h => l2_el (P := fun os => P (.Compare a os bs p)) h fun _ _ h => l2_el (P := fun bs => P (.Compare a [_, _] bs p)) h fun b c h => by
    cases eqb (a1 h); cases eqb (a1 (a2 h)); exact kk a b c p (eqb (a1 (a2 (a2 h)))) (a1 (a2 (a2 (a2 h)))) (a1 (a2 (a2 (a2 (a2 h))))) (a2 (a2 (a2 (a2 (a2 h)))))
@[elab_as_elim] theorem kAnd_el (h : kAnd F G e = true) (kk : ∀ a b r p, F a = true → tl p G b r = true → P (.BoolOp .And (a :: b :: r) p)) : P e :=
  vBoo_el h fun _ l p h => (eqb (a1 h)).symm ▸ lc_el (P := fun l => P (.BoolOp .And l p)) (a2 h) fun a _ h => lc_el (P := fun r => P (.BoolOp .And (a :: r) p)) h fun b r h => kk a b r p (a1 h) (a2 h)
@[elab_as_elim] theorem kOr_el (h : kOr F G e = true) (kk : ∀ a b p, F a = true → G b = true → P (.BoolOp .Or [a, b] p)) : P e :=
  vBoo_el h fun _ l p h => (eqb (a1 h)).symm ▸ l2_el (P := fun l => P (.BoolOp .Or l p)) (a2 h) fun a b h => kk a b p (a1 h) (a2 h)
@[elab_as_elim] theorem kIte_el (h : kIte F G J e = true) (kk : ∀ t a b p, F t = true → G a = true → J b = true → P (.IfExp t a b p)) : P e := vIf_el h fun t a b p h => kk t a b p (a1 h) (a1 (a2 h)) (a2 (a2 h))
@[elab_as_elim] theorem kNm_el {N : Str → Bool} {F : List PySem.Expr → Bool} (h : kNm sc N F e = true) (kk : ∀ n np es p, N n = true → sc.names.lookup n = some .globalImplicit → F es = true → P (.Call (.Name n np) es [] p)) : P e :=
  vCal_el h fun _ es ks p h => l0_el (P := fun ks => P (.Call _ es ks p)) (a1 h) (vName_el (P := fun g => P (.Call g es [] p)) (a1 (a2 h)) fun n np h' => kk n np es p (a1 h') (eqb (a2 h')) (a2 (a2 h)))
@[elab_as_elim] theorem kCall_el {f : Nat} {F : List PySem.Expr → Bool} (h : kCall sc f F e = true) (kk : ∀ np es p, f ∈ fnIds → sc.names.lookup (nm f) = some .globalImplicit → F es = true → P (.Call (.Name (nm f) np) es [] p)) : P e :=
  kNm_el h fun _ np es p h1 h2 h3 => by cases eqb (a1 h1); exact kk np es p (List.contains_iff_mem.mp (a2 h1)) h2 h3
@[elab_as_elim] theorem kNew_el {C : Nat} {F : List PySem.Expr → Bool} (h : kNew sc C F e = true) (kk : ∀ np es p, C < 3 → sc.names.lookup (nm (102 + C)) = some .globalImplicit → F es = true → P (.Call (.Name (nm (102 + C)) np) es [] p)) : P e :=
  kNm_el h fun _ np es p h1 h2 h3 => by cases eqb (a1 h1); exact kk np es p (of_decide_eq_true (a2 h1)) h2 h3
@[elab_as_elim] theorem kBlt_el {x : Str} (h : kBlt sc x F e = true) (kk : ∀ np a p, sc.names.lookup x = some .globalImplicit → notStar a = true → F a = true → P (.Call (.Name x np) [a] [] p)) : P e :=
  kNm_el h fun _ np es p h1 h2 h3 => by cases eqb h1; exact l1_el (P := fun es => P (.Call _ es [] p)) h3 fun a h => kk np a p h2 (a1 h) (a2 h)
@[elab_as_elim] theorem kIsB_el (h : kIsB sc F e = true) (kk : ∀ np a np' p, sc.names.lookup ("isinstance" : Str) = some .globalImplicit → sc.names.lookup ("bool" : Str) = some .globalImplicit → notStar a = true → F a = true → P (.Call (.Name "isinstance" np) [a, .Name "bool" np'] [] p)) : P e :=
  kNm_el h fun _ np es p h1 h2 h3 => by
    cases eqb h1
    exact l2_el (P := fun es => P (.Call _ es [] p)) h3 fun a b h => vName_el (P := fun b => P (.Call _ [a, b] [] p)) (a1 h) fun _ np' h' => by cases eqb (a1 h'); exact kk np a np' p h2 (eqb (a2 h')) (a1 (a2 h)) (a2 (a2 h))
@[elab_as_elim] theorem kMt_el {x : Nat} {me : Str} {F : List PySem.Expr → Bool} (h : kMt x me F e = true) (kk : ∀ np apos as pos, (apos.endLine == pos.line) = true → F as = true → P (.Call (.Attribute (.Name (nm x) np) me apos) as [] pos)) : P e :=
  vCal_el h fun _ as ks pos h => l0_el (P := fun ks => P (.Call _ as ks pos)) (a1 h) (vAttr_el (P := fun g => P (.Call g as [] pos)) (a1 (a2 h)) fun _ _ apos h' => vName_el (P := fun v => P (.Call (.Attribute v _ apos) as [] pos)) (a1 h') fun _ np h'' => by
    cases eqb h''; cases eqb (a1 (a2 h')); exact kk np apos as pos (a2 (a2 h')) (a2 (a2 h)))
@[elab_as_elim] theorem kMet_el {x : Nat} {me : Str} (h : kMet x me F e = true) (kk : ∀ np apos a pos, (apos.endLine == pos.line) = true → notStar a = true → F a = true → P (.Call (.Attribute (.Name (nm x) np) me apos) [a] [] pos)) : P e :=
  kMt_el h fun np apos _ pos h1 h2 => l1_el (P := fun as => P (.Call _ as [] pos)) h2 fun a h => kk np apos a pos h1 (a1 h) (a2 h)
@[elab_as_elim] theorem kIdx_el (h : kIdx F G e = true) (kk : ∀ v s p, notSlice s = true → F v = true → G s = true → P (.Subscript v s p)) : P e := vSub_el h fun v s p h => kk v s p (a1 h) (a1 (a2 h)) (a2 (a2 h))
@[elab_as_elim] theorem kTo_el (h : kTo F G e = true) (kk : ∀ v u p' p, F v = true → G u = true → P (.Subscript v (.Slice none (some u) none p') p)) : P e :=
  vSub_el h fun v _ p h => vSli_el (P := fun s => P (.Subscript v s p)) h fun _ b c p' h => oN_el (P := fun a => P (.Subscript v (.Slice a b c p') p)) (a1 h) (oN_el (P := fun c => P (.Subscript v (.Slice none b c p') p)) (a1 (a2 h)) (oS_el (P := fun b => P (.Subscript v (.Slice none b none p') p)) (a2 (a2 h)) fun u h => kk v u p' p (a1 h) (a2 h)))
@[elab_as_elim] theorem kFrom_el (h : kFrom F G e = true) (kk : ∀ v u p' p, F v = true → G u = true → P (.Subscript v (.Slice (some u) none none p') p)) : P e :=
  vSub_el h fun v _ p h => vSli_el (P := fun s => P (.Subscript v s p)) h fun a _ c p' h => oN_el (P := fun b => P (.Subscript v (.Slice a b c p') p)) (a1 h) (oN_el (P := fun c => P (.Subscript v (.Slice a none c p') p)) (a1 (a2 h)) (oS_el (P := fun a => P (.Subscript v (.Slice a none none p') p)) (a2 (a2 h)) fun u h => kk v u p' p (a1 h) (a2 h)))
theorem kSrc_set {rng : Bool} (h : kSrc sc rng F e = true) : notSet e = true := a1 h
theorem kGen_el {T I : EB} {C : List PySem.Expr → Bool} {P : Comprehension → Prop} {g : Comprehension} (h : kGen T C I g = true) (kk : ∀ t i c, T t = true → C c = true → I i = true → P ⟨t, i, c, 0⟩) : P g := by
  obtain ⟨t, i, c, a⟩ := g
  cases eqb (α := Int) (a1 h)
  exact kk t i c (a1 (a2 h)) (a1 (a2 (a2 h))) (a2 (a2 (a2 h)))
@[elab_as_elim] theorem kComp_el {tgts frees : List Nat} {tup rng : Bool} {cond : Ex} {F G : Scope → EB} (h : kComp sc tgts tup frees rng cond F G J e = true)
    (kk : ∀ a t i c csc p, okComp sc csc frees = true → F (relab sc csc) a = true → okT (relab sc csc) tup tgts t = true → kCond cond (G (relab sc csc)) c = true → kSrc sc rng J i = true → P (.ListComp a [⟨t, i, c, 0⟩] csc p)) : P e :=
  vCom_el h fun a _ csc p h => l1_el (P := fun gs => P (.ListComp a gs csc p)) (a2 (a2 h)) fun _ h' => kGen_el (P := fun g => P (.ListComp a [g] csc p)) h' fun t i c h1 h2 h3 => kk a t i c csc p (a1 h) (a1 (a2 h)) h1 h2 h3
end
mutual
noncomputable def okE : Ex → Scope → PySem.Expr → Bool
  | .none, _, e => kNone e
  | .bool b, _, e => kBool b e
  | .int i, _, e => kInt i e
  | .str s, _, e => kStr s e
  | .var x, _, e => kVar x e
  | .attr a f, sc, e => kAttr (okE a sc) f e
  | .bin op l r, sc, e => kBin (okE l sc) (okE r sc) op e
  | .neg i, _, e => kNeg i e
  | .not a, sc, e => kNot (okE a sc) e
  | .cmp op l r, sc, e => kCmp (okE l sc) (okE r sc) op e
  | .cmp2 op₁ op₂ l m r, sc, e => kCmp2 (okE l sc) (okE m sc) (okE r sc) op₁ op₂ e
  | .and l r, sc, e => kAnd (okE l sc) (okE r sc) e
  | .or l r, sc, e => kOr (okE l sc) (okE r sc) e
  | .ite t a b, sc, e => kIte (okE t sc) (okE a sc) (okE b sc) e
  | .call f as, sc, e => kCall sc f (okEs as sc) e
  | .new C as, sc, e => kNew sc C (okEs as sc) e
  | .len a, sc, e => kBlt sc "len" (okE a sc) e
  | .abs a, sc, e => kBlt sc "abs" (okE a sc) e
  | .isBool a, sc, e => kIsB sc (okE a sc) e
  | .listOf a, sc, e => kBlt sc "list" (okE a sc) e
  | .sorted a, sc, e => kBlt sc "sorted" (okE a sc) e
  | .strOf a, sc, e => kBlt sc "str" (okE a sc) e
  | .sum a, sc, e => kBlt sc "sum" (okE a sc) e
  | .eqDat l r, sc, e => kCmp (okE l sc) (okE r sc) .eq e
  | .pop x, _, e => kPop x e
  | .append x a, sc, e => kMet x "append" (okE a sc) e
  | .extend x a, sc, e => kMet x "extend" (okE a sc) e
  | .list es, sc, e => kList (okEs es sc) e
  | .tup es, sc, e => kTup (okEs es sc) e
  | .idx a i, sc, e => kIdx (okE a sc) (okE i sc) e
  | .sliceTo a i, sc, e => kTo (okE a sc) (okE i sc) e
  | .sliceFrom a i, sc, e => kFrom (okE a sc) (okE i sc) e
  | .comp elt tgts tup frees rng src cond, sc, e => kComp sc tgts tup frees rng cond (okE elt) (okE cond) (okE src sc) e
noncomputable def okEs : Exs → Scope → List PySem.Expr → Bool
  | .nil, _, l => kNil l
  | .cons e es, sc, l => kCons (okE e sc) (okEs es sc) l
end
noncomputable def noSwap : PySem.Expr → Bool
  | .Tuple .. | .List .. => false
  | e => notComp e
/-- a comprehension that is stored while its own names still stand apart -/
noncomputable def swC (t v : PySem.Expr) : Bool := vName (fun n p => vCom (fun _ _ s lp => p.line == lp.line && !(s.names.any fun (n', k) => n' == n && (k == .local || k == .cell))) v) t
/-- a pair of values that goes to two names, the last one first -/
noncomputable def swT (ts : List PySem.Expr) (v : PySem.Expr) : Bool := l2 (fun e₁ e₂ => vName (fun n₁ p₁ => vName (fun n₂ p₂ => vTup (fun l _ => l2 (fun a b =>
  n₁ != n₂ && (p₂.line == p₁.line && (!(foldedForSure 8 a && foldedForSure 8 b) && (!(constantsAlone 8 a && constantsAlone 8 b) && (notStar a && notStar b))))) l) v) e₂) e₁) ts
noncomputable def sAssign (sc : Scope) (x : Nat) (F : EB) : SB := wAss fun ts v => l1 (fun t => okTgt sc x t && ((notComp v || swC t v) && F v)) ts
noncomputable def sAssignT (sc : Scope) (xs : List Nat) (F : EB) : SB := wAss fun ts v => l1 (vTup fun l _ => okTgts sc xs l && ((noSwap v || swT l v) && F v)) ts
noncomputable def sSetAttr (f : Nat) (F G : EB) : SB := wAss fun ts v => l1 (vAttr fun ob n _ => n == nm f && (fieldIds.contains f && (notComp v && (F v && G ob)))) ts
noncomputable def sSetIdx (F G J : EB) : SB := wAss fun ts v => l1 (vSub fun ob ix => notSlice ix && (notComp v && (F v && (G ob && J ix)))) ts
noncomputable def sExpr (F : EB) : SB := wExp fun v => notComp v && F v
noncomputable def sRet (F : EB) : SB := wRet (oS F)
noncomputable def sRetN : SB := wRet oN
noncomputable def sIte (F : EB) (G J : List PySem.Stmt → Bool) : SB := wIf fun t a b => F t && (G a && J b)
noncomputable def sWhile (F : EB) (G : List PySem.Stmt → Bool) : SB := wWhi fun t b o => l0 o && (F t && G b)
noncomputable def sFor (sc : Scope) (tgts : List Nat) (tup rng : Bool) (F : EB) (G : List PySem.Stmt → Bool) : SB := wFor fun t i b o => l0 o && (okT sc tup tgts t && (kSrc sc rng F i && G b))
noncomputable def sCons (F : SB) (G : List PySem.Stmt → Bool) : List PySem.Stmt → Bool := lc fun a as => F a && G as
noncomputable def sNil : List PySem.Stmt → Bool := l0
section
variable {P : PySem.Stmt → Prop} {e : PySem.Stmt} {F G J : EB} {sc : Scope}
@[elab_as_elim] theorem sAssign_el {x : Nat} (h : sAssign sc x F e = true) (kk : ∀ t v p, okTgt sc x t = true → (notComp v || swC t v) = true → F v = true → P (.Assign [t] v p)) : P e :=
  wAss_el h fun ts v p h => l1_el (P := fun ts => P (.Assign ts v p)) h fun t h => kk t v p (a1 h) (a1 (a2 h)) (a2 (a2 h))
@[elab_as_elim] theorem sAssignT_el {xs : List Nat} (h : sAssignT sc xs F e = true) (kk : ∀ l k tp v p, okTgts sc xs l = true → (noSwap v || swT l v) = true → F v = true → P (.Assign [.Tuple l k tp] v p)) : P e :=
  wAss_el h fun ts v p h => l1_el (P := fun ts => P (.Assign ts v p)) h fun t h => vTup_el (P := fun t => P (.Assign [t] v p)) h fun l k tp h => kk l k tp v p (a1 h) (a1 (a2 h)) (a2 (a2 h))
@[elab_as_elim] theorem sSetAttr_el {f : Nat} (h : sSetAttr f F G e = true) (kk : ∀ ob p' v p, f ∈ fieldIds → notComp v = true → F v = true → G ob = true → P (.Assign [.Attribute ob (nm f) p'] v p)) : P e :=
  wAss_el h fun ts v p h => l1_el (P := fun ts => P (.Assign ts v p)) h fun t h => vAttr_el (P := fun t => P (.Assign [t] v p)) h fun ob _ p' h => (eqb (a1 h)).symm ▸ kk ob p' v p (List.contains_iff_mem.mp (a1 (a2 h))) (a1 (a2 (a2 h))) (a1 (a2 (a2 (a2 h)))) (a2 (a2 (a2 (a2 h))))
@[elab_as_elim] theorem sSetIdx_el (h : sSetIdx F G J e = true) (kk : ∀ ob ix p' v p, notSlice ix = true → notComp v = true → F v = true → G ob = true → J ix = true → P (.Assign [.Subscript ob ix p'] v p)) : P e :=
  wAss_el h fun ts v p h => l1_el (P := fun ts => P (.Assign ts v p)) h fun t h => vSub_el (P := fun t => P (.Assign [t] v p)) h fun ob ix p' h => kk ob ix p' v p (a1 h) (a1 (a2 h)) (a1 (a2 (a2 h))) (a1 (a2 (a2 (a2 h)))) (a2 (a2 (a2 (a2 h))))
@[elab_as_elim] theorem swC_el {P : PySem.Expr → PySem.Expr → Prop} {t v : PySem.Expr} (h : swC t v = true)
    (kk : ∀ n p a gs s lp, (p.line == lp.line && !(s.names.any fun (n', k) => n' == n && (k == .local || k == .cell))) = true → P (.Name n p) (.ListComp a gs s lp)) : P t v :=
  vName_el (P := fun t => P t v) h fun n p h => vCom_el (P := fun v => P _ v) h fun a gs s lp h => kk n p a gs s lp h
@[elab_as_elim] theorem swT_el {P : List PySem.Expr → PySem.Expr → Prop} {ts : List PySem.Expr} {v : PySem.Expr} (h : swT ts v = true)
    (kk : ∀ n₁ p₁ n₂ p₂ a b k p, (n₁ != n₂ && (p₂.line == p₁.line && (!(foldedForSure 8 a && foldedForSure 8 b) && (!(constantsAlone 8 a && constantsAlone 8 b) && (notStar a && notStar b))))) = true → P [.Name n₁ p₁, .Name n₂ p₂] (.Tuple [a, b] k p)) : P ts v :=
  l2_el (P := fun ts => P ts v) h fun e₁ e₂ h => vName_el (P := fun e₁ => P [e₁, e₂] v) h fun n₁ p₁ h => vName_el (P := fun e₂ => P [_, e₂] v) h fun n₂ p₂ h => vTup_el (P := fun v => P _ v) h fun l k p h => l2_el (P := fun l => P _ (.Tuple l k p)) h fun a b h => kk n₁ p₁ n₂ p₂ a b k p h
end
mutual
/-- no while within -/
noncomputable def noW : St → Bool
  | .ite _ a b => noWs a && noWs b
  | .while _ _ => false
  | .for _ _ _ _ b => noWs b
  | _ => true
noncomputable def noWs : Sts → Bool
  | .nil => true
  | .cons s r => noW s && noWs r
end
mutual
noncomputable def okS : St → Scope → PySem.Stmt → Bool
  | .assign x e, sc, s => sAssign sc x (okE e sc) s
  | .assignT xs e, sc, s => sAssignT sc xs (okE e sc) s
  | .setAttr o f e, sc, s => sSetAttr f (okE e sc) (okE o sc) s
  | .setIdx o i e, sc, s => sSetIdx (okE e sc) (okE o sc) (okE i sc) s
  | .expr e, sc, s => sExpr (okE e sc) s
  | .ret e, sc, s => sRet (okE e sc) s
  | .retN, _, s => sRetN s
  | .ite t a b, sc, s => sIte (okE t sc) (okB a sc) (okB b sc) s
  | .while t b, sc, s => noWs b && sWhile (okE t sc) (okB b sc) s
  | .for tgts tup rng src b, sc, s => noWs b && sFor sc tgts tup rng (okE src sc) (okB b sc) s
noncomputable def okB : Sts → Scope → List PySem.Stmt → Bool
  | .nil, _, l => sNil l
  | .cons s r, sc, l => sCons (okS s sc) (okB r sc) l
end

noncomputable def fnAddr (K : Frag) (f : Nat) : Option Addr := if f < 1000 then (match nsIn K mainGlobals (nm f) with
    | some (some (.ref a)) => some a
    | _ => none)
  else (match clsA K (f - 1000) with
    | some ca => (match findIn K (.ref ca) "__init__" with
      | some (some (.ref a)) => some a
      | _ => none)
    | none => none)
noncomputable def cellsN (sc : Scope) : List (Str × NameKind) := sc.names.filter fun y => y.2 == .cell
/-- the kinds of a def's parameters -/
noncomputable def kindLC (o : Option NameKind) : Bool := o == some .local || o == some .cell
noncomputable def okPar (sc : Scope) (x : Nat) : Bool := decide (x < nmN) && kindLC (sc.names.lookup (nm x))
noncomputable def okFn (K : Frag) (fd : Fd) (fn : FuncData) : Bool :=
  fn.globals == mainGlobals && (fn.builtins == builtinsNs && (fn.closure.isEmpty && (fn.defaults == .none && (codeIn K fn.code fn.qualname &&
  (fn.params.posonlyargs.isEmpty && (fn.params.vararg.isNone && (fn.params.kwonlyargs.isEmpty && (fn.params.kwarg.isNone && (fn.params.args.map (·.arg) == fd.params.map nm &&
  (fd.params.all (okPar fn.scope) && (decide fd.params.Nodup && (fn.scope.isCoroutine == false && (fn.scope.isGenerator == false && (fn.scope.kind == .function &&
  match fn.body with
    | .stmts b => okB fd.body fn.scope b
    | _ => false))))))))))))))
noncomputable def objFn (F : FuncData → Bool) (o : Obj) : Bool := match o.data with
  | .func fn => F fn
  | _ => false
theorem objFn_ex {F : FuncData → Bool} {o : Obj} (h : objFn F o = true) : ∃ fn, o.data = .func fn ∧ F fn = true := by
  unfold objFn at h
  cases e : o.data with
  | func fn => rw [e] at h; exact ⟨fn, rfl, h⟩
  | _ => rw [e] at h; exact off h
theorem oS_ex {α : Type} {f : α → Bool} {o : Option α} (h : oS f o = true) : ∃ a, o = some a ∧ f a = true := oS_el (P := fun o => ∃ a, o = some a ∧ f a = true) h fun a h => ⟨a, rfl, h⟩
noncomputable def fnOk (K : Frag) (f : Nat) : Bool := oS (fun fd => oS (fun a => oS (objFn (okFn K fd)) (K.lookup a)) (fnAddr K f)) (fnT f)
end Mine

namespace Mine
open PySem PySem.W PySem.Calls PyProof.Rows

section
variable {prog : Program} {w : World} {A : Around} {E : Value → Shared → Prop} {K : Frag} {h₀ : Heap} {L I : Addr} {X : List (Addr × Obj)} {m : Str → Option Value} {h : H} {s : Shared} {env : Env} {ρ : R}

theorem At.perm {hp : Heap} {X' : List (Addr × Obj)} (S : At K h₀ L X m h hp) (p : X'.Perm X) : At K h₀ L X' m h hp := by
  refine e2_3 S.led fun led D N nd R => ?_
  have e : (X' ++ led).Perm (X ++ led) := p.append_right led
  exact ⟨S.cx, S.fr, led, D, fun q hq => N q (e.mem_iff.mp hq), (e.map _).nodup_iff.mpr nd, R⟩
theorem At.swap {hp : Heap} {p q : Addr × Obj} (S : At K h₀ L (p :: q :: X) m h hp) : At K h₀ L (q :: p :: X) m h hp := S.perm (List.Perm.swap p q X)
/-- a list that was kept apart becomes an object -/
theorem At.adopt {hp : Heap} {D n : Nat} {vs : List Value} {xs : List V} (S : At K h₀ L ((D, lstO vs n) :: X) m h hp) (hv : vs.map ab = xs.map some) : h D = none ∧ At K h₀ L X m (h.set D (.list xs)) hp := by
  refine e2_3 S.led fun led D' N nd R => ?_
  have nd1 := List.nodup_cons.mp nd
  refine ⟨?_, S.cx, S.fr, (D, lstO vs n) :: led, D', news_perm N, ?_, R.add (o := .list xs) (fun z => z) ⟨vs, n, List.mem_singleton.mpr rfl, hv⟩⟩
  · cases q : h D with
    | none => rfl
    | some o =>
      obtain ⟨ob, hm⟩ := (R.om D o q).kind
      exact absurd (List.mem_map_of_mem (f := (·.1)) (List.mem_append_right X hm)) nd1.1
  · have e : ((X ++ (D, lstO vs n) :: led).map (·.1)).Perm (D :: ((X ++ led).map (·.1))) := by
      rw [List.map_append, List.map_cons, List.map_append]
      exact List.perm_middle
    exact e.nodup_iff.mpr nd

/-- what a loop's source hands on: its iterator is new -/
noncomputable def SrcPost (K : Frag) (h₀ : Heap) (L : Addr) (X : List (Addr × Obj)) (m : Str → Option Value) (s : Shared) (G : V → List V → H → Prop) (it : Value) (s₂ : Shared) : Prop :=
  ∃ hp oI h' src xs, it = .ref hp.objs.size ∧ s₂.heap = hp.push oI ∧ oI.isFreed = false ∧ At K h₀ L X m h' hp ∧ Rest s s₂ ∧ SrcIs h' xs src ∧ ItOb src 0 oI ∧ xs.length ≤ lim ∧ G src.val xs h'

theorem srcIter_S {iter a : PySem.Expr} {n : Str} {np cp : Pos} {rng : Bool} {G : V → List V → H → Prop} (S : At K h₀ L X m h s.heap) (O : EnvOk env L)
    (wsrc : (V → H → Prop) → Prop) (hs : ∀ {Q : V → H → Prop} {e : PySem.Expr}, (rng = false → e = iter) → (rng = true → e = a) → wsrc Q → wpAny (model prog w) A (eval e env) (Post K h₀ L X m s Q) E s)
    (hr : rng = true → iter = .Call (.Name n np) [a] [] cp ∧ notStar a = true ∧ n = ("range" : Str) ∧ env.kindOf n = some .globalImplicit ∧ nsIn K mainGlobals "range" = some none)
    (q : wsrc fun v h => need (srcItems rng h v) fun xs => xs.length ≤ lim ∧ G v xs h) :
    wpAny (model prog w) A (eval iter env) (fun x s₁ => wpAny (model prog w) A (pyIter x) (SrcPost K h₀ L X m s G) E s₁) E s := by
  cases rng with
  | false =>
    refine bindP (hs (fun _ => rfl) (fun z => nomatch z) q) fun x s₁ av h' hv S1 r q9 => need_el q9 fun xs e q9 => have hl := q9.1; have g := q9.2; ?_
    have e' : itemsOf h' av = some xs := e
    replace e := itemsOf_ref e'
    obtain ⟨l, rfl, e⟩ := e
    cases ab_ref hv
    rcases e with e | e
    · refine e1_2 (S1.list e) fun vs L1 hvs => ?_
      refine wpAny_pyIter_list L1 ⟨s₁.heap, _, h', .lst l, xs, rfl, rfl, rfl, S1, r.trans ⟨rfl, rfl⟩, e, ⟨rfl, rfl⟩, hl, g⟩
    · refine e1_2 (S1.tup e) fun vs L1 hvs => ?_
      refine wpAny_pyIter_tuple L1 ⟨s₁.heap, _, h', .tup l, xs, rfl, rfl, rfl, S1, r.trans ⟨rfl, rfl⟩, e, ⟨rfl, rfl⟩, hl, g⟩
  | true =>
    refine e0_5 (hr rfl) fun e90 h1 e92 hk hK => ?_
    obtain rfl := e90
    obtain rfl := e92
    rw [arm_eval_Call_Name']
    refine wpAny_bind (blt_S S O bm_range hK hk ?_)
    refine callWith1 (fun _ z => nomatch z) (starEach_cons h1) ?_
    refine bindP (hs (fun z => nomatch z) (fun _ => rfl) q) fun x s₁ av h' hv S1 r q9 => need_el q9 fun xs e q9 => have hl := q9.1; have g := q9.2; ?_
    refine e1_2 (Option.bind_eq_some_iff.mp e) fun n e1 e2 => ?_
    set_option tactic.hygienic true in split at e2
    · rename_i h0
      replace e2 := Option.some.inj e2
      cases av <;> first | (cases e1; done) | skip
      cases e1
      obtain ⟨t, rfl⟩ := ab_int hv
      refine call_range_1 ?_
      have hn : n.toNat ≤ lim := by rw [← e2] at hl; simpa using hl
      unfold lim at hn
      have hsz : Builtin.Range.rangeSize 0 n 1 = ((n.toNat : Nat) : Int) := by rw [rangeSize_one]; split <;> lia
      have S2 := S1.ext (hp' := s₁.heap.push { cls := .type "range", data := .fields #[.int 0 s₁.toks, .int n t, .int 1 (s₁.toks + 1)] }) fun b o e => Heap.get?_push_of_some _ e
      refine wpAny_pyIter_range (IsRange.new s₁.heap 0 n 1 s₁.toks t (s₁.toks + 1)) (small_one (by lia) (by lia) (by lia) (by lia)) ?_
      rw [hsz]
      refine ⟨_, _, h', .rng n, xs, rfl, rfl, rfl, S2, r.trans ⟨rfl, rfl⟩, e2.symm, ?_, hl, g⟩
      show _ = _
      simp
    · cases e2
end
end Mine

namespace Mine
open PySem PySem.W PySem.Calls PyProof.Rows

section
variable {prog : Program} {w : World} {A : Around}

theorem compTests_any {R : Result → Shared → Prop} {s : Shared} {elt target iter : PySem.Expr} {ifs : List PySem.Expr} {scope : Scope} {pos : Pos} {it acc : Value} {env : Env} (I : Nat → Shared → Prop)
    (turn : ∀ n s, I n s → wpAny (model prog w) A (pyNext it) (fun r s₁ => match r with
      | none => R (.ok .next) s₁
      | some v => wpAny (model prog w) A (letOwnedTupleGo target it v) (fun _ s₁' => wpAny (model prog w) A (assign target env v) (fun _ s₂ =>
          wpAny (model prog w) A (forIn ifs true fun c r => if r = true then do let ok ← PySem.isTrue c env (eval c env); pure (ForInStep.yield ok) else pure (ForInStep.yield r)) (fun ok s₃ =>
            if ok = true then wpAny (model prog w) A (eval elt env) (fun x s₄ =>
              wpAny (model prog w) A (call (.builtin "list.append") [acc, x]) (fun _ s₅ => ∃ m, m < n ∧ I m s₅) (notedBy (model prog w) A env fun e s' => R (.error e) s') s₄) (notedBy (model prog w) A env fun e s' => R (.error e) s') s₃
            else ∃ m, m < n ∧ I m s₃) (notedBy (model prog w) A env fun e s' => R (.error e) s') s₂) (notedBy (model prog w) A env fun e s' => R (.error e) s') s₁') (notedBy (model prog w) A env fun e s' => R (.error e) s') s₁) (notedBy (model prog w) A env fun e s' => R (.error e) s') s)
    (n : Nat) (h : I n s) :
    codeAny (model prog w) A (.compLoop (.ListComp elt [⟨target, iter, ifs, 0⟩] scope pos) 0 it acc env) R s := by
  refine codeAny_loop rfl I (fun n s hI => ?_) n h
  show wpAny _ A ((compTurn (.ListComp elt [⟨target, iter, ifs, 0⟩] scope pos) 0 it acc env).onRaise (fun x => do noteFrame x env; theTreesLotGoes x)) _ _ s
  refine wpAny_noted ?_
  rw [compTurn_list]
  refine wpAny_bind (wpAny_standAt (wpAny_bind (wpAny_mono (turn n s hI) (fun r s₁ h₁ => ?_) fun _ _ h' => h')))
  cases r with
  | none => exact wpAny_pure h₁
  | some v =>
    refine wpAny_bind (wpAny_mono h₁ (fun _ s₁' h₁' => ?_) fun _ _ h' => h')
    refine wpAny_bind (wpAny_mono h₁' (fun _ s₂ h₂ => wpAny_bind (wpAny_mono h₂ (fun ok s₃ h₃ => ?_) fun _ _ h' => h')) fun _ _ h' => h')
    cases ok with
    | false => exact wpAny_pure ⟨rfl, h₃⟩
    | true =>
      exact wpAny_bind (wpAny_bind (wpAny_mono h₃ (fun x s₄ h₄ => wpAny_bind (wpAny_mono h₄ (fun _ s₅ h₅ => wpAny_pure (wpAny_pure ⟨rfl, h₅⟩)) fun _ _ h' => h')) fun _ _ h' => h'))

variable {K : Frag} {g : Heap} {C I D : Addr} {X : List (Addr × Obj)} {cenv : Env} {xs : List V} {src : Src}

theorem compLoop_S (hh : A.handled = none) (O : EnvOk cenv C) {tgts : List Nat} {tup : Bool} {elt target iter : PySem.Expr} {ifs : List PySem.Expr} {csc : Scope} {pos : Pos} (ok : okT cenv.scope tup tgts target = true)
    (wt : R → H → (Bool → H → Prop) → Prop) (we : R → H → (V → H → Prop) → Prop) {ρc : R} (lc : ∀ m, Loc cenv m X ρc)
    (ht : ∀ {X : List (Addr × Obj)} {m : Str → Option Value} {ρ : R} {h : H} {s : Shared} {k : Bool → H → Prop} {E : Value → Shared → Prop}, At K g C X m h s.heap → Loc cenv m X ρ → wt ρ h k →
      wpAny (model prog w) A (forIn ifs true fun c r => if r = true then do let ok ← PySem.isTrue c cenv (eval c cenv); pure (ForInStep.yield ok) else pure (ForInStep.yield r)) (fun b s' => ∃ h', At K g C X m h' s'.heap ∧ Rest s s' ∧ k b h') E s)
    (he : ∀ {X : List (Addr × Obj)} {m : Str → Option Value} {ρ : R} {h : H} {s : Shared} {k : V → H → Prop} {E : Value → Shared → Prop}, At K g C X m h s.heap → Loc cenv m X ρ → we ρ h k → wpAny (model prog w) A (eval elt cenv) (Post K g C X m s k) E s)
    {h1 : H} {s₀ : Shared} {fin : List V → H → Prop} {RR : Result → Shared → Prop} (hsrc : SrcIs h1 xs src) (hl : xs.length ≤ lim)
    (hR : ∀ m vs n accs h' s', At K g C ((D, lstO vs n) :: X) m h' s'.heap → vs.map ab = accs.map some → accs.length ≤ lim → Rest s₀ s' → fin accs h' → RR (.ok .next) s')
    {rest : List V} {i : Nat} {m : Str → Option Value} {h : H} {oI : Obj} {vs : List Value} {n : Nat} {accs : List V} {s : Shared} (hd : xs.drop i = rest) (hi : i ≤ xs.length) (S : At K g C ((I, oI) :: (D, lstO vs n) :: X) m h s.heap) (r : Rest s₀ s) (ho : ItOb src i oI)
    (hv : vs.map ab = accs.map some) (ha : accs.length ≤ i)
    (q : compL (sameAt src.val h1) (fun x h k => bindT tgts tup x ρc h fun ρ' => wt ρ' h fun c h => if c = true then we ρ' h (fun y h => k (some y) h) else k none h) rest accs h fin) :
    codeAny (model prog w) A (.compLoop (.ListComp elt [⟨target, iter, ifs, 0⟩] csc pos) 0 (.ref I) (.ref D) cenv) RR s := by
  generalize hL : (fun rest accs h => compL (sameAt src.val h1) (fun x h k => bindT tgts tup x ρc h fun ρ' => wt ρ' h fun c h => if c = true then we ρ' h (fun y h => k (some y) h) else k none h) rest accs h fin) = L
  obtain ⟨J, hJ, hJ'⟩ : ∃ J : Nat → Shared → Prop, (∀ rest i m h oI vs n accs s', xs.drop i = rest → i ≤ xs.length → At K g C ((I, oI) :: (D, lstO vs n) :: X) m h s'.heap → Rest s₀ s' → ItOb src i oI → vs.map ab = accs.map some → accs.length ≤ i → L rest accs h → J rest.length s') ∧
      ∀ k s', J k s' → ∀ {P : Prop}, (∀ rest i m h oI vs n accs, k = rest.length → xs.drop i = rest → i ≤ xs.length → At K g C ((I, oI) :: (D, lstO vs n) :: X) m h s'.heap → Rest s₀ s' → ItOb src i oI → vs.map ab = accs.map some → accs.length ≤ i → L rest accs h → P) → P :=
    ⟨fun k s' => ∃ rest i m h oI vs n accs, k = rest.length ∧ xs.drop i = rest ∧ i ≤ xs.length ∧ At K g C ((I, oI) :: (D, lstO vs n) :: X) m h s'.heap ∧ Rest s₀ s' ∧ ItOb src i oI ∧ vs.map ab = accs.map some ∧ accs.length ≤ i ∧ L rest accs h, fun rest i m h oI vs n accs _ a b c d e f g l => ⟨rest, i, m, h, oI, vs, n, accs, rfl, a, b, c, d, e, f, g, l⟩, fun _ _ h _ k => e8_9 h k⟩
  refine compTests_any J ?_ rest.length (hJ rest i m h oI vs n accs s hd hi S r ho hv ha (by rw [← hL]; exact q))
  clear q hd hi S r ho hv ha
  refine fun k s hI => hJ' k s hI fun rest i m h oI vs n accs ek hd hi S r ho hv ha q => ?_
  clear hI hJ'
  subst ek
  rw [← hL] at q
  cases rest with
  | nil =>
    obtain ⟨q1, q2⟩ := q
    have hil : i = xs.length := Nat.le_antisymm hi (List.drop_eq_nil_iff.mp hd)
    refine wpAny_mono ((next_S hh S ho (hsrc.same q1)).2 hil) (fun r' s' ⟨e, S', r1⟩ => ?_) fun _ _ x => x
    subst e
    exact hR m vs n accs h s' S' hv (by lia) (r.trans r1) q2
  | cons x rest =>
    obtain ⟨q1, q2⟩ := q
    have hx : xs[i]? = some x := by
      have := congrArg List.head? hd
      rw [List.head?_drop] at this
      exact this
    have hlt : i < xs.length := by
      rcases Nat.lt_or_ge i xs.length with z | z
      · exact z
      · rw [List.getElem?_eq_none z] at hx; cases hx
    have hd' : xs.drop (i + 1) = rest := by rw [← List.drop_drop, hd]; rfl
    refine wpAny_mono ((next_S hh S ho (hsrc.same q1)).1 x hx) (fun r' s1 ⟨rx, oI', e, hab, S1, r1, ho1⟩ => ?_) fun _ _ x => x
    subst e
    refine letGo_S S1 ho1 ?_
    refine bindB (bindT_S S1 hh O ((lc m).mono fun p hp => List.mem_cons_of_mem _ (List.mem_cons_of_mem _ hp)) ok hab q2) fun _ s2 ρ' m' S2 l2 r2 q3 => ?_
    refine wpAny_mono (ht S2 l2 q3) (fun b s3 ⟨h3, S3, r3, q4⟩ => ?_) fun _ _ x => x
    cases b with
    | false =>
      exact ⟨rest.length, Nat.lt_succ_self _, hJ rest (i + 1) m' h3 oI' vs n accs _ hd' hlt S3 (((r.trans r1).trans r2).trans r3) ho1 hv (Nat.le_succ_of_le ha) (by rw [← hL, ← List.append_nil accs]; exact q4)⟩
    | true =>
      refine bindP (he S3 l2 q4) fun y s4 ay h4 hy S4 r4 q5 => ?_
      refine e0_3 S4.swap.here fun g1 g2 g3 => ?_
      have hlen := ab_len hv
      refine append_at g1 (fun h' hs hD => ?_) (by rw [List.size_toArray, hlen, sizeLine_eq]; unfold lim at hl; lia)
      have S5 := S4.swap.reIter (oI' := lstO (vs ++ [y]) (n + 1)) (fun b o hb e => (hs.2 b fun q => hb (List.mem_singleton.mpr q)).trans e) (by rw [hD, List.push_toArray])
      exact ⟨rest.length, Nat.lt_succ_self _, hJ rest (i + 1) m' h4 oI' (vs ++ [y]) (n + 1) (accs ++ [ay]) _ hd' hlt S5.swap ((((r.trans r1).trans r2).trans r3).trans (r4.trans ⟨rfl, rfl⟩)) ho1 (ab_app hv (congrArg (· :: []) hy)) (by rw [List.length_append]; exact Nat.succ_le_succ ha) (by rw [← hL]; exact q5)⟩
end
end Mine

namespace Mine
open PySem PySem.W PySem.Calls PyProof.Rows

theorem closure_go (cells : List (Str × Addr)) (env : Env) (hc : env.cells = cells) : ∀ (names : List (Str × NameKind)) (acc : List (Str × Addr)), (∀ n, (n, .free) ∈ names → ∃ c, cells.lookup n = some c) →
    ∃ cl, (forIn names acc fun x (cs : List (Str × Addr)) => match x with
      | (name, kind) => if (kind == NameKind.free) = true then do let a ← cellOf env name; pure (ForInStep.yield ((name, a) :: cs)) else pure (ForInStep.yield cs) : Sem (List (Str × Addr))) = pure cl ∧
      (∀ n, (n, .free) ∈ names → cl.lookup n = cells.lookup n) ∧ ∀ n, (n, .free) ∉ names → cl.lookup n = acc.lookup n
  | [], acc, _ => ⟨acc, rfl, (fun _ h => (nomatch h)), fun _ _ => rfl⟩
  | (name, kind) :: r, acc, hf => by
    rw [List.forIn_cons]
    by_cases hk : kind = .free
    · subst hk
      obtain ⟨c, e⟩ := hf name List.mem_cons_self
      refine e1_3 (closure_go cells env hc r ((name, c) :: acc) fun n hn => hf n (List.mem_cons_of_mem _ hn)) fun cl h1 h2 h3 => ?_
      refine ⟨cl, ?_, fun n hn => ?_, fun n hn => ?_⟩
      · have : cellOf env name = pure c := by unfold cellOf; rw [hc, e]
        simp only [beq_self_eq_true, if_true, this]
        exact h1
      · by_cases hr : (n, NameKind.free) ∈ r
        · exact h2 n hr
        · rcases List.mem_cons.mp hn with q | q
          · cases q
            rw [h3 name hr, e, List.lookup_cons, beq_self_eq_true]
          · exact absurd q hr
      · rw [h3 n fun q => hn (List.mem_cons_of_mem _ q), List.lookup_cons]
        have : (n == name) = false := beq_eq_false_iff_ne.mpr fun q => hn (by rw [q]; exact List.mem_cons_self)
        rw [this]
    · refine e1_3 (closure_go cells env hc r acc fun n hn => hf n (List.mem_cons_of_mem _ hn)) fun cl h1 h2 h3 => ?_
      have hkb : (kind == NameKind.free) = false := beq_eq_false_iff_ne.mpr hk
      refine ⟨cl, ?_, fun n hn => ?_, fun n hn => ?_⟩
      · simp only [hkb, Bool.false_eq_true, if_false]
        exact h1
      · rcases List.mem_cons.mp hn with q | q
        · cases q; exact absurd rfl hk
        · exact h2 n q
      · exact h3 n fun q => hn (List.mem_cons_of_mem _ q)
theorem closure_of {csc : Scope} {env : Env} (hf : ∀ n, (n, .free) ∈ csc.names → ∃ c, env.cells.lookup n = some c) :
    ∃ cl, closureFor csc env = pure cl ∧ ∀ n, (n, .free) ∈ csc.names → cl.lookup n = env.cells.lookup n := by
  refine e1_3 (closure_go env.cells env rfl csc.names [] hf) fun cl h1 h2 _ => ?_
  refine ⟨cl, ?_, h2⟩
  unfold closureFor
  dsimp only
  rw [h1]
  rfl

section
variable {prog : Program} {w : World} {A : Around} {E : Value → Shared → Prop} {K : Frag} {h₀ : Heap} {L I : Addr} {X : List (Addr × Obj)} {m : Str → Option Value} {h : H} {s : Shared} {env : Env} {ρ : R}

theorem self_S (hh : A.handled = none) {oI : Obj} {xs : List V} {src : Src} {i : Nat} {Q : Value → Shared → Prop} (S : At K h₀ L ((I, oI) :: X) m h s.heap) (ho : ItOb src i oI) (e : SrcIs h xs src) (q : Q (.ref I) s) :
    wpAny (model prog w) A (pyIter (.ref I)) Q E s := by
  refine e0_3 S.here fun g1 g2 g3 => ?_
  cases src with
  | lst l =>
    refine e1_2 (S.list e) fun vs L1 hv => ?_
    exact (Walks.list (prog := prog) (w := w) hh I l (S.off e) vs.toArray).self i s Q E ⟨⟨oI, g1, ho⟩, L1⟩ q
  | tup l =>
    refine e1_2 (S.tup e) fun vs L1 hv => ?_
    exact (Walks.tuple (prog := prog) (w := w) hh I l (S.off e) vs.toArray).self i s Q E ⟨⟨oI, g1, ho⟩, L1⟩ q
  | rng n =>
    exact (Walks.range (prog := prog) (w := w) (A := A) hh I 0 1 n.toNat).self i s Q E (by rw [ho] at g1; exact g1) q

/-- a comprehension -/
theorem comp_S (hh : A.handled = none) (S : At K h₀ L X m h s.heap) (O : EnvOk env L) (l : Loc env m X ρ) {csc : Scope} {frees tgts : List Nat} {tup : Bool} {elt target iter : PySem.Expr} {ifs : List PySem.Expr} {pos : Pos}
    (hcomp : okComp env.scope csc frees = true) (ok : okT (relab env.scope csc) tup tgts target = true) (hfr : ∀ x, x ∈ frees → (ρ x).isSome = true) (hset : notSet iter = true)
    (wt : R → H → (Bool → H → Prop) → Prop) (we : R → H → (V → H → Prop) → Prop) {fin : List V → H → Prop} {use : Option (Value → Sem Unit)} {QQ : Value → Shared → Prop}
    (ht : ∀ {g : Heap} {C : Addr} {cenv : Env} {X : List (Addr × Obj)} {m : Str → Option Value} {ρ : R} {h : H} {s : Shared} {k : Bool → H → Prop} {E : Value → Shared → Prop}, EnvOk cenv C → cenv.scope = relab env.scope csc → At K g C X m h s.heap → Loc cenv m X ρ → wt ρ h k →
      wpAny (model prog w) A (forIn ifs true fun c r => if r = true then do let ok ← PySem.isTrue c cenv (eval c cenv); pure (ForInStep.yield ok) else pure (ForInStep.yield r)) (fun b s' => ∃ h', At K g C X m h' s'.heap ∧ Rest s s' ∧ k b h') E s)
    (he : ∀ {g : Heap} {C : Addr} {cenv : Env} {X : List (Addr × Obj)} {m : Str → Option Value} {ρ : R} {h : H} {s : Shared} {k : V → H → Prop} {E : Value → Shared → Prop}, EnvOk cenv C → cenv.scope = relab env.scope csc → At K g C X m h s.heap → Loc cenv m X ρ → we ρ h k →
      wpAny (model prog w) A (eval elt cenv) (Post K g C X m s k) E s)
    (hsrc : wpAny (model prog w) A (eval iter env) (fun x s₁ => wpAny (model prog w) A (pyIter x) (SrcPost K h₀ L X m s fun v xs h =>
      compL (sameAt v h) (fun x h k => bindT tgts tup x (ρ.only frees) h fun ρ' => wt ρ' h fun c h => if c = true then we ρ' h (fun y h => k (some y) h) else k none h) xs [] h fin) E s₁) E s)
    (hend : ∀ (D C : Addr) (n : Nat) (vs : List Value) (accs : List V) (h' : H) (s' : Shared), (∃ mC, s'.heap.Ns C mC) → AtC K h₀ L ((D, lstO vs n) :: X) m h' s'.heap C → vs.map ab = accs.map some → accs.length ≤ lim → Rest s s' → fin accs h' →
      compPost (model prog w) A E use QQ (.ref D) C (.ok .next) s') :
    wpAny (model prog w) A (comprehension (.ListComp elt [⟨target, iter, ifs, 0⟩] csc pos) csc env (firstIterPos [⟨target, iter, ifs, 0⟩] pos) (newList []) false (eval iter env) use) QQ E s := by
  unfold okComp at hcomp
  simp only [Bool.and_eq_true, List.all_eq_true, Bool.or_eq_true, bne_iff_ne, beq_iff_eq, List.any_eq_true] at hcomp
  obtain ⟨⟨⟨⟨k1, k2⟩, k3⟩, k4⟩, k5⟩ := hcomp
  have cellAt : ∀ x ∈ frees, ∃ v rv c o, ρ x = some v ∧ x < nmN ∧ ab rv = some v ∧ env.cells.lookup (nm x) = some c ∧ (c, o) ∈ X ∧ o.data = .cell (some rv) := fun x hx => by
    obtain ⟨v, hv⟩ := Option.isSome_iff_exists.mp (hfr x hx)
    obtain ⟨a, rv, b, c⟩ := l x v hv
    rcases c with ⟨z, _⟩ | ⟨_, c, o, z1, z2, z3⟩
    · exfalso
      have := (k5 x hx).2
      have z' : env.scope.names.lookup (nm x) = some .local := z
      rw [z'] at this
      rcases this with q | q <;> cases q
    · exact ⟨v, rv, c, o, hv, a, b, z1, z2, z3⟩
  obtain ⟨cl, hclos, hcl⟩ := closure_of (csc := csc) (env := env) fun n hn => by
    rcases k4 _ hn with q | ⟨x, hx, q⟩
    · exact absurd rfl q
    · refine e4_5 (cellAt x hx) fun _ _ c _ _ _ _ z _ => ?_
      exact ⟨c, by rw [← show nm x = n from q]; exact z⟩
  refine wpAny_comprehension_free (cl := cl) rfl (folded_no hset) hclos k1 (fun y hy e => (k3 y hy).resolve_left fun q => q e) (wpAny_mono hsrc (fun x s₁ h₁ => wpAny_mono h₁ (fun it s₂ p => ?_) fun _ _ x => x) fun _ _ x => x)
  refine e5_9 p fun hp oI h' src xs e95 hs2 hfree S1 r hsr ho hl q => ?_
  clear p
  obtain rfl := e95
  obtain ⟨hp2, gg, dd, tt, oo⟩ := s₂
  dsimp only at hs2
  subst hs2
  refine wpAny_newObj_type (wpAny_newFunctionEnv (fun y hy => (k2 y hy)) (by intro y hy; simp at hy) (fun h₁ hns₁ hsb₁ => ?_) k1)
  dsimp only at hns₁ hsb₁ ⊢
  generalize hH2 : (hp.push oI).push { cls := .type "list", dict := none, data := .seq ([] : List Value).toArray } = H2 at hns₁ hsb₁ ⊢
  have hD : (hp.push oI).objs.size = hp.objs.size + 1 := Heap.size_push ..
  have hC : H2.objs.size = hp.objs.size + 1 + 1 := by rw [← hH2, Heap.size_push, hD]
  have old : ∀ b o, H2.get? b = some o → h₁.get? b = some o := fun b o e => hsb₁.extBut b o (Nat.ne_of_lt (Heap.lt_size e)) (Heap.get?_push_of_some _ e)
  have eI : H2.get? hp.objs.size = some oI := by rw [← hH2]; exact Heap.get?_push_of_some _ (Heap.get?_push_size _ hfree)
  have eD : H2.get? (hp.push oI).objs.size = some (lstO [] 0) := by rw [← hH2]; exact Heap.get?_push_size _ rfl
  refine e1_2 (enter S1) fun g back into => ?_
  have S4 : At K g H2.objs.size ([(hp.objs.size, oI), ((hp.push oI).objs.size, lstO [] 0)] ++ X) _ h' h₁ := into (L' := H2.objs.size) hns₁ (by lia) (fun b o e => old b o (by rw [← hH2]; exact Heap.get?_push_of_some _ (Heap.get?_push_of_some _ e))) (by
    intro p hp'
    rcases List.mem_cons.mp hp' with rfl | hp'
    · exact ⟨old _ _ eI, Nat.le_refl _, by show hp.objs.size ≠ _; lia⟩
    · rw [List.mem_singleton.mp hp']
      exact ⟨old _ _ eD, by show hp.objs.size ≤ (hp.push oI).objs.size; lia, by show (hp.push oI).objs.size ≠ _; lia⟩) (by
    simp only [List.map_cons, List.map_nil]
    refine List.nodup_cons.mpr ⟨fun z => ?_, List.nodup_cons.mpr ⟨List.not_mem_nil, List.nodup_nil⟩⟩
    exact absurd (show hp.objs.size = (hp.push oI).objs.size from List.mem_singleton.mp z) (by lia))
  let cenv : Env := compEnvC csc cl H2.objs.size env
  have O' : EnvOk cenv H2.objs.size := ⟨k1, rfl, O.glob, O.blt⟩
  have lc : ∀ mC, Loc cenv mC X (ρ.only frees) := fun mC x v e => by
    unfold R.only at e
    set_option tactic.hygienic true in split at e
    · rename_i hx
      have hx : x ∈ frees := by simpa using hx
      refine e4_6 (cellAt x hx) fun v' rv c o z0 z1 z2 z3 z4 z5 => ?_
      rw [e] at z0
      cases z0
      refine ⟨z1, rv, z2, .inr ⟨(k5 x hx).1.2, c, o, ?_, z4, z5⟩⟩
      show cl.lookup (nm x) = some c
      rw [hcl (nm x) (by have := (k5 x hx).1.1.1; simpa using this)]
      exact z3
    · cases e
  have loop : ∀ s' : Shared, s'.heap = h₁ → Rest s s' → codeAny (model prog w) A (.compLoop (.ListComp elt [⟨target, iter, ifs, 0⟩] csc pos) 0 (.ref hp.objs.size) (.ref (hp.push oI).objs.size) cenv)
      (compPost (model prog w) A E use QQ (.ref (hp.push oI).objs.size) H2.objs.size) s' := fun s' e1 r1 => by
    refine compLoop_S (K := K) (g := g) (C := H2.objs.size) (X := X) (src := src) (xs := xs) hh O' ok wt we lc (fun S l q => ht O' rfl S l q) (fun S l q => he O' rfl S l q) hsr hl (fun mC vs n accs h'' s'' S'' hv ha r'' q'' => ?_) (rest := xs) (i := 0) rfl (Nat.zero_le _)
      (S := by rw [e1]; exact S4) r1 ho (vs := []) (accs := []) rfl (Nat.zero_le _) q
    have Sc : AtC K h₀ L ((((hp.push oI).objs.size, lstO vs n)) :: X) m h'' s''.heap H2.objs.size := back (Y := [((hp.push oI).objs.size, lstO vs n)]) S'' (by lia)
    exact hend _ _ n vs accs h'' s'' ⟨_, S''.fr.ns⟩ Sc hv ha r'' q''
  refine codeAny_compStart_list (loop _ rfl (r.trans ⟨rfl, rfl⟩)) (self_S hh (s := { heap := h₁, gens := gg, drawn := dd, toks := _, os := oo }) (S := S4) ho hsr (loop _ rfl (r.trans ⟨rfl, rfl⟩)))
end
end Mine

namespace Mine
open PySem PySem.W PySem.Calls PyProof.Rows

structure Room (A : Around) (d : Nat) : Prop where
  hh : A.handled = none
  dep : A.depth + 3 * d + 3 < recursionLimit
  un : A.units + 20 * d + 64 < cLine
theorem Room.mono {A : Around} {d d' : Nat} (r : Room A d) (h : d' ≤ d) : Room A d' := ⟨r.hh, by have := r.dep; lia, by have := r.un; lia⟩

structure KOk (K : Frag) : Prop where
  fields : ∀ f, f ∈ fieldIds → FieldOk K f
  fns : ∀ f, f ∈ fnIds → ∃ fa, nsIn K mainGlobals (nm f) = some (some (.ref fa)) ∧ fnAddr K f = some fa ∧ keepIn K (.ref fa) = true
  cls : ∀ C, C < 3 → ∃ ca fI, clsA K C = some ca ∧ nsIn K mainGlobals (nm (102 + C)) = some (some (.ref ca)) ∧ keepIn K (.ref ca) = true ∧ makesIn K ca = true ∧ findIn K (.ref ca) "__init__" = some (some (.ref fI)) ∧ typeIn K (.ref fI) = some (.type "function") ∧ fnAddr K (1000 + C) = some fI
  blt : ∀ p, p ∈ bltT → nsIn K mainGlobals p.1 = some none
theorem nm_debug : ∀ x, x < nmN → (nm x == ("__debug__" : Str)) = false ∧ (nm x == ("__classdict__" : Str)) = false := by decide +kernel

noncomputable def CallSnd (prog : Program) (w : World) (K : Frag) (Φ : CallT) (d : Nat) : Prop := ∀ {f : Nat} {vals : List Value} {avs : List V} {h : H} {Q : V → H → Prop} {A : Around} {h₀ : Heap} {L : Addr} {X : List (Addr × Obj)} {m : Str → Option Value} {s : Shared} {fa : Addr},
  Φ f avs h Q → vals.map ab = avs.map some → fnAddr K f = some fa → Room A d → At K h₀ L X m h s.heap →
  codeAny (model prog w) A (.call (.ref fa) ⟨vals, []⟩) (fun r s' => ∃ rv, r = .ok (.ret rv) ∧ Post K h₀ L X m s Q rv s') s

noncomputable def PostT (K : Frag) (h₀ : Heap) (L : Addr) (X : List (Addr × Obj)) (m : Str → Option Value) (s : Shared) (Q : Bool → H → Prop) (b : Bool) (s' : Shared) : Prop := ∃ h', At K h₀ L X m h' s'.heap ∧ Rest s s' ∧ Q b h'
theorem PostT.from {K : Frag} {h₀ : Heap} {L : Addr} {X : List (Addr × Obj)} {m : Str → Option Value} {s s₁ s' : Shared} {Q : Bool → H → Prop} {b : Bool} (r : Rest s s₁) (p : PostT K h₀ L X m s₁ Q b s') : PostT K h₀ L X m s Q b s' :=
  let ⟨h', a, r', q⟩ := p; ⟨h', a, r.trans r', q⟩
noncomputable def PostL (K : Frag) (h₀ : Heap) (L : Addr) (X : List (Addr × Obj)) (m : Str → Option Value) (s : Shared) (Q : List V → H → Prop) (vs : List Value) (s' : Shared) : Prop :=
  ∃ avs h', vs.map ab = avs.map some ∧ At K h₀ L X m h' s'.heap ∧ Rest s s' ∧ Q avs h'

theorem bindTt {prog : Program} {w : World} {A : Around} {K : Frag} {h₀ : Heap} {L : Addr} {X : List (Addr × Obj)} {m : Str → Option Value} {s s₀ : Shared} {t : Sem Bool} {RR : Bool → Shared → Prop} {E : Value → Shared → Prop} {Q : Bool → H → Prop} (p : wpAny (model prog w) A t (PostT K h₀ L X m s Q) E s₀)
    (k : ∀ b s₁ h1, At K h₀ L X m h1 s₁.heap → Rest s s₁ → Q b h1 → RR b s₁) : wpAny (model prog w) A t RR E s₀ := wpAny_mono p (fun v s₁ ⟨h1, b, r, q⟩ => k v s₁ h1 b r q) fun _ _ x => x
theorem bindLs {prog : Program} {w : World} {A : Around} {K : Frag} {h₀ : Heap} {L : Addr} {X : List (Addr × Obj)} {m : Str → Option Value} {s s₀ : Shared} {t : Sem (List Value)} {RR : List Value → Shared → Prop} {E : Value → Shared → Prop} {Q : List V → H → Prop} (p : wpAny (model prog w) A t (PostL K h₀ L X m s Q) E s₀)
    (k : ∀ vs s₁ avs h1, vs.map ab = avs.map some → At K h₀ L X m h1 s₁.heap → Rest s s₁ → Q avs h1 → RR vs s₁) : wpAny (model prog w) A t RR E s₀ := wpAny_mono p (fun v s₁ ⟨avs, h1, a, b, r, q⟩ => k v s₁ avs h1 a b r q) fun _ _ x => x
section
variable (prog : Program) (w : World) (K : Frag) (Φ : CallT) (ini : Nat → Nat) (d : Nat)
noncomputable def SE (ex : Ex) : Prop := ∀ {e : PySem.Expr} {env : Env} {ρ : R} {m : Str → Option Value} {h : H} {s : Shared} {L : Addr} {X : List (Addr × Obj)} {h₀ : Heap} {Q : V → H → Prop} {E : Value → Shared → Prop} {A : Around},
  okE ex env.scope e = true → Room A (d + 1) → EnvOk env L → Loc env m X ρ → At K h₀ L X m h s.heap → wpE Φ ini ex ρ h Q → wpAny (model prog w) A (eval e env) (Post K h₀ L X m s Q) E s
noncomputable def ST (ex : Ex) : Prop := ∀ {e : PySem.Expr} {env : Env} {ρ : R} {m : Str → Option Value} {h : H} {s : Shared} {L : Addr} {X : List (Addr × Obj)} {h₀ : Heap} {Q : Bool → H → Prop} {E : Value → Shared → Prop} {A : Around},
  okE ex env.scope e = true → Room A (d + 1) → EnvOk env L → Loc env m X ρ → At K h₀ L X m h s.heap → wpT Φ ini ex ρ h Q → wpAny (model prog w) A (PySem.isTrue e env (eval e env)) (PostT K h₀ L X m s Q) E s
noncomputable def SEs (exs : Exs) : Prop := ∀ {es : List PySem.Expr} {env : Env} {ρ : R} {m : Str → Option Value} {h : H} {s : Shared} {L : Addr} {X : List (Addr × Obj)} {h₀ : Heap} {Q : List V → H → Prop} {E : Value → Shared → Prop} {A : Around} {pos : Pos},
  okEs exs env.scope es = true → Room A (d + 1) → EnvOk env L → Loc env m X ρ → At K h₀ L X m h s.heap → wpEs Φ ini exs ρ h Q → wpAny (model prog w) A (spliced (backTo pos (starEach es env))) (PostL K h₀ L X m s Q) E s
end

section
variable {prog : Program} {w : World} {K : Frag} {Φ : CallT} {ini : Nat → Nat} {d : Nat}

theorem SE_none : SE prog w K Φ ini d .none := by
  intro e env ρ m h s L X h₀ Q E A ok rm O l S q
  refine kNone_el ok fun k p => ?_
  exact wpAny_Constant_none (Post.intro rfl S q)
theorem SE_bool {b : Bool} : SE prog w K Φ ini d (.bool b) := by
  intro e env ρ m h s L X h₀ Q E A ok rm O l S q
  refine kBool_el ok fun k p => ?_
  exact wpAny_Constant_bool (Post.intro rfl S q)
theorem SE_int {i : Int} : SE prog w K Φ ini d (.int i) := by
  intro e env ρ m h s L X h₀ Q E A ok rm O l S q
  refine kInt_el ok fun k p => ?_
  exact wpAny_Constant_int (Post.intro rfl S q)
theorem SE_str {x : Str} : SE prog w K Φ ini d (.str x) := by
  intro e env ρ m h s L X h₀ Q E A ok rm O l S q
  refine kStr_el ok fun k p => ?_
  exact wpAny_Constant_str (Post.intro rfl S q)
theorem SE_var {x : Nat} : SE prog w K Φ ini d (.var x) := by
  intro e env ρ m h s L X h₀ Q E A ok rm O l S q
  refine kVar_el ok fun p => ?_
  refine need_el q fun v e q => ?_
  have hx := (l x v e).1
  exact Name_S S O l e (nm_debug x hx).1 (nm_debug x hx).2 q
theorem SE_attr {ex : Ex} {f : Nat} (hK : KOk K) (H1 : SE prog w K Φ ini d ex) : SE prog w K Φ ini d (.attr ex f) := by
  intro e env ρ m h s L X h₀ Q E A ok rm O l S q
  refine kAttr_el ok fun v p k2 k3 k4 => ?_
  refine Attribute_any_ (bindP (H1 k4 rm O l S q) fun o s₁ av h' hv S1 r q9 => need_el q9 fun x e q => ?_) ?_
  · exact wpAny_mono (getAttr_S S1 (hK.fields f k2) hv e q) (fun _ _ p => p.from r) fun _ _ x => x
  · show (do let o ← attributeBase v (nm f) env (eval v env); standAt p.atName; let r ← holding [o] (getAttr o (nm f) true); letTemporaryGo v o r; pure r : Sem Value) = _
    rw [attributeBase_no k3]
theorem SE_bin {op : Op} {l r : Ex} (H1 : SE prog w K Φ ini d l) (H2 : SE prog w K Φ ini d r) : SE prog w K Φ ini d (.bin op l r) := by
  intro e env ρ m h s L X h₀ Q E A ok rm O lo S q
  refine kBin_el ok fun a b p k1 k2 => ?_
  refine wpAny_BinOp (bindP (H1 k1 rm O lo S q) fun ra s₁ av h1 hv S1 r1 q1 => ?_)
  refine bindP (H2 k2 rm O lo S1 q1) fun rb s₂ bv h2 hb S2 r2 q2 => ?_
  exact wpAny_mono (binop_S S2 hv hb q2) (fun _ _ p => p.from (r1.trans r2)) fun _ _ x => x
end
end Mine

namespace Mine
open PySem PySem.W PySem.Calls PyProof.Rows

section
variable {K : Frag} {h : H} {led : List (Addr × Obj)} {D : Nat → Nat}
theorem RepD.addInst {C ca x dx : Nat} (R : RepD K h led D) (hl : ∀ p ∈ led, p.1 < dx) (hx : dx < x) (hc : clsA K C = some ca) :
    RepD K (h.set x (.inst C [])) ((x, instObj ca dx) :: (dx, emptyDict) :: led) (fun a => if a = x then dx else D a) := by
  have lt : ∀ a o, h a = some o → a < dx := fun a o e => let ⟨ob, hm⟩ := (R.om a o e).kind; hl _ hm
  have hne : ∀ b, isInst (h b) → b ≠ x ∧ D b < dx := fun b hb => by
    cases e : h b with
    | none => rw [e] at hb; exact hb.elim
    | some o =>
      refine ⟨fun q => absurd (lt b o e) (by lia), ?_⟩
      rw [e] at hb
      cases o with
      | inst C' fs =>
        obtain ⟨_, _, _, es, n, hm, _⟩ := R.om b _ e
        exact hl _ hm
      | list _ => exact hb.elim
      | tup _ => exact hb.elim
  have hI : ∀ b, isInst (h.set x (.inst C []) b) → b = x ∨ isInst (h b) := fun b hb => by
    by_cases e : b = x
    · exact .inl e
    · rw [H.set_ne e] at hb; exact .inr hb
  refine ⟨fun b c hb hc e => ?_, fun b o e => ?_⟩
  · rcases hI b hb with rfl | hb
    · rcases hI c hc with rfl | hc
      · rfl
      · obtain ⟨q1, q2⟩ := hne c hc
        rw [if_pos rfl, if_neg q1] at e
        lia
    · obtain ⟨q1, q2⟩ := hne b hb
      rcases hI c hc with rfl | hc
      · rw [if_pos rfl, if_neg q1] at e
        lia
      · obtain ⟨q3, q4⟩ := hne c hc
        rw [if_neg q1, if_neg q3] at e
        exact R.inj b c hb hc e
  · by_cases hb : b = x
    · subst hb
      rw [H.set_self] at e
      cases e
      refine ⟨ca, hc, ?_, [], 0, ?_, trivial⟩
      · dsimp only; rw [if_pos rfl]; exact List.mem_cons_self
      · dsimp only; rw [if_pos rfl]; exact List.mem_cons_of_mem _ List.mem_cons_self
    · rw [H.set_ne hb] at e
      have z := (R.om b o e).mono fun p hp => List.mem_cons_of_mem (x, instObj ca dx) (List.mem_cons_of_mem (dx, emptyDict) hp)
      cases o with
      | inst C' fs => obtain ⟨ca', h1, h2, es, n, h3, h4⟩ := z; exact ⟨ca', h1, by dsimp only; rw [if_neg hb]; exact h2, es, n, by dsimp only; rw [if_neg hb]; exact h3, h4⟩
      | list xs => exact z
      | tup xs => exact z
end

section
variable {prog : Program} {w : World} {K : Frag} {Φ : CallT} {d : Nat}

theorem starEach_plain : ∀ {exs : Exs} {es : List PySem.Expr} {sc : Scope} {env : Env} {pos : Pos}, okEs exs sc es = true → (backTo pos (starEach es env)).any (·.1) = false
  | .nil, [], _, _, _, _ => rfl
  | .nil, _ :: _, _, _, _, h => off h
  | .cons _ _, [], _, _, _, h => off h
  | .cons e es, a :: as, sc, env, pos, h => by
    rw [starEach_cons (a1 h)]
    exact starEach_plain (pos := pos) (env := env) (a2 (a2 h))

theorem SE_neg {i : Int} : SE prog w K Φ iniT d (.neg i) := by
  intro e env ρ m h s L X h₀ Q E A ok rm O l S q
  refine kNeg_el ok fun k p' p => ?_
  exact wpAny_UnaryOp (wpAny_Constant_int (PyProof.Rows.neg_int (Post.intro rfl S q)))
theorem cmp_tail {op : Cm} {ra rb : Value} {av bv : V} {h2 : H} {s s₂ : Shared} {L : Addr} {X : List (Addr × Obj)} {h₀ : Heap} {m : Str → Option Value} {Q : V → H → Prop} {E : Value → Shared → Prop} {A : Around} (S2 : At K h₀ L X m h2 s₂.heap) (r : Rest s s₂) (hv : ab ra = some av) (hb : ab rb = some bv)
    (q : need (cmpop op av bv h2) fun c => Q (.bool c) h2) : wpAny (model prog w) A (compareOp (cmM op) ra rb) (Post K h₀ L X m s Q) E s₂ := by
  refine need_el q fun c e q => ?_
  exact wpAny_mono (cmpop_S S2 hv hb e) (fun v s' ⟨h1, h2, h3⟩ => by subst h1; exact Post.intro rfl h2 q (r.trans h3)) fun _ _ x => x
theorem SE_cmp {op : Cm} {l r : Ex} (H1 : SE prog w K Φ iniT d l) (H2 : SE prog w K Φ iniT d r) : SE prog w K Φ iniT d (.cmp op l r) := by
  intro e env ρ m h s L X h₀ Q E A ok rm O lo S q
  refine kCmp_el ok fun a b p k0 k1 k2 => ?_
  refine wpAny_Compare1 (bindP (H1 k1 rm O lo S q) fun ra s₁ av h1 hv S1 r1 q1 => ?_) k0
  exact bindP (H2 k2 rm O lo S1 q1) fun rb s₂ bv h2 hb S2 r2 q2 => cmp_tail S2 (r1.trans r2) hv hb q2
theorem boolOf_some {v : V} {b : Bool} (e : boolOf v = some b) : v = .bool b := by cases v <;> simp_all [boolOf]
theorem SE_and {l r : Ex} (H1 : SE prog w K Φ iniT d l) (H2 : SE prog w K Φ iniT d r) : SE prog w K Φ iniT d (.and l r) := by
  intro e env ρ m h s L X h₀ Q E A ok rm O lo S q
  refine kAnd_el ok fun a b rest p k1 k2 => ?_
  · have tail : ∀ {s₁ : Shared} {h1 : H}, At K h₀ L X m h1 s₁.heap → Rest s s₁ → wpE Φ iniT r ρ h1 Q → wpAny (model prog w) A (boolOp p .And (evalEach (b :: rest) env)) (Post K h₀ L X m s Q) E s₁ := fun S1 r1 q1 => by
      cases rest with
      | nil => exact wpAny_mono (H2 (e := b) k2 rm O lo S1 q1) (fun _ _ p => p.from r1) fun _ _ x => x
      | cons c rest => exact wpAny_mono (H2 (e := .BoolOp .And (b :: c :: rest) p) k2 rm O lo S1 q1) (fun _ _ p => p.from r1) fun _ _ x => x
    show wpAny _ _ (do let v ← eval a env; standAt p; let t ← holding [v] (truthy v); match BoolOp.And, t with
      | .And, false | .Or, true => pure v
      | _, _ => boolOp p .And (evalEach (b :: rest) env)) _ _ _
    refine wpAny_bind (bindP (H1 k1 rm O lo S q) fun ra s₁ av h1 hv S1 r1 q9 => need_el q9 fun c e q1 => ?_)
    obtain rfl := boolOf_some e
    cases ab_bool hv
    refine wpAny_bind (wpAny_standAt (wpAny_bind (wpAny_holding (wpAny_truthy_bool ?_))))
    cases c with
    | false => exact wpAny_pure (Post.intro rfl S1 (by simpa using q1) r1)
    | true => exact tail S1 r1 (by simpa using q1)
theorem SE_or {l r : Ex} (H1 : SE prog w K Φ iniT d l) (H2 : SE prog w K Φ iniT d r) : SE prog w K Φ iniT d (.or l r) := by
  intro e env ρ m h s L X h₀ Q E A ok rm O lo S q
  refine kOr_el ok fun a b p k1 k2 => ?_
  · show wpAny _ _ (do let v ← eval a env; standAt p; let t ← holding [v] (truthy v); match BoolOp.Or, t with
      | .And, false | .Or, true => pure v
      | _, _ => boolOp p .Or (evalEach [b] env)) _ _ _
    refine wpAny_bind (bindP (H1 k1 rm O lo S q) fun ra s₁ av h1 hv S1 r1 q9 => need_el q9 fun c e q1 => ?_)
    obtain rfl := boolOf_some e
    cases ab_bool hv
    refine wpAny_bind (wpAny_standAt (wpAny_bind (wpAny_holding (wpAny_truthy_bool ?_))))
    cases c with
    | true => exact wpAny_pure (Post.intro rfl S1 (by simpa using q1) r1)
    | false => exact wpAny_mono (H2 (e := b) k2 rm O lo S1 (by simpa using q1)) (fun _ _ p => p.from r1) fun _ _ x => x
theorem SE_ite {t a b : Ex} (H0 : ST prog w K Φ iniT d t) (H1 : SE prog w K Φ iniT d a) (H2 : SE prog w K Φ iniT d b) : SE prog w K Φ iniT d (.ite t a b) := by
  intro e env ρ m h s L X h₀ Q E A ok rm O lo S q
  refine kIte_el ok fun t' a' b' p k1 k2 k3 => ?_
  refine wpAny_IfExp (bindTt (H0 k1 rm O lo S q) fun c s₁ h1 S1 r1 q1 => ?_)
  cases c with
  | true => exact wpAny_mono (H1 k2 rm O lo S1 (by simpa using q1)) (fun _ _ p => p.from r1) fun _ _ x => x
  | false => exact wpAny_mono (H2 k3 rm O lo S1 (by simpa using q1)) (fun _ _ p => p.from r1) fun _ _ x => x

theorem kwNil (pos : Pos) (env : Env) : backToKw pos (keywordEach [] env) = [] := rfl

theorem SE_call {f : Nat} {as : Exs} (hK : KOk K) (hΦ : CallSnd prog w K Φ d) (H1 : SEs prog w K Φ iniT d as) : SE prog w K Φ iniT d (.call f as) := by
  intro e env ρ m h s L X h₀ Q E A ok rm O lo S q
  refine kCall_el ok fun np es p k2 k1 k3 => ?_
  refine e1_3 (hK.fns f k2) fun fa g1 g2 g3 => ?_
  have hf : f < nmN := by
    have : ∀ f, f ∈ fnIds → f < nmN := by decide
    exact this f k2
  rw [arm_eval_Call_Name', kwNil]
  refine wpAny_bind (glb_S S O g1 k1 (nm_debug f hf).1 ?_)
  have fin : ∀ {vs : List Value} {s₁ : Shared}, PostL K h₀ L X m s (fun vs h => Φ f vs h Q) vs s₁ → wpAny (model prog w) A (call (.ref fa) ([] ++ vs)) (Post K h₀ L X m s Q) E s₁ := fun {vs s₁} ⟨avs, h1, hv, S1, r1, q1⟩ => by
    refine wpAny_call (codeAny_mono (hΦ q1 hv g2 (rm.mono (Nat.le_succ d)) S1) fun r s' ⟨rv, e, p⟩ => ?_)
    subst e
    exact p.from r1
  cases es with
  | nil =>
    cases as with
    | nil => exact callWith_K0 (S.cx.X.keeps S.fr.keep) g3 (fin ⟨[], h, rfl, S, .refl s, q⟩)
    | cons _ _ => exact off k3
  | cons e0 es =>
    cases as with
    | nil => exact off k3
    | cons a as =>
      refine callWith_K S.cx.X g3 (wpAny_mono (H1 (pos := p) k3 rm O lo S q) (fun vs s₁ p => ⟨?_, fin p⟩) fun _ _ x => x) (starEach_cons (a1 k3)) (starEach_plain (a2 (a2 k3)))
      refine e2_3 p fun _ _ _ S1 _ => ?_
      clear p
      exact S1.cx.X.keeps S1.fr.keep

theorem SE_new {C : Nat} {as : Exs} (hK : KOk K) (hΦ : CallSnd prog w K Φ d) (H1 : SEs prog w K Φ iniT d as) : SE prog w K Φ iniT d (.new C as) := by
  intro e env ρ m h s L X h₀ Q E A ok rm O lo S q
  refine kNew_el ok fun np es p k2 k1 k3 => ?_
  refine e2_7 (hK.cls C k2) fun ca fI g1 g2 g3 g4 g5 g6 g7 => ?_
  rw [arm_eval_Call_Name', kwNil]
  refine wpAny_bind (glb_S S O g2 k1 (nm_debug (102 + C) (Nat.lt_of_lt_of_le (Nat.add_lt_add_left k2 102) (by decide))).1 ?_)
  have fin : ∀ {vs : List Value} {s₁ : Shared}, PostL K h₀ L X m s (fun vs h => ∀ c, h c = none → Φ (iniT C) (.ref c :: vs) (h.set c (.inst C [])) fun r h => r = .none ∧ Q (.ref c) h) vs s₁ →
      wpAny (model prog w) A (call (.ref ca) ([] ++ vs)) (Post K h₀ L X m s Q) E s₁ := fun {vs s₁} ⟨avs, h1, hv, S1, r1, q1⟩ => by
    refine e2_3 S1.led fun led D N nd R => ?_
    refine wpAny_call (W.make_K S1.fr N (S1.cx.X.keeps S1.fr.keep) g4 g5 g6 fun x dx h' F' N' hlt hx => ?_)
    have S2 : At K h₀ L X m (h1.set x (.inst C [])) h' := by
      refine ⟨S1.cx, F', (x, instObj ca dx) :: (dx, emptyDict) :: led, _, ?_, ?_, R.addInst (fun p hp => hlt p (List.mem_append_right _ hp)) hx g1⟩
      · have N2 : News h₀ L h' ((x, instObj ca dx) :: (X ++ (dx, emptyDict) :: led)) := fun p hp => by
          rcases List.mem_cons.mp hp with e | hp
          · exact N' p (by rw [e]; exact List.mem_cons_self)
          · exact news_perm (fun p hp => N' p (List.mem_cons_of_mem _ hp)) p hp
        exact news_perm N2
      · refine nd_add (nd_add nd hlt) fun p hp => ?_
        rcases List.mem_append.mp hp with z | z
        · exact Nat.lt_trans (hlt p (List.mem_append_left _ z)) hx
        · rcases List.mem_cons.mp z with z | z
          · rw [z]; exact hx
          · exact Nat.lt_trans (hlt p (List.mem_append_right _ z)) hx
    have hfresh : h1 x = none := by
      cases e9 : h1 x with
      | none => rfl
      | some o =>
        obtain ⟨ob, hm⟩ := (R.om x o e9).kind
        exact absurd (hlt _ (List.mem_append_right _ hm)) (Nat.not_lt.mpr (Nat.le_of_lt hx))
    have rm' : Room (A.under (.builtin "type.__call__" ⟨.ref ca :: ([] ++ vs), []⟩)) d := ⟨rm.hh, by rw [depth_under_make]; have := rm.dep; lia, by rw [units_under_make]; have := rm.un; lia⟩
    refine codeAny_mono (hΦ (q1 x hfresh) (vals := .ref x :: vs) (by rw [List.map_cons, List.map_cons, hv]; rfl) g7 rm' (s := { s₁ with heap := h' }) S2) fun r s' ⟨rv, e, p⟩ => ?_
    subst e
    refine e2_5 p fun av h3 hav S3 r3 e3 q3 => ?_
    clear p
    subst e3
    cases ab_none hav
    exact ⟨rfl, Post.intro rfl S3 q3 (r1.trans r3)⟩
  cases es with
  | nil =>
    cases as with
    | nil => exact callWith_K0 (S.cx.X.keeps S.fr.keep) g3 (fin ⟨[], h, rfl, S, .refl s, q⟩)
    | cons _ _ => exact off k3
  | cons e0 es =>
    cases as with
    | nil => exact off k3
    | cons a as =>
      refine callWith_K S.cx.X g3 (wpAny_mono (H1 (pos := p) k3 rm O lo S q) (fun vs s₁ p => ⟨?_, fin p⟩) fun _ _ x => x) (starEach_cons (a1 k3)) (starEach_plain (a2 (a2 k3)))
      refine e2_3 p fun _ _ _ S1 _ => ?_
      clear p
      exact S1.cx.X.keeps S1.fr.keep
end
end Mine

namespace Mine
open PySem PySem.W PySem.Calls PyProof.Rows

section
variable {prog : Program} {w : World} {K : Frag} {Φ : CallT} {d : Nat}

theorem intOf_some {v : V} {i : Int} (e : intOf v = some i) : v = .int i := by cases v <;> first | (cases e; rfl) | cases e
/-- a built-in of one argument -/
theorem blt1 {x : Str} {v : Value} {a : Ex} (hK : KOk K) (hm : (x, v) ∈ bltT) (hf : ∀ a, v ≠ .ref a) (H1 : SE prog w K Φ iniT d a)
    {e : PySem.Expr} {env : Env} {ρ : R} {m : Str → Option Value} {h : H} {s : Shared} {L : Addr} {X : List (Addr × Obj)} {h₀ : Heap} {Q Q' : V → H → Prop} {E : Value → Shared → Prop} {A : Around}
    (ok : kBlt env.scope x (okE a env.scope) e = true) (rm : Room A (d + 1)) (O : EnvOk env L) (lo : Loc env m X ρ) (S : At K h₀ L X m h s.heap) (q : wpE Φ iniT a ρ h Q')
    (fin : ∀ {rv : Value} {av : V} {h1 : H} {s₁ : Shared}, At K h₀ L X m h1 s₁.heap → ab rv = some av → Q' av h1 → wpAny (model prog w) A (call v [rv]) (Post K h₀ L X m s₁ Q) E s₁) :
    wpAny (model prog w) A (eval e env) (Post K h₀ L X m s Q) E s := by
  refine kBlt_el ok fun np b p k1 k2 k3 => ?_
  rw [arm_eval_Call_Name', kwNil]
  refine wpAny_bind (blt_S S O hm (hK.blt _ hm) k1 (callWith1 hf (starEach_cons k2) ?_))
  refine bindP (H1 k3 rm O lo S q) fun rv s₁ av h1 hv S1 r1 q1 => ?_
  exact wpAny_mono (fin S1 hv q1) (fun _ _ p => p.from r1) fun _ _ x => x

theorem SE_len {a : Ex} (hK : KOk K) (H1 : SE prog w K Φ iniT d a) : SE prog w K Φ iniT d (.len a) := by
  intro e env ρ m h s L X h₀ Q E A ok rm O lo S q
  exact blt1 hK bm_len (fun _ z => nomatch z) H1 ok rm O lo S q fun S1 hv q => need_el q fun xs e q => len_S S1 hv e q.1 q.2
theorem SE_abs {a : Ex} (hK : KOk K) (H1 : SE prog w K Φ iniT d a) : SE prog w K Φ iniT d (.abs a) := by
  intro e env ρ m h s L X h₀ Q E A ok rm O lo S q
  refine blt1 hK bm_abs (fun _ z => nomatch z) H1 ok rm O lo S q fun {rv av h1 s₁} S1 hv q => need_el q fun i e q => ?_
  exact abs_S S1 (intOf_some e ▸ hv) q
theorem SE_listOf {a : Ex} (hK : KOk K) (H1 : SE prog w K Φ iniT d a) : SE prog w K Φ iniT d (.listOf a) := by
  intro e env ρ m h s L X h₀ Q E A ok rm O lo S q
  exact blt1 hK bm_list (fun _ z => nomatch z) H1 ok rm O lo S q fun S1 hv q => need_el q fun xs e q => listOf_S S1 hv e q.1 q.2
theorem strOf_S {A : Around} {h : H} {s : Shared} {L : Addr} {X : List (Addr × Obj)} {h₀ : Heap} {m : Str → Option Value} {Q : V → H → Prop} {E : Value → Shared → Prop} {rv : Value} {v : V} {x : Str} (S : At K h₀ L X m h s.heap) (hv : ab rv = some v) (e : Mine.strOf v = some x) (q : Q (.str x) h) :
    wpAny (model prog w) A (call (.type "str") [rv]) (Post K h₀ L X m s Q) E s := by
  set_option tactic.hygienic true in cases v <;> first | (cases e; done) | skip
  · rename_i b
    cases ab_bool hv
    refine PySem.P.str_of_bool ?_
    cases b with
    | true => cases e; exact Post.intro rfl S q
    | false => cases e; exact Post.intro rfl S q
  · rename_i i
    obtain ⟨t, rfl⟩ := ab_int hv
    simp only [Mine.strOf] at e
    set_option tactic.hygienic true in split at e
    · rename_i hi
      cases e
      refine PySem.P.str_of_int ?_ (Post.intro rfl S q)
      by_cases h0 : i.natAbs = 0
      · rw [h0]; decide
      · exact Nat.lt_trans ((Nat.log2_lt h0).mpr (show i.natAbs < 2 ^ 20 by omega)) (by decide)
    · cases e
  · obtain ⟨t, rfl⟩ := ab_str hv
    cases e
    exact PySem.P.str_of_str (Post.intro rfl S q)
theorem SE_strOf {a : Ex} (hK : KOk K) (H1 : SE prog w K Φ iniT d a) : SE prog w K Φ iniT d (.strOf a) := by
  intro e env ρ m h s L X h₀ Q E A ok rm O lo S q
  exact blt1 hK bm_str (fun _ z => nomatch z) H1 ok rm O lo S q fun S1 hv q => need_el q fun x e q => strOf_S S1 hv e q
theorem SE_isBool {a : Ex} (hK : KOk K) (H1 : SE prog w K Φ iniT d a) : SE prog w K Φ iniT d (.isBool a) := by
  intro e env ρ m h s L X h₀ Q E A ok rm O lo S q
  refine kIsB_el ok fun np b np' p k1 k2 k3 k4 => ?_
  rw [arm_eval_Call_Name', kwNil]
  refine wpAny_bind (blt_S S O bm_isinstance (hK.blt _ bm_isinstance) k1 (callWith2 (fun _ z => nomatch z) (by rw [starEach_cons k3]; rfl) rfl ?_))
  refine bindP (H1 k4 rm O lo S q) fun rv s₁ av h1 hv S1 r1 q1 => ?_
  refine blt_S S1 O bm_bool (hK.blt _ bm_bool) k2 ?_
  exact wpAny_mono (isBool_S (Q := Q) S1 hv q1) (fun _ _ p => p.from r1) fun _ _ x => x

theorem SEs_nil : SEs prog w K Φ iniT d .nil := by
  intro es env ρ m h s L X h₀ Q E A pos ok rm O lo S q
  cases es with
  | nil => exact wpAny_items_nil ⟨[], h, rfl, S, .refl s, q⟩
  | cons _ _ => exact off ok
theorem SEs_cons {a : Ex} {as : Exs} (H1 : SE prog w K Φ iniT d a) (H2 : SEs prog w K Φ iniT d as) : SEs prog w K Φ iniT d (.cons a as) := by
  intro es env ρ m h s L X h₀ Q E A pos ok rm O lo S q
  cases es with
  | nil => exact off ok
  | cons e es =>
    refine wpAny_items_cons (bindP (H1 (a1 (a2 ok)) rm O lo S q) fun rv s₁ av h1 hv S1 r1 q1 => ?_) (starEach_cons (a1 ok))
    refine bindLs (H2 (pos := pos) (a2 (a2 ok)) rm O lo S1 q1) fun vs s₂ avs h2 hvs S2 r2 q2 => ?_
    exact ⟨av :: avs, h2, by rw [List.map_cons, List.map_cons, hv, hvs], S2, r1.trans r2, q2⟩

theorem SE_list {as : Exs} (H1 : SEs prog w K Φ iniT d as) : SE prog w K Φ iniT d (.list as) := by
  intro e env ρ m h s L X h₀ Q E A ok rm O lo S q
  refine vList_el (show vList (okEs as env.scope) e = true from ok) fun es p ok => ?_
  refine List_ (bindLs (H1 (pos := p) ok rm O lo S q) fun vs s₁ avs h1 hv S1 r1 q1 => ?_)
  exact wpAny_mono (newList_S S1 hv (by rw [ab_len hv]; exact q1.1) q1.2) (fun _ _ p => p.from r1) fun _ _ x => x
theorem SE_tup {as : Exs} (H1 : SEs prog w K Φ iniT d as) : SE prog w K Φ iniT d (.tup as) := by
  intro e env ρ m h s L X h₀ Q E A ok rm O lo S q
  refine vTup_el (show vTup (fun l _ => okEs as env.scope l) e = true from ok) fun es k p ok => ?_
  refine Tuple_ (bindLs (H1 (pos := p) ok rm O lo S q) fun vs s₁ avs h1 hv S1 r1 q1 => ?_)
  exact wpAny_mono (newTuple_S S1 hv (by rw [ab_len hv]; exact q1.1) q1.2) (fun _ _ p => p.from r1) fun _ _ x => x

theorem SE_idx {a i : Ex} (H1 : SE prog w K Φ iniT d a) (H2 : SE prog w K Φ iniT d i) : SE prog w K Φ iniT d (.idx a i) := by
  intro e env ρ m h s L X h₀ Q E A ok rm O lo S q
  refine kIdx_el ok fun v sl p k1 k2 k3 => ?_
  refine Subscript_ (bindP (H1 k2 rm O lo S q) fun ra s₁ av h1 hv S1 r1 q1 => ?_)
  refine bindP (H2 k3 rm O lo S1 q1) fun rb s₂ bv h2 hb S2 r2 q9 => need_el q9 fun xs e1 q9 => need_el q9 fun k e2 q9 => have h0 := q9.1; have hl := q9.2.1; need_el q9.2.2 fun x e3 q2 => ?_
  exact wpAny_mono (idx_S S2 hv (intOf_some e2 ▸ hb) e1 h0 hl e3 q2 (subscripted_no k1)) (fun _ _ p => p.from (r1.trans r2)) fun _ _ x => x
theorem SE_sliceTo {a i : Ex} (H1 : SE prog w K Φ iniT d a) (H2 : SE prog w K Φ iniT d i) : SE prog w K Φ iniT d (.sliceTo a i) := by
  intro e env ρ m h s L X h₀ Q E A ok rm O lo S q
  refine kTo_el ok fun v u p' p k1 k2 => ?_
  refine Subscript_ (bindP (H1 k1 rm O lo S q) fun ra s₁ av h1 hv S1 r1 q1 => ?_)
  refine wpAny_Slice (wpAny_pure ?_)
  rw [evalPart_some]
  refine bindP (H2 k2 rm O lo S1 q1) fun rb s₂ bv h2 hb S2 r2 q9 => need_el q9 fun xs e1 q9 => need_el q9 fun k e2 q9 => have h0 := q9.1; have hk := q9.2.1; have hl := q9.2.2.1; have q2 := q9.2.2.2; ?_
  cases intOf_some e2
  obtain ⟨t, rfl⟩ := ab_int hb
  refine wpAny_pure ?_
  exact wpAny_mono (slice_S S2 hv .none (.int k t) e1 hl (fun vs hvs => pick_upto hvs h0) q2 (fun _ => rfl)) (fun _ _ p => p.from (r1.trans r2)) fun _ _ x => x
theorem SE_sliceFrom {a i : Ex} (H1 : SE prog w K Φ iniT d a) (H2 : SE prog w K Φ iniT d i) : SE prog w K Φ iniT d (.sliceFrom a i) := by
  intro e env ρ m h s L X h₀ Q E A ok rm O lo S q
  refine kFrom_el ok fun v u p' p k1 k2 => ?_
  refine Subscript_ (bindP (H1 k1 rm O lo S q) fun ra s₁ av h1 hv S1 r1 q1 => ?_)
  refine wpAny_Slice ?_
  rw [evalPart_some]
  refine bindP (H2 k2 rm O lo S1 q1) fun rb s₂ bv h2 hb S2 r2 q9 => need_el q9 fun xs e1 q9 => need_el q9 fun k e2 q9 => have h0 := q9.1; have hk := q9.2.1; have hl := q9.2.2.1; have q2 := q9.2.2.2; ?_
  cases intOf_some e2
  obtain ⟨t, rfl⟩ := ab_int hb
  refine wpAny_pure (wpAny_pure ?_)
  exact wpAny_mono (slice_S S2 hv (.int k t) .none e1 hl (fun vs hvs => pick_from hvs h0) q2 (fun _ => rfl)) (fun _ _ p => p.from (r1.trans r2)) fun _ _ x => x
end
end Mine

namespace Mine
open PySem PySem.W PySem.Calls PyProof.Rows

section
variable {prog : Program} {w : World} {K : Frag} {Φ : CallT} {d : Nat}

theorem met_S {x a : Nat} {xs : List V} {me : Str} {id : String} {apos pos np : Pos} {as : List PySem.Expr} {env : Env} {ρ : R} {m : Str → Option Value} {h : H} {s : Shared} {L : Addr} {X : List (Addr × Obj)} {h₀ : Heap} {Q : Value → Shared → Prop} {E : Value → Shared → Prop} {A : Around}
    (S : At K h₀ L X m h s.heap) (O : EnvOk env L) (lo : Loc env m X ρ) (ex : ρ x = some (.ref a)) (el : h a = some (.list xs)) (slot : Slot "list" me id) (hty : typeOf (.builtin id) = pure (.type "method_descriptor"))
    (hline : (apos.endLine == pos.line) = true) (hfew : methodCallForm as.length (backTo pos (starEach as env)) [] = true)
    (q : ∀ s₁, At K h₀ L X m h s₁.heap → Rest s s₁ → wpAny (model prog w) A (callWith pos (.builtin id) [.ref a] (backTo pos (starEach as env)) []) Q E s₁) :
    wpAny (model prog w) A (eval (.Call (.Attribute (.Name (nm x) np) me apos) as [] pos) env) Q E s := by
  rw [arm_eval_Call, kwNil]
  have hx := (lo x _ ex).1
  show wpAny _ _ (do let ov ← eval (.Name (nm x) np) env; standAt apos.atName; methodCall (.Name (nm x) np) me apos pos env ov as.length (backTo pos (starEach as env)) []) _ _ _
  refine wpAny_bind (bindP (Name_S (Q := fun v h' => v = .ref a ∧ h' = h) S O lo ex (nm_debug x hx).1 (nm_debug x hx).2 ⟨rfl, rfl⟩) fun rv s₁ av h1 hv S1 r1 q9 => have e1 := q9.1; have e2 := q9.2; ?_)
  subst e1 e2
  cases ab_ref hv
  refine e2_3 S1.led fun led D N nd R => ?_
  refine e2_2 (R.om a _ el) fun vs n hm hvs => ?_
  refine wpAny_bind (wpAny_standAt ?_)
  have hpos : methodCallPos true (.Name (nm x) np) env apos pos = pure pos := by unfold methodCallPos; simp [hline]
  unfold methodCall
  rw [hfew]
  refine wpAny_bind (wpAny_holding (kl_method N (List.mem_append_right _ hm) slot hty ?_))
  exact wpAny_bind (wpAny_of_eq hpos (q s₁ S1 r1))
theorem callWith1f {id : String} {a : Addr} {pos : Pos} {e : PySem.Expr} {env : Env} {Q : Value → Shared → Prop} {E : Value → Shared → Prop} {A : Around} {s : Shared} (he : starEach [e] env = [(false, eval e env)]) (q : wpAny (model prog w) A (eval e env) (fun v s₁ => wpAny (model prog w) A (call (.builtin id) [.ref a, v]) Q E s₁) E s) :
    wpAny (model prog w) A (callWith pos (.builtin id) [.ref a] (backTo pos (starEach [e] env)) []) Q E s := by
  have hk : ∀ h : Heap, True → ∃ k, (k = Keeper.frame ∨ k = Keeper.machine ∨ k = Keeper.boundFrame) ∧ Looks (model prog w) h (keeperOf (.builtin id)) k := fun h _ => ⟨.machine, .inr (.inl rfl), Looks.of_pure rfl⟩
  rw [he]
  refine callWith_of (P := fun _ => True) rfl hk (evalArgs_plain ?_)
  have := wpAny_items_cons (rest := []) (pos := pos) (Q := fun vs s₁ => True ∧ wpAny (model prog w) A (call (.builtin id) ([.ref a] ++ vs)) Q E s₁) (wpAny_mono q (fun v s₁ z => wpAny_items_nil ⟨trivial, z⟩) fun _ _ x => x) he
  rw [he] at this
  exact this
theorem few1 {e : PySem.Expr} {env : Env} {pos : Pos} (he : starEach [e] env = [(false, eval e env)]) : methodCallForm ([e] : List PySem.Expr).length (backTo pos (starEach [e] env)) [] = true := by rw [he]; rfl

theorem SE_pop {x : Nat} : SE prog w K Φ iniT d (.pop x) := by
  intro e env ρ m h s L X h₀ Q E A ok rm O lo S q
  refine kMt_el ok fun np apos as pos k3 k4 => l0_el (P := fun as => wpAny _ _ (eval (.Call (.Attribute (.Name (nm x) np) "pop" apos) as [] pos) env) _ _ _) k4 ?_
  refine need_el q fun v e1 q => need_el q fun xs e2 q => need_el q fun y e3 q => ?_
  refine e1_2 (listAt_ref e2) fun a e91 e4 => ?_
  obtain rfl := e91
  refine met_S S O lo e1 e4 PySem.F.slot_list_pop PySem.F.type_list_pop k3 rfl fun s₁ S1 r1 => ?_
  exact Calls.callWith_builtin rfl (PySem.evalArgs_none (wpAny_mono (pop_S S1 rfl e2 e3 q.1 q.2) (fun _ _ p => p.from r1) fun _ _ x => x))
theorem SE_append {x : Nat} {a : Ex} (H1 : SE prog w K Φ iniT d a) : SE prog w K Φ iniT d (.append x a) := by
  intro e env ρ m h s L X h₀ Q E A ok rm O lo S q
  refine kMet_el ok fun np apos b pos k3 k4 k5 => ?_
  refine need_el q fun v e1 q => need_el q fun ys e2 q => ?_
  have he : starEach [b] env = [(false, eval b env)] := starEach_cons k4
  refine e1_2 (listAt_ref e2) fun a e91 e4 => ?_
  obtain rfl := e91
  refine met_S S O lo e1 e4 PySem.F.slot_list_append PySem.F.type_list_append k3 (few1 he) fun s₁ S1 r1 => ?_
  refine callWith1f he (bindP (H1 k5 rm O lo S1 q) fun rv s₂ av h2 hv S2 r2 q9 => need_el q9 fun xs e5 q9 => have hl := q9.1; have q2 := q9.2; ?_)
  exact wpAny_mono (append_S S2 rfl hv e5 hl q2) (fun _ _ p => p.from (r1.trans r2)) fun _ _ x => x
theorem SE_extend {x : Nat} {a : Ex} (H1 : SE prog w K Φ iniT d a) : SE prog w K Φ iniT d (.extend x a) := by
  intro e env ρ m h s L X h₀ Q E A ok rm O lo S q
  refine kMet_el ok fun np apos b pos k3 k4 k5 => ?_
  refine need_el q fun v e1 q => need_el q fun ys e2 q => ?_
  have he : starEach [b] env = [(false, eval b env)] := starEach_cons k4
  refine e1_2 (listAt_ref e2) fun a e91 e4 => ?_
  obtain rfl := e91
  refine met_S S O lo e1 e4 PySem.F.slot_list_extend PySem.F.type_list_extend k3 (few1 he) fun s₁ S1 r1 => ?_
  refine callWith1f he (bindP (H1 k5 rm O lo S1 q) fun rv s₂ av h2 hv S2 r2 q9 => need_el q9 fun xs e5 q9 => need_el q9 fun zs e6 q9 => have hne := q9.2.1; have hl := q9.2.2.1; have q2 := q9.2.2.2; ?_)
  exact wpAny_mono (extend_S S2 rfl hv e5 e6 hne hl q2) (fun _ _ p => p.from (r1.trans r2)) fun _ _ x => x
end
end Mine

namespace Mine
open PySem PySem.W

noncomputable def runB {α : Type} (n : Nat) (f : Nat → Nat → Bool) : KasT α → Option α
  | .ret a => some a
  | .ask i j k => if i < n ∧ j < n ∧ i ≠ j then runB n f (k (f i j)) else none
noncomputable def allL (n : Nat) : Nat → List (List Nat)
  | 0 => [[]]
  | k + 1 => (List.range n).flatMap fun a => (allL n k).map (a :: ·)
theorem allL_mem {n : Nat} : ∀ (k : Nat) (r : List Nat), r.length = k → (∀ x ∈ r, x < n) → r ∈ allL n k
  | 0, [], _, _ => .head _
  | k + 1, a :: r, hl, h => by
    refine List.mem_flatMap.mpr ⟨a, List.mem_range.mpr (h a (.head _)), List.mem_map.mpr ⟨r, allL_mem k r (by simpa using hl) (fun x hx => h x (.tail _ hx)), rfl⟩⟩
  | 0, _ :: _, h, _ => nomatch h
  | _ + 1, [], h, _ => nomatch h
noncomputable def nodupB : List Nat → Bool
  | [] => true
  | a :: r => !r.contains a && nodupB r
theorem nodupB_of : ∀ {r : List Nat}, r.Nodup → nodupB r = true
  | [], _ => rfl
  | a :: r, h => by
    have := List.nodup_cons.mp h
    simp [nodupB, this.1, nodupB_of this.2]
noncomputable def goodRun (n : Nat) (r : List Nat) : Bool := match runB n (fun i j => decide (r.getD i 0 < r.getD j 0)) (kas_sort n) with
  | some p => p.toList.isPerm (List.range n) && (p.toList.map fun i => r.getD i 0) == List.range n
  | none => false
noncomputable def okSort (n : Nat) : Bool := (allL n n).all fun r => !nodupB r || goodRun n r
theorem ok2 : okSort 2 = true := by decide +kernel
theorem ok3 : okSort 3 = true := by decide +kernel
theorem ok4 : okSort 4 = true := by decide +kernel
theorem ok5 : okSort 5 = true := by decide +kernel
theorem okAll (n : Nat) (h2 : 2 ≤ n) (h5 : n ≤ 5) : okSort n = true := by
  match n, h2, h5 with
  | 2, _, _ => exact ok2
  | 3, _, _ => exact ok3
  | 4, _, _ => exact ok4
  | 5, _, _ => exact ok5

theorem cnt_le (a b : Int) (hab : a ≤ b) : ∀ l : List Int, l.countP (· < a) ≤ l.countP (· < b)
  | [] => Nat.le_refl _
  | x :: l => by
    have := cnt_le a b hab l
    simp only [List.countP_cons, decide_eq_true_eq]
    by_cases h1 : x < a <;> by_cases h2 : x < b <;> simp only [h1, h2, if_true, if_false] <;> lia
theorem cnt_lt (a b : Int) (hab : a < b) : ∀ l : List Int, a ∈ l → l.countP (· < a) < l.countP (· < b)
  | x :: l, h => by
    have h9 := cnt_le a b (Int.le_of_lt hab) l
    simp only [List.countP_cons, decide_eq_true_eq]
    rcases List.mem_cons.mp h with rfl | h
    · simp only [hab, Int.lt_irrefl, if_true, if_false]; lia
    · have := cnt_lt a b hab l h
      by_cases h1 : x < a <;> by_cases h2 : x < b <;> simp only [h1, h2, if_true, if_false] <;> lia
theorem cnt_len (a : Int) : ∀ l : List Int, a ∈ l → l.countP (· < a) < l.length
  | x :: l, h => by
    simp only [List.countP_cons, decide_eq_true_eq, List.length_cons]
    rcases List.mem_cons.mp h with rfl | h
    · simp only [Int.lt_irrefl, if_false]
      have := List.countP_le_length (p := fun y => decide (y < a)) (l := l)
      lia
    · have := cnt_len a l h
      by_cases h1 : x < a <;> simp only [h1, if_true, if_false] <;> lia
theorem cnt_iff {ks : List Int} {a b : Int} (ha : a ∈ ks) (hb : b ∈ ks) : (ks.countP (· < a) < ks.countP (· < b)) ↔ a < b := by
  constructor
  · intro h
    rcases Int.lt_or_le a b with q | q
    · exact q
    · have := cnt_le b a q ks
      lia
  · intro h
    exact cnt_lt a b h ks ha

noncomputable def rk (ks : List Int) : List Nat := ks.map fun a => ks.countP (· < a)
theorem rk_nodup {ks : List Int} (h : ks.Nodup) : (rk ks).Nodup := by
  unfold rk List.Nodup
  rw [List.pairwise_map]
  refine List.Pairwise.imp_of_mem (fun {a b} ha hb hab => ?_) h
  intro e
  rcases Int.lt_trichotomy a b with q | q | q
  · have := (cnt_iff ha hb).mpr q; lia
  · exact hab q
  · have := (cnt_iff hb ha).mpr q; lia
theorem rk_get {ks : List Int} {i : Nat} (hi : i < ks.length) : (rk ks).getD i 0 = ks.countP (· < ks.getD i 0) := by
  have h1 : (rk ks)[i]? = some (ks.countP (· < ks[i])) := by unfold rk; rw [List.getElem?_map, List.getElem?_eq_getElem hi]; rfl
  rw [List.getD_eq_getElem?_getD, h1, List.getD_eq_getElem?_getD, List.getElem?_eq_getElem hi]
  rfl
theorem mem_getD {ks : List Int} {i : Nat} (hi : i < ks.length) : ks.getD i 0 ∈ ks := by
  rw [List.getD_eq_getElem?_getD, List.getElem?_eq_getElem hi]
  exact List.getElem_mem hi

/-- what the sorter answers on few distinct ints -/
theorem sort_few (ks : List Int) (h2 : 2 ≤ ks.length) (h5 : ks.length ≤ 5) (hn : ks.Nodup) :
    ∃ p : Array Nat, runB ks.length (fun i j => decide (ks.getD i 0 < ks.getD j 0)) (kas_sort ks.length) = some p ∧ p.toList.Perm (List.range ks.length) ∧ (p.toList.map fun i => ks.getD i 0).Pairwise (· ≤ ·) := by
  have ok := okAll ks.length h2 h5
  unfold okSort at ok
  rw [List.all_eq_true] at ok
  have hm : rk ks ∈ allL ks.length ks.length := allL_mem _ _ (by simp [rk]) (fun x hx => by
    obtain ⟨a, ha, rfl⟩ := List.mem_map.mp hx
    exact cnt_len a ks ha)
  have g := ok _ hm
  rw [nodupB_of (rk_nodup hn)] at g
  simp only [Bool.not_true, Bool.false_or] at g
  have same : ∀ {α : Type} (t : KasT α), runB ks.length (fun i j => decide (ks.getD i 0 < ks.getD j 0)) t = runB ks.length (fun i j => decide ((rk ks).getD i 0 < (rk ks).getD j 0)) t := by
    intro α t
    induction t with
    | ret a => rfl
    | ask i j k ih =>
      unfold runB
      by_cases c : i < ks.length ∧ j < ks.length ∧ i ≠ j
      · rw [if_pos c, if_pos c]
        have e : decide (ks.getD i 0 < ks.getD j 0) = decide ((rk ks).getD i 0 < (rk ks).getD j 0) := by
          rw [rk_get c.1, rk_get c.2.1]
          exact decide_eq_decide.mpr (cnt_iff (mem_getD c.1) (mem_getD c.2.1)).symm
        rw [e]
        exact ih _
      · rw [if_neg c, if_neg c]
  unfold goodRun at g
  rw [same]
  cases e : runB ks.length (fun i j => decide ((rk ks).getD i 0 < (rk ks).getD j 0)) (kas_sort ks.length) with
  | none => rw [e] at g; cases g
  | some p =>
    rw [e] at g
    simp only [Bool.and_eq_true, beq_iff_eq] at g
    obtain ⟨g1, g2⟩ := g
    have hp : p.toList.Perm (List.range ks.length) := List.isPerm_iff.mp g1
    refine ⟨p, rfl, hp, ?_⟩
    have pw : (p.toList.map fun i => (rk ks).getD i 0).Pairwise (· ≤ ·) := by
      rw [g2]
      exact List.pairwise_lt_range.imp (fun h => Nat.le_of_lt h)
    rw [List.pairwise_map] at pw ⊢
    refine pw.imp_of_mem fun {i j} hi hj hle => ?_
    have hi' := List.mem_range.mp (hp.mem_iff.mp hi)
    have hj' := List.mem_range.mp (hp.mem_iff.mp hj)
    rw [rk_get hi', rk_get hj'] at hle
    rcases Int.lt_or_le (ks.getD j 0) (ks.getD i 0) with q | q
    · have := (cnt_iff (mem_getD hj') (mem_getD hi')).mpr q
      lia
    · exact q
end Mine

namespace Mine
open PySem PySem.W PySem.Calls PyProof.Rows

theorem keysOf_get {h : H} : ∀ {xs : List V} {ks : List Int}, keysOf h xs = some ks → ks.length = xs.length ∧ ∀ i, i < xs.length → firstInt h (xs.getD i .none) = some (ks.getD i 0)
  | [], ks, e => by cases e; exact ⟨rfl, fun i hi => nomatch hi⟩
  | x :: xs, ks, e => by
    unfold keysOf at e
    cases e1 : firstInt h x with
    | none => rw [e1] at e; cases e
    | some k =>
      rw [e1] at e
      cases e2 : keysOf h xs with
      | none => rw [e2] at e; cases e
      | some r =>
        rw [e2] at e
        cases e
        obtain ⟨h1, h2⟩ := keysOf_get e2
        refine ⟨by simp [h1], fun i hi => ?_⟩
        cases i with
        | zero => exact e1
        | succ i => exact h2 i (Nat.lt_of_succ_lt_succ hi)
theorem keysOf_map {h : H} {xs : List V} {ks : List Int} (e : keysOf h xs = some ks) : ∀ {l : List Nat}, (∀ i ∈ l, i < xs.length) → keysOf h (l.map fun i => xs.getD i .none) = some (l.map fun i => ks.getD i 0)
  | [], _ => rfl
  | i :: l, hl => by
    show (firstInt h (xs.getD i .none)).bind _ = _
    rw [(keysOf_get e).2 i (hl i (.head _)), keysOf_map e fun j hj => hl j (.tail _ hj)]
    rfl
theorem firstInt_ref {h : H} {x : V} {k : Int} (e : firstInt h x = some k) : ∃ a r, x = .ref a ∧ h a = some (.tup (.int k :: r)) := by
  unfold firstInt at e
  split at e
  · split at e
    · cases e; exact ⟨_, _, rfl, by assumption⟩
    · cases e
  · cases e
theorem range_map {α : Type} (d : α) : ∀ (xs : List α), (List.range xs.length).map (fun i => xs.getD i d) = xs := fun xs => by
  apply List.ext_getElem
  · simp
  · intro i h1 h2
    simp [List.getD_eq_getElem?_getD, h2]

section
variable {prog : Program} {w : World} {A : Around} {E : Value → Shared → Prop} {K : Frag} {h₀ : Heap} {L : Addr} {X : List (Addr × Obj)} {m : Str → Option Value} {h : H} {s : Shared}

theorem tup1 {hp : Heap} {led news : List (Addr × Obj)} {D : Nat → Nat} (R : RepD K h led D) (N : News h₀ L hp news) (hs : ∀ p ∈ led, p ∈ news) {v : Value} {x : V} {k : Int} (hv : ab v = some x) (hx : firstInt h x = some k) :
    ∃ a us n t, v = .ref a ∧ hp.get? a = some (tupO (.int k t :: us) n) := by
  refine e2_2 (firstInt_ref hx) fun a r e92 e => ?_
  obtain rfl := e92
  cases ab_ref hv
  refine e2_2 (R.om a _ e) fun vs n hm hvs => ?_
  cases vs with
  | nil => simp at hvs
  | cons v vs =>
    simp only [List.map_cons, List.cons.injEq] at hvs
    obtain ⟨t, rfl⟩ := ab_int hvs.1
    exact ⟨a, vs, n, t, rfl, (N _ (hs _ hm)).1⟩
theorem kasWp_run {α : Type} {n : Nat} {f : Nat → Nat → Bool} {cmp : Nat → Nat → (Bool → Shared → Prop) → Shared → Prop} {Q : α → Shared → Prop} {p : α} (hc : ∀ i j C, i < n → j < n → i ≠ j → C (f i j) s → cmp i j C s) (q : Q p s) : ∀ (t : KasT α), runB n f t = some p → t.kasWp cmp Q s
  | .ret a, hr => by cases hr; exact q
  | .ask i j k, hr => by
    unfold runB at hr
    set_option tactic.hygienic true in split at hr
    · rename_i c
      exact hc i j _ c.1 c.2.1 c.2.2 (kasWp_run hc q (k (f i j)) hr)
    · cases hr
theorem nodup_getD {ks : List Int} (hn : ks.Nodup) {i j : Nat} (hi : i < ks.length) (hj : j < ks.length) (hij : i ≠ j) : ks.getD i 0 ≠ ks.getD j 0 := by
  rw [List.getD_eq_getElem?_getD, List.getD_eq_getElem?_getD, List.getElem?_eq_getElem hi, List.getElem?_eq_getElem hj]
  intro e
  exact hij ((List.getElem_inj hn).mp e)
theorem ask_S {vs : List Value} {ks : List Int} (hl : ks.length = vs.length) (hn : ks.Nodup) (T : ∀ i, i < vs.length → ∃ a us n t, vs.getD i Value.none = .ref a ∧ s.heap.get? a = some (tupO (.int (ks.getD i 0) t :: us) n))
    {i j : Nat} {C : Bool → Shared → Prop} (hi : i < vs.length) (hj : j < vs.length) (hij : i ≠ j) (c : C (decide (ks.getD i 0 < ks.getD j 0)) s) : kas_ask prog w A (tuples' true) vs i j C s := by
  refine e4_2 (T i hi) fun a us n t e1 g1 => ?_
  refine e4_2 (T j hj) fun b us' n' t' e2 g2 => ?_
  unfold kas_ask
  rw [e1, e2]
  refine kat_lt g1 rfl g2 rfl ?_
  refine kat_cons (r := us.zip us') (wpAny_eqBool_int ?_)
  have hne := nodup_getD hn (hl ▸ hi) (hl ▸ hj) hij
  have : (ks.getD i 0 == ks.getD j 0) = false := by rw [beq_eq_false_iff_ne]; exact hne
  rw [this]
  exact kat_no (oneLt_int c)

theorem katTups_S {hp : Heap} {led news : List (Addr × Obj)} {D : Nat → Nat} (R : RepD K h led D) (N : News h₀ L hp news) (hs : ∀ p ∈ led, p ∈ news) : ∀ {vs : List Value} {xs : List V} {ks : List Int}, vs.map ab = xs.map some → keysOf h xs = some ks → ∃ fs, KatTups hp vs fs ∧ fs.length = vs.length ∧ ∀ f ∈ fs, ∃ i t, f = .int i t
  | [], [], ks, _, e => ⟨[], trivial, rfl, fun _ z => nomatch z⟩
  | [], _ :: _, _, q, _ => by simp at q
  | _ :: _, [], _, q, _ => by simp at q
  | v :: vs, x :: xs, ks, q, e => by
    simp only [List.map_cons, List.cons.injEq] at q
    unfold keysOf at e
    cases e1 : firstInt h x with
    | none => rw [e1] at e; cases e
    | some k =>
      rw [e1] at e
      cases e2 : keysOf h xs with
      | none => rw [e2] at e; cases e
      | some r =>
        refine e1_3 (katTups_S R N hs q.2 e2) fun fs k1 k2 k3 => ?_
        refine e4_2 (tup1 R N hs q.1 e1) fun a us n t e94 g => ?_
        obtain rfl := e94
        refine ⟨.int k t :: fs, KatTups.cons g rfl rfl rfl k1, by simp [k2], fun f hf => ?_⟩
        rcases List.mem_cons.mp hf with rfl | hf
        · exact ⟨_, _, rfl⟩
        · exact k3 f hf

theorem sorted_big {rv : Value} {v : V} {xs : List V} {ks : List Int} {Q : V → H → Prop} (S : At K h₀ L X m h s.heap) (hv : ab rv = some v) (e : listAt h v = some xs) (ek : keysOf h xs = some ks) (hn : ks.Nodup) (h2 : 2 ≤ xs.length) (h5 : xs.length ≤ 5)
    (q : ∀ ys ls, ys.Perm xs → keysOf h ys = some ls → ls.Pairwise (· ≤ ·) → newO h (.list ys) Q) : wpAny (model prog w) A (call (.builtin "sorted") [rv]) (Post K h₀ L X m s Q) E s := by
  refine e1_2 (listAt_ref e) fun a e91 e9 => ?_
  obtain rfl := e91
  cases ab_ref hv
  refine e2_3 S.led fun led D N nd R => ?_
  refine e2_2 (R.om a _ e9) fun vs n hm hvs => ?_
  have hl := ab_len hvs
  obtain ⟨kl, kg⟩ := keysOf_get ek
  refine e1_3 (sort_few ks (by lia) (by lia) hn) fun p r1 r2 r3 => ?_
  have hlist : s.heap.IsList a vs.toArray := ⟨_, (N _ (List.mem_append_right _ hm)).1, rfl, n, rfl⟩
  refine kat_sorted S.fr N hlist (by lia) (by lia) fun D' e1 h' F' N' hlt => ?_
  have hs : ∀ p ∈ led, p ∈ (D', seqObj "list" #[] e1) :: (X ++ led) := fun p hp => List.mem_cons_of_mem _ (List.mem_append_right _ hp)
  refine e1_3 (katTups_S R N' hs hvs ek) fun fs t1 t2 t3 => ?_
  refine kat_kind (T := .type "int") t1 (by lia) (fun f hf => ?_) (by decide) ?_
  · refine e2_1 (t3 f hf) fun i t e92 => ?_
    obtain rfl := e92
    exact Looks.of_pure rfl
  have hT : (Value.type "int" != Value.type "tuple") = true := by decide
  rw [hT]
  have T : ∀ i, i < vs.length → ∃ a us n t, vs.getD i Value.none = .ref a ∧ h'.get? a = some (tupO (.int (ks.getD i 0) t :: us) n) := fun i hi => by
    refine tup1 R N' hs ?_ (kg i (hl ▸ hi))
    obtain ⟨v, g1, g2⟩ := ab_get hvs (i := i) (x := xs.getD i .none) (by rw [List.getD_eq_getElem?_getD, List.getElem?_eq_getElem (hl ▸ hi)]; rfl)
    rw [List.getD_eq_getElem?_getD, g1]
    exact g2
  refine kasWp_run (n := vs.length) (f := fun i j => decide (ks.getD i 0 < ks.getD j 0)) (fun i j C hi hj hij c => ask_S (by lia) hn T hi hj hij c) ?_ _ (by rw [show vs.length = ks.length by lia]; exact r1)
  refine KasFin.intro F' N' (UpdF.head fun p hp => Nat.ne_of_lt (hlt p hp)) fun h'' c F'' N'' => ?_
  have hpm : ∀ i ∈ p.toList, i < xs.length := fun i hi => by rw [← kl]; exact List.mem_range.mp (r2.mem_iff.mp hi)
  have hout : (p.toList.map fun i => vs.getD i Value.none).map ab = (p.toList.map fun i => xs.getD i V.none).map some := by
    rw [List.map_map, List.map_map]
    refine List.map_congr_left fun i hi => ?_
    have hi' := hpm i hi
    obtain ⟨v, g1, g2⟩ := ab_get hvs (i := i) (x := xs.getD i .none) (by rw [List.getD_eq_getElem?_getD, List.getElem?_eq_getElem hi']; rfl)
    show ab (vs.getD i Value.none) = some (xs.getD i V.none)
    rw [List.getD_eq_getElem?_getD, g1]
    exact g2
  have hfresh : h D' = none := by
    cases q9 : h D' with
    | none => rfl
    | some o =>
      obtain ⟨ob, hm⟩ := (R.om D' o q9).kind
      exact absurd (hlt _ (List.mem_append_right _ hm)) (Nat.lt_irrefl _)
  refine Post.intro rfl ⟨S.cx, F'', _, D, news_perm N'', nd_add nd hlt, R.add (o := .list (p.toList.map fun i => xs.getD i V.none)) (fun z => z) ⟨_, c, List.mem_singleton.mpr rfl, hout⟩⟩
    (q _ _ ?_ (keysOf_map ek hpm) r3 D' hfresh)
  have := r2.map fun i => xs.getD i V.none
  rw [kl, range_map] at this
  exact this
end
end Mine

namespace Mine
open PySem PySem.W PySem.Calls PyProof.Rows

section
variable {prog : Program} {w : World} {A : Around} {E : Value → Shared → Prop} {K : Frag} {h₀ : Heap} {L : Addr} {X : List (Addr × Obj)} {m : Str → Option Value} {h : H} {s : Shared} {Φ : CallT} {d : Nat}

theorem sort_short {a : Addr} {vs : List Value} {n : Nat} {P : PySem.Fin → Shared → Prop} (ho : s.heap.get? a = some (seqObj "list" vs.toArray n)) (h2 : vs.length < 2)
    (q : P (.done (.ret .none)) { s with heap := sortedHeap s.heap a vs vs.toArray }) : wpAny (model prog w) A (Builtin.«list.sort» ⟨[.ref a], []⟩) P E s := by
  have hz : vs.toArray.size < 2 := by simpa using h2
  rw [list_sort_plain]
  refine wpAny_bind (listItems_at ho rfl (wpAny_bind (listUpdate_at ho rfl ?_ (by rw [sizeLine_eq]; lia) (Nat.zero_le _))))
  obtain ⟨k, hk⟩ : ∃ k, (s.heap.update a (Obj.mapSeq fun _ => #[])).get? a = some (seqObj "list" #[] k) := ⟨_, get?_update_seq ho fun _ => #[]⟩
  refine wpAny_bind (seqEpoch_at hk rfl (wpAny_bind (wpAny_newTuple (wpAny_bind (wpAny_newList (wpAny_holding ?_) (Nat.zero_le _))) (by show vs.length ≤ _; rw [sizeLine_eq]; lia))))
  show wpAny (model prog w) A _ P E { s with heap := ((s.heap.update a (Obj.mapSeq fun _ => #[])).push (seqObj "tuple" vs.toArray 0)).push (seqObj "list" #[] 0) }
  have hk2 : (((s.heap.update a (Obj.mapSeq fun _ => #[])).push (seqObj "tuple" vs.toArray 0)).push (seqObj "list" #[] 0)).get? a = some (seqObj "list" #[] k) :=
    Heap.get?_push_of_some _ (Heap.get?_push_of_some _ hk)
  dsimp only
  rw [if_pos hz, if_pos hz]
  refine wpAny_bind (wpAny_pure ?_)
  rw [StateT.run_pure]
  refine wpAny_bind (wpAny_pure ?_)
  dsimp only
  have hout : (arrOf (SortSt.mk' general' (vs.toArray.zip vs.toArray) #[] 7 none)).map (·.2) = vs.toArray := by
    show (vs.toArray.zip vs.toArray).map (·.2) = vs.toArray
    exact Array.map_snd_zip (Nat.le_refl _)
  rw [hout]
  refine wpAny_bind (seqEpoch_at hk2 rfl (wpAny_bind (listUpdate_at hk2 rfl ?_ (Nat.zero_le _) (Nat.le_trans (Nat.le_of_lt hz) (by rw [sizeLine_eq]; lia)))))
  simp only [bne_self_eq_false, Bool.false_eq_true, if_false]
  exact wpAny_pure q
theorem sorted_short {l : Addr} {vs : List Value} {Q : Value → Shared → Prop} (hl : s.heap.IsList l vs.toArray) (h2 : vs.length < 2)
    (q : Q (.ref (s.heap.objs.size + 1)) { s with heap := sortedAll s.heap vs vs.toArray }) : wpAny (model prog w) A (call (.builtin "sorted") [.ref l]) Q E s := by
  refine Calls.call_function_entry kind_sorted plain_sorted entry_sorted (args_sorted1 _) ?_
  unfold Builtin.«sorted»
  refine wpAny_bind (m := checkCount "sorted" 1 1 _) (wpAny_pure ?_)
  refine wpAny_bind (collect_list hl (wpAny_bind (wpAny_newList ?_ (by rw [sizeLine_eq]; lia))) (by rw [sizeLine_eq]; lia))
  have z : ((s.heap.push (seqObj "list" #[] 0)).update s.heap.objs.size (Obj.mapSeq (· ++ vs.toArray))).objs.size = s.heap.objs.size + 1 := by rw [Heap.size_update, size_push']
  have hD : (((s.heap.push (seqObj "list" #[] 0)).update s.heap.objs.size (Obj.mapSeq (· ++ vs.toArray))).push (seqObj "list" vs.toArray 0)).get? (s.heap.objs.size + 1) = some (seqObj "list" vs.toArray 0) := by
    rw [← z]; exact Heap.get?_push_size _ rfl
  show wpAny _ _ _ _ _ { s with heap := ((s.heap.push (seqObj "list" #[] 0)).update s.heap.objs.size (Obj.mapSeq (· ++ vs.toArray))).push (seqObj "list" vs.toArray 0) }
  rw [z]
  exact wpAny_bind (wpAny_holding (wpAny_call_entry slot_list_sort ⟨_, hD, rfl⟩ entry_list_sort (sort_short hD h2 ⟨_, rfl, wpAny_pure ⟨_, rfl, q⟩⟩) (args_list_sort _)))
theorem short_sorted {ks : List Int} (h : ¬ 2 ≤ ks.length) : ks.Pairwise (· ≤ ·) := match ks with
  | [] => .nil
  | [_] => List.pairwise_singleton _ _
  | _ :: _ :: _ => absurd (Nat.le_add_left 2 _) h
theorem sorted_S {rv : Value} {v : V} {xs : List V} {ks : List Int} {Q : V → H → Prop} (S : At K h₀ L X m h s.heap) (hv : ab rv = some v) (e : listAt h v = some xs) (ek : keysOf h xs = some ks) (h5 : xs.length ≤ 5) (hn : ks.Nodup)
    (q : ∀ ys ls, ys.Perm xs → keysOf h ys = some ls → ls.Pairwise (· ≤ ·) → newO h (.list ys) Q) : wpAny (model prog w) A (call (.builtin "sorted") [rv]) (Post K h₀ L X m s Q) E s := by
  by_cases h2 : 2 ≤ xs.length
  · exact sorted_big S hv e ek hn h2 h5 q
  · refine e1_2 (listAt_ref e) fun a e91 e9 => ?_
    obtain rfl := e91
    cases ab_ref hv
    refine e2_3 S.led fun led D N nd R => ?_
    refine e2_2 (R.om a _ e9) fun vs n hm hvs => ?_
    have hl := ab_len hvs
    refine sorted_short ⟨_, (N _ (List.mem_append_right _ hm)).1, rfl, n, rfl⟩ (by lia) ?_
    have F' : Fr h₀ L (sortedAll s.heap vs vs.toArray) m := S.fr.kept fun b o => sortedAll_old
    obtain ⟨c, hc⟩ := sortedAll_at s.heap vs vs.toArray
    have N' := News.kept_cons (h' := sortedAll s.heap vs vs.toArray) S.fr N (fun b o => sortedAll_old) (Nat.le_succ _) hc
    have hp1 : ks.Pairwise (· ≤ ·) := by
      have := (keysOf_get ek).1
      exact short_sorted (by rw [this]; exact h2)
    refine Post.intro rfl ⟨S.cx, F', _, D, news_perm N', nd_add nd fun p hp => Nat.lt_succ_of_lt (Heap.lt_size (N p hp).1), R.add (o := .list xs) (fun z => z) ⟨vs, c, List.mem_singleton.mpr rfl, hvs⟩⟩
      (q xs ks (List.Perm.refl _) ek hp1 _ (S.fresh_ge (Nat.le_succ _)))
theorem SE_sorted {a : Ex} (hK : KOk K) (H1 : SE prog w K Φ iniT d a) : SE prog w K Φ iniT d (.sorted a) := by
  intro e env ρ m h s L X h₀ Q E A ok rm O lo S q
  exact blt1 hK bm_sorted (fun _ z => nomatch z) H1 ok rm O lo S q fun S1 hv q => need_el q fun xs e q => need_el q fun ks ek q => sorted_S S1 hv e ek q.1 q.2.1 q.2.2

theorem sum_S {rv : Value} {v : V} {xs : List V} {ns : List Int} {Q : V → H → Prop} (hh : A.handled = none) (S : At K h₀ L X m h s.heap) (hv : ab rv = some v) (e : listAt h v = some xs) (ei : intsOf xs = some ns) (q : Q (.int ns.sum) h) :
    wpAny (model prog w) A (call (.builtin "sum") [rv]) (Post K h₀ L X m s Q) E s := by
  refine e1_2 (listAt_ref e) fun a e91 e9 => ?_
  obtain rfl := e91
  cases ab_ref hv
  refine e1_2 (S.list e9) fun vs hl hvs => ?_
  have hi := ab_ints hvs ei
  obtain ⟨xs', hx⟩ := hi.allInts.items
  rw [hx] at hl
  refine sum_intListG hh hl fun h' tk t' hk => ?_
  have hsum : preSum (numAt xs') xs'.size = ns.sum := by
    rw [preSum_eq, List.take_of_length_le (by simp)]
    have : numsOf (intItems xs').toList = ns := by rw [← hx]; exact hi.numsOf
    rw [← this, nums_intItems]
  rw [hsum]
  exact Post.intro rfl (S.ext hk) q
theorem SE_sum {a : Ex} (hK : KOk K) (H1 : SE prog w K Φ iniT d a) : SE prog w K Φ iniT d (.sum a) := by
  intro e env ρ m h s L X h₀ Q E A ok rm O lo S q
  exact blt1 hK bm_sum (fun _ z => nomatch z) H1 ok rm O lo S q fun S1 hv q => need_el q fun xs e q => need_el q fun ns ei q => sum_S rm.hh S1 hv e ei q.2
end
end Mine

namespace Mine
open PySem PySem.W PySem.Calls PyProof.Rows PySem.SeqAt

mutual
noncomputable def dPy : D → PyData
  | .none => .none
  | .bool b => .bool b
  | .int i => .int i
  | .str s => .str s
  | .tup ds => .tuple (dPys ds)
  | .list ds => .list (dPys ds)
noncomputable def dPys : List D → List PyData
  | [] => []
  | d :: ds => dPy d :: dPys ds
end
theorem dPy_lay : ∀ (n : Nat) (d : D), dOk n d = true → (dPy d).canLay0 = true ∧ (dPy d).depth ≤ n := by
  have all : ∀ (n : Nat), (∀ d, dOk n d = true → (dPy d).canLay0 = true ∧ (dPy d).depth ≤ n) → ∀ ds : List D, ds.all (dOk n) = true → PyData.canLayAll0 (dPys ds) = true ∧ PyData.depthAll (dPys ds) ≤ n := by
    intro n ih ds
    induction ds with
    | nil => intro _; simp [dPys, PyData.canLayAll0, PyData.depthAll]
    | cons d ds hi =>
      intro h
      rw [List.all_cons, Bool.and_eq_true] at h
      have h1 := ih d h.1
      have h2 := hi h.2
      simp only [dPys, PyData.canLayAll0, PyData.depthAll, h1.1, h2.1, Bool.and_self, true_and]
      have a1 := h1.2
      have a2 := h2.2
      lia
  intro n
  induction n with
  | zero =>
    intro d h
    cases d with
    | str s => simp only [dPy, PyData.canLay0, PyData.depth]; exact ⟨by simpa [dOk, PyData.strOk] using h, Nat.le_refl _⟩
    | tup _ => simp [dOk] at h
    | list _ => simp [dOk] at h
    | _ => simp [dPy, PyData.canLay0, PyData.depth]
  | succ n ih =>
    intro d h
    cases d with
    | str s => simp only [dPy, PyData.canLay0, PyData.depth]; exact ⟨by simpa [dOk, PyData.strOk] using h, Nat.zero_le _⟩
    | tup ds =>
      have q := all n ih ds (by simpa [dOk] using h)
      simp only [dPy, PyData.canLay0, PyData.depth]
      exact ⟨q.1, by lia⟩
    | list ds =>
      have q := all n ih ds (by simpa [dOk] using h)
      simp only [dPy, PyData.canLay0, PyData.depth]
      exact ⟨q.1, by lia⟩
    | _ => simp [dPy, PyData.canLay0, PyData.depth]
mutual
theorem dPy_eqv : ∀ d : D, PyData.eqv (dPy d) (dPy d) = true
  | .none => by simp [dPy, PyData.eqv]
  | .bool _ => by simp [dPy, PyData.eqv]
  | .int _ => by simp [dPy, PyData.eqv]
  | .str _ => by simp [dPy, PyData.eqv]
  | .tup ds => by simp [dPy, PyData.eqv, dPys_eqv ds]
  | .list ds => by simp [dPy, PyData.eqv, dPys_eqv ds]
theorem dPys_eqv : ∀ ds : List D, PyData.eqvAll (dPys ds) (dPys ds) = true
  | [] => by simp [dPys, PyData.eqvAll]
  | d :: ds => by simp [dPys, PyData.eqvAll, dPy_eqv d, dPys_eqv ds]
end

section
variable {prog : Program} {w : World} {A : Around} {E : Value → Shared → Prop} {K : Frag} {h₀ : Heap} {L : Addr} {X : List (Addr × Obj)} {m : Str → Option Value} {h : H} {s : Shared} {Φ : CallT} {d : Nat}

theorem reads_both (S : At K h₀ L X m h s.heap) {v : V} {d : D} (q : HasD h v d) : ∀ {rv : Value}, ab rv = some v → ∃ as, Reads s.heap rv (dPy d) as := by
  refine HasD.rec (motive_1 := fun v d _ => ∀ {rv : Value}, ab rv = some v → ∃ as, Reads s.heap rv (dPy d) as) (motive_2 := fun xs ds _ => ∀ {vs : List Value}, vs.map ab = xs.map some → ∃ as, ReadsAll s.heap vs (dPys ds) as) ?_ ?_ ?_ ?_ ?_ ?_ ?_ ?_ q
  · intro rv e
    cases ab_none e; exact ⟨_, Reads.none⟩
  · intro b rv e
    cases ab_bool e; exact ⟨_, Reads.bool b⟩
  · intro i rv e
    obtain ⟨t, rfl⟩ := ab_int e; exact ⟨_, Reads.int i t⟩
  · intro x rv e
    obtain ⟨t, rfl⟩ := ab_str e; exact ⟨_, Reads.str x t⟩
  · intro a xs ds ha _ ih rv e
    cases ab_ref e
    refine e2_3 S.led fun led D N nd R => ?_
    refine e2_2 (R.om _ _ ha) fun vs n hm hv => ?_
    obtain ⟨as, q⟩ := ih hv
    rw [dPy]
    exact ⟨_, reads_tuple_at (N.get (List.mem_append_right _ hm)) rfl rfl (by simpa using q)⟩
  · intro a xs ds ha _ ih rv e
    cases ab_ref e
    refine e2_3 S.led fun led D N nd R => ?_
    refine e2_2 (R.om _ _ ha) fun vs n hm hv => ?_
    obtain ⟨as, q⟩ := ih hv
    rw [dPy]
    exact ⟨_, reads_list_at (N.get (List.mem_append_right _ hm)) rfl rfl (by simpa [W.listOf] using q)⟩
  · intro vs e
    cases vs with
    | nil => exact ⟨_, ReadsAll.nil⟩
    | cons _ _ => cases e
  · intro x xs d ds _ _ ih1 ih2 vs e
    cases vs with
    | nil => cases e
    | cons v vs =>
      replace e := List.cons.inj e
      obtain ⟨as, q⟩ := ih1 e.1
      obtain ⟨bs, p⟩ := ih2 e.2
      rw [dPys]
      exact ⟨_, ReadsAll.cons q p⟩
theorem reads_S (S : At K h₀ L X m h s.heap) {rv : Value} {v : V} {d : D} (e : ab rv = some v) (q : HasD h v d) : ∃ as, Reads s.heap rv (dPy d) as := reads_both S q e
theorem eqDat_S {ra rb : Value} {a b : V} {ds : List D} {Q : V → H → Prop} (S : At K h₀ L X m h s.heap) (hu : A.units + 64 < cLine) (ha : ab ra = some a) (hb : ab rb = some b) (pa : HasD h a (.list ds)) (pb : HasD h b (.list ds)) (ok : dOk 8 (.list ds) = true) (q : Q (.bool true) h) :
    wpAny (model prog w) A (compareOp .Eq ra rb) (Post K h₀ L X m s Q) E s := by
  obtain ⟨as, r1⟩ := reads_S S ha pa
  obtain ⟨bs, r2⟩ := reads_S S hb pb
  have l := dPy_lay 8 _ ok
  have sh : shaped (dPy (.list ds)) = true := by
    unfold shaped; rw [l.1, Bool.true_and]; exact decide_eq_true (Nat.le_trans l.2 (by decide))
  exact eq_dataH r1 r2 sh sh hu (by rw [dPy_eqv]; exact Post.intro rfl S q)
theorem SE_eqDat {l r : Ex} (H1 : SE prog w K Φ iniT d l) (H2 : SE prog w K Φ iniT d r) : SE prog w K Φ iniT d (.eqDat l r) := by
  intro e env ρ m h s L X h₀ Q E A ok rm O lo S q
  refine kCmp_el (show kCmp (okE l env.scope) (okE r env.scope) .eq e = true from ok) fun a b p k0 k1 k2 => ?_
  refine wpAny_Compare1 (bindP (H1 k1 rm O lo S q) fun ra s₁ av h1 hv S1 r1 q1 => ?_) k0
  refine bindP (H2 k2 rm O lo S1 q1) fun rb s₂ bv h2 hb S2 r2 q2 => ?_
  obtain ⟨ds, p1, p2, ok, q2⟩ := q2
  exact wpAny_mono (eqDat_S S2 (by have := rm.un; lia) hv hb p1 p2 ok q2) (fun _ _ p => p.from (r1.trans r2)) fun _ _ x => x
end
end Mine

namespace Mine
open PySem PySem.W PySem.Calls PyProof.Rows

section
variable {prog : Program} {w : World} {K : Frag} {Φ : CallT} {d : Nat}

theorem truthy_T {A : Around} {E : Value → Shared → Prop} {s : Shared} {b : Bool} {Q : Bool → Shared → Prop} (q : Q b s) : wpAny (model prog w) A (truthy (.bool b)) Q E s := wpAny_truthy_bool q

theorem ST_bool {b : Bool} : ST prog w K Φ iniT d (.bool b) := by
  intro e env ρ m h s L X h₀ Q E A ok rm O lo S q
  refine kBool_el ok fun k p => ?_
  exact wpAny_isTrue_value (wpAny_Constant_bool (truthy_T ⟨h, S, .refl s, q⟩))
theorem ST_not {a : Ex} (H1 : ST prog w K Φ iniT d a) : ST prog w K Φ iniT d (.not a) := by
  intro e env ρ m h s L X h₀ Q E A ok rm O lo S q
  refine kNot_el ok fun a p ok => ?_
  exact wpAny_isTrue_Not (bindTt (H1 ok rm O lo S q) fun c s₁ h1 S1 r1 q1 => ⟨h1, S1, r1, q1⟩)
theorem ST_and {l r : Ex} (H1 : ST prog w K Φ iniT d l) (H2 : ST prog w K Φ iniT d r) : ST prog w K Φ iniT d (.and l r) := by
  intro e env ρ m h s L X h₀ Q E A ok rm O lo S q
  refine kAnd_el ok fun a b rest p k1 k2 => ?_
  refine wpAny_isTrue_BoolOp (wpAny_allTrue_And_cons (bindTt (H1 k1 rm O lo S q) fun c s₁ h1 S1 r1 q1 => ?_))
  cases c with
  | false => exact ⟨h1, S1, r1, q1⟩
  | true =>
    show wpAny _ _ (allTrue .And (b :: rest) env) _ _ _
    cases rest with
    | nil =>
      refine wpAny_allTrue_And_cons (wpAny_mono (H2 (e := b) k2 rm O lo S1 q1) (fun c s₂ p => ?_) fun _ _ x => x)
      cases c with
      | false => exact p.from r1
      | true => exact wpAny_allTrue_And_nil (p.from r1)
    | cons c rest =>
      have := H2 (e := .BoolOp .And (b :: c :: rest) p) (E := E) (A := A) k2 rm O lo S1 q1
      rw [arm_isTrue_BoolOp] at this
      exact wpAny_mono this (fun _ _ p => p.from r1) fun _ _ x => x
theorem ST_or {l r : Ex} (H1 : ST prog w K Φ iniT d l) (H2 : ST prog w K Φ iniT d r) : ST prog w K Φ iniT d (.or l r) := by
  intro e env ρ m h s L X h₀ Q E A ok rm O lo S q
  refine kOr_el ok fun a b p k1 k2 => ?_
  refine wpAny_isTrue_BoolOp (wpAny_allTrue_Or_cons (bindTt (H1 k1 rm O lo S q) fun c s₁ h1 S1 r1 q1 => ?_))
  cases c with
  | true => exact ⟨h1, S1, r1, q1⟩
  | false =>
    refine wpAny_allTrue_Or_cons (wpAny_mono (H2 (e := b) k2 rm O lo S1 q1) (fun c s₂ p => ?_) fun _ _ x => x)
    cases c with
    | true => exact p.from r1
    | false => exact wpAny_allTrue_Or_nil (p.from r1)
theorem cmp_tailT {op : Cm} {ra rb : Value} {av bv : V} {h2 : H} {s₂ : Shared} {L : Addr} {X : List (Addr × Obj)} {h₀ : Heap} {m : Str → Option Value} {R : Bool → Shared → Prop} {E : Value → Shared → Prop} {A : Around} {c : Bool} (S2 : At K h₀ L X m h2 s₂.heap) (hv : ab ra = some av) (hb : ab rb = some bv)
    (e : cmpop op av bv h2 = some c) (q : ∀ s', At K h₀ L X m h2 s'.heap → Rest s₂ s' → R c s') : wpAny (model prog w) A (compareOp (cmM op) ra rb) (fun v s' => wpAny (model prog w) A (truthy v) R E s') E s₂ := by
  exact wpAny_mono (cmpop_S S2 hv hb e) (fun v s' ⟨h1, h2, h3⟩ => by subst h1; exact truthy_T (q s' h2 h3)) fun _ _ x => x
theorem ST_cmp {op : Cm} {l r : Ex} (H1 : SE prog w K Φ iniT d l) (H2 : SE prog w K Φ iniT d r) : ST prog w K Φ iniT d (.cmp op l r) := by
  intro e env ρ m h s L X h₀ Q E A ok rm O lo S q
  refine kCmp_el ok fun a b p k0 k1 k2 => ?_
  refine wpAny_isTrue_Compare1 (bindP (H1 k1 rm O lo S q) fun ra s₁ av h1 hv S1 r1 q1 => ?_) k0
  refine bindP (H2 k2 rm O lo S1 q1) fun rb s₂ bv h2 hb S2 r2 q9 => need_el q9 fun c e q2 => ?_
  exact cmp_tailT S2 hv hb e fun s' S3 r3 => ⟨h2, S3, (r1.trans r2).trans r3, q2⟩
theorem ST_cmp2 {op₁ op₂ : Cm} {l m' r : Ex} (H1 : SE prog w K Φ iniT d l) (H2 : SE prog w K Φ iniT d m') (H3 : SE prog w K Φ iniT d r) : ST prog w K Φ iniT d (.cmp2 op₁ op₂ l m' r) := by
  intro e env ρ m h s L X h₀ Q E A ok rm O lo S q
  refine kCmp2_el ok fun a b c p k0 k1 k2 k3 => ?_
  have hm : markedEach [cmM op₁, cmM op₂] [b, c] (evalEach [b, c] env) = [eval b env, eval c env] := by
    show eval b env :: [markedBehindIn (cmM op₂) c (eval c env)] = _
    rw [show markedBehindIn (cmM op₂) c (eval c env) = eval c env by unfold markedBehindIn; rw [k0]]
  rw [arm_isTrue_Compare, hm]
  refine wpAny_bind (bindP (H1 k1 rm O lo S q) fun ra s₁ av h1 hv S1 r1 q1 => ?_)
  refine test_link (bindP (H2 k2 rm O lo S1 q1) fun rb s₂ bv h2 hb S2 r2 q9 => need_el q9 fun c₁ e q2 => ?_)
  refine cmp_tailT S2 hv hb e fun s' S3 r3 => ?_
  cases c₁ with
  | false => exact ⟨h2, S3, (r1.trans r2).trans r3, q2⟩
  | true =>
    refine test_last (bindP (H3 k3 rm O lo S3 q2) fun rc s₃ cv h3 hc S4 r4 q9 => need_el q9 fun c₂ e2 q3 => ?_)
    exact cmp_tailT S4 hb hc e2 fun s' S5 r5 => ⟨h3, S5, (((r1.trans r2).trans r3).trans r4).trans r5, q3⟩
theorem bool_T {s : Shared} {L : Addr} {X : List (Addr × Obj)} {h₀ : Heap} {m : Str → Option Value} {Q : Bool → H → Prop} {E : Value → Shared → Prop} {A : Around} {v : Value} {s' : Shared} (p : Post K h₀ L X m s (fun v h => need (boolOf v) fun b => Q b h) v s') :
    wpAny (model prog w) A (truthy v) (PostT K h₀ L X m s Q) E s' := by
  refine e2_4 p fun av h' hv S' r q => ?_
  clear p
  refine need_el q fun b e q => ?_
  obtain rfl := boolOf_some e
  cases ab_bool hv
  exact truthy_T ⟨h', S', r, q⟩
theorem ST_var {x : Nat} : ST prog w K Φ iniT d (.var x) := by
  intro e env ρ m h s L X h₀ Q E A ok rm O lo S q
  have q' : wpE Φ iniT (.var x) ρ h fun v h => need (boolOf v) fun b => Q b h := q
  have := SE_var (prog := prog) (w := w) (K := K) (d := d) (Φ := Φ) (ini := iniT) (x := x) (E := E) (A := A) ok rm O lo S q'
  refine kVar_el (P := fun e => wpAny _ _ (eval e env) _ _ _ → wpAny _ _ (PySem.isTrue e env (eval e env)) _ _ _) ok (fun p this => ?_) this
  exact wpAny_isTrue_value (wpAny_mono this (fun v s' p => bool_T p) fun _ _ x => x)
theorem ST_call {f : Nat} {as : Exs} (H : SE prog w K Φ iniT d (.call f as)) : ST prog w K Φ iniT d (.call f as) := by
  intro e env ρ m h s L X h₀ Q E A ok rm O lo S q
  have q' : wpE Φ iniT (.call f as) ρ h fun v h => need (boolOf v) fun b => Q b h := q
  have := H (E := E) (A := A) ok rm O lo S q'
  refine kCall_el (P := fun e => wpAny _ _ (eval e env) _ _ _ → wpAny _ _ (PySem.isTrue e env (eval e env)) _ _ _) ok (fun np es p _ _ _ this => ?_) this
  exact wpAny_isTrue_value (wpAny_mono this (fun v s' p => bool_T p) fun _ _ x => x)
theorem ST_isBool {a : Ex} (H1 : SE prog w K Φ iniT d (.isBool a)) : ST prog w K Φ iniT d (.isBool a) := by
  intro e env ρ m h s L X h₀ Q E A ok rm O lo S q
  have q' : wpE Φ iniT (.isBool a) ρ h fun v h => need (boolOf v) fun b => Q b h := q
  have := H1 (E := E) (A := A) ok rm O lo S q'
  refine kIsB_el (P := fun e => wpAny _ _ (eval e env) _ _ _ → wpAny _ _ (PySem.isTrue e env (eval e env)) _ _ _) ok (fun np a np' p _ _ _ _ this => ?_) this
  exact wpAny_isTrue_value (wpAny_mono this (fun v s' p => bool_T p) fun _ _ x => x)
end
end Mine

namespace Mine
open PySem PySem.W PySem.Calls PyProof.Rows

section
variable {prog : Program} {w : World} {K : Frag} {Φ : CallT} {d : Nat}

theorem cond_S {A : Around} {cond : Ex} (H3 : ST prog w K Φ iniT d cond) (rm : Room A (d + 1)) {ifs : List PySem.Expr} {g : Heap} {C : Addr} {cenv : Env} {X : List (Addr × Obj)} {m : Str → Option Value} {ρ : R} {h : H} {s : Shared} {k : Bool → H → Prop} {E : Value → Shared → Prop}
    (ok : kCond cond (okE cond cenv.scope) ifs = true) (O : EnvOk cenv C) (S : At K g C X m h s.heap) (lo : Loc cenv m X ρ) (q : wpT Φ iniT cond ρ h k) :
    wpAny (model prog w) A (forIn ifs true fun c r => if r = true then do let ok ← PySem.isTrue c cenv (eval c cenv); pure (ForInStep.yield ok) else pure (ForInStep.yield r)) (fun b s' => ∃ h', At K g C X m h' s'.heap ∧ Rest s s' ∧ k b h') E s := by
  cases ifs with
  | nil =>
    cases cond with
    | bool b => cases b with
      | true => exact wpAny_pure ⟨h, S, .refl s, q⟩
      | false => exact off ok
    | _ => exact off ok
  | cons c r =>
    refine l0_el (P := fun r => wpAny _ _ (forIn (c :: r) true _) _ _ _) (a1 ok) ?_
    rw [List.forIn_cons, if_pos rfl]
    exact wpAny_bind (wpAny_bind (wpAny_mono (H3 (a2 ok) rm O lo S q) (fun b s' p => wpAny_pure (wpAny_pure p)) fun _ _ x => x))

theorem src_S {A : Around} {src : Ex} {iter : PySem.Expr} {rng : Bool} {env : Env} {ρ : R} {m : Str → Option Value} {h : H} {s : Shared} {L : Addr} {X : List (Addr × Obj)} {h₀ : Heap} {E : Value → Shared → Prop} {G : V → List V → H → Prop} (hK : KOk K) (H2 : SE prog w K Φ iniT d src)
    (ok : kSrc env.scope rng (okE src env.scope) iter = true) (rm : Room A (d + 1)) (O : EnvOk env L) (lo : Loc env m X ρ) (S : At K h₀ L X m h s.heap) (q : wpE Φ iniT src ρ h fun v h => need (srcItems rng h v) fun xs => xs.length ≤ lim ∧ G v xs h) :
    wpAny (model prog w) A (eval iter env) (fun x s₁ => wpAny (model prog w) A (pyIter x) (SrcPost K h₀ L X m s G) E s₁) E s := by
  replace ok := a2 ok
  cases rng with
  | false =>
    exact srcIter_S (rng := false) (a := iter) (n := "range") (np := default) (cp := default) S O (fun Q => wpE Φ iniT src ρ h Q) (fun e1 _ q => by rw [e1 rfl]; exact H2 ok rm O lo S q) (fun z => nomatch z) q
  | true =>
    refine kBlt_el (show kBlt env.scope "range" (okE src env.scope) iter = true from ok) fun np a cp k1 k2 k3 => ?_
    exact srcIter_S (rng := true) (a := a) (n := "range") (np := np) (cp := cp) S O (fun Q => wpE Φ iniT src ρ h Q) (fun _ e1 q => by rw [e1 rfl]; exact H2 k3 rm O lo S q) (fun _ => ⟨rfl, k2, rfl, k1, hK.blt _ bm_range⟩) q

theorem compU_S {A : Around} {elt src cond : Ex} {tgts frees : List Nat} {tup rng : Bool} (hK : KOk K) (H1 : SE prog w K Φ iniT d elt) (H2 : SE prog w K Φ iniT d src) (H3 : ST prog w K Φ iniT d cond)
    {elt' target iter : PySem.Expr} {ifs : List PySem.Expr} {csc : Scope} {pos : Pos} {env : Env} {ρ : R} {m : Str → Option Value} {h : H} {s : Shared} {L : Addr} {X : List (Addr × Obj)} {h₀ : Heap} {E : Value → Shared → Prop} {fin : List V → H → Prop} {use : Option (Value → Sem Unit)} {QQ : Value → Shared → Prop}
    (k1 : okComp env.scope csc frees = true) (k3 : okE elt (relab env.scope csc) elt' = true) (k2 : okT (relab env.scope csc) tup tgts target = true) (k4 : kCond cond (okE cond (relab env.scope csc)) ifs = true) (k5 : kSrc env.scope rng (okE src env.scope) iter = true) (rm : Room A (d + 1)) (O : EnvOk env L) (lo : Loc env m X ρ) (S : At K h₀ L X m h s.heap)
    (hfr : ∀ x, x ∈ frees → (ρ x).isSome = true)
    (q : wpE Φ iniT src ρ h fun v h => need (srcItems rng h v) fun xs => xs.length ≤ lim ∧
      compL (sameAt v h) (fun x h k => bindT tgts tup x (ρ.only frees) h fun ρ' =>
        wpT Φ iniT cond ρ' h fun c h => if c = true then wpE Φ iniT elt ρ' h (fun y h => k (some y) h) else k .none h) xs [] h fin)
    (hend : ∀ (D C : Addr) (n : Nat) (vs : List Value) (accs : List V) (h' : H) (s' : Shared), (∃ mC, s'.heap.Ns C mC) → AtC K h₀ L ((D, lstO vs n) :: X) m h' s'.heap C → vs.map ab = accs.map some → accs.length ≤ lim → Rest s s' → fin accs h' →
      compPost (model prog w) A E use QQ (.ref D) C (.ok .next) s') :
    wpAny (model prog w) A (comprehension (.ListComp elt' [⟨target, iter, ifs, 0⟩] csc pos) csc env (firstIterPos [⟨target, iter, ifs, 0⟩] pos) (newList []) false (eval iter env) use) QQ E s := by
  exact comp_S rm.hh S O lo k1 k2 hfr (kSrc_set k5) (fun ρ h k => wpT Φ iniT cond ρ h k) (fun ρ h k => wpE Φ iniT elt ρ h k)
    (fun O' e S' l' q' => cond_S H3 rm (by rw [e]; exact k4) O' S' l' q') (fun O' e S' l' q' => H1 (by rw [e]; exact k3) rm O' l' S' q')
    (src_S hK H2 k5 rm O lo S q) hend

theorem SE_comp {elt src cond : Ex} {tgts frees : List Nat} {tup rng : Bool} (hK : KOk K) (H1 : SE prog w K Φ iniT d elt) (H2 : SE prog w K Φ iniT d src) (H3 : ST prog w K Φ iniT d cond) : SE prog w K Φ iniT d (.comp elt tgts tup frees rng src cond) := by
  intro e env ρ m h s L X h₀ Q E A ok rm O lo S q
  refine kComp_el ok fun elt' target iter ifs csc pos k1 k3 k2 k4 k5 => ?_
  show wpAny _ _ (comprehension (.ListComp elt' [⟨target, iter, ifs, 0⟩] csc pos) csc env (firstIterPos [⟨target, iter, ifs, 0⟩] pos) (newList []) false (eval iter env) none) _ _ _
  refine compU_S hK H1 H2 H3 k1 k3 k2 k4 k5 rm O lo S q.1 q.2 fun D C n vs accs h' s' ⟨mC, hns⟩ Sc hv hl r q => ⟨mC, hns, fun h'' hs => ?_⟩
  obtain ⟨g1, g2⟩ := (Sc.at hs).adopt hv
  exact Post.intro rfl g2 (q _ g1) r
end
end Mine

namespace Mine
open PySem PySem.W PySem.Calls PyProof.Rows

section
variable {prog : Program} {w : World} {K : Frag} {Φ : CallT} {d : Nat}

theorem noT {ex : Ex} (a : SE prog w K Φ iniT d ex) (hx : ∀ {ρ : R} {h : H} {Q : Bool → H → Prop}, wpT Φ iniT ex ρ h Q → False) : SE prog w K Φ iniT d ex ∧ ST prog w K Φ iniT d ex := by
  refine ⟨a, ?_⟩
  intro e env ρ m h s L X h₀ Q E A ok rm O lo S q
  exact (hx q).elim
theorem noE {ex : Ex} (hx : ∀ {ρ : R} {h : H} {Q : V → H → Prop}, wpE Φ iniT ex ρ h Q → False) (a : ST prog w K Φ iniT d ex) : SE prog w K Φ iniT d ex ∧ ST prog w K Φ iniT d ex := by
  refine ⟨?_, a⟩
  intro e env ρ m h s L X h₀ Q E A ok rm O lo S q
  exact (hx q).elim

mutual
theorem sndE (hK : KOk K) (hΦ : CallSnd prog w K Φ d) : ∀ ex : Ex, SE prog w K Φ iniT d ex ∧ ST prog w K Φ iniT d ex
  | .none => noT (SE_none) fun q => q
  | .bool _ => ⟨SE_bool, ST_bool⟩
  | .int _ => noT (SE_int) fun q => q
  | .str _ => noT (SE_str) fun q => q
  | .var _ => ⟨SE_var, ST_var⟩
  | .attr e _ => noT (SE_attr hK (sndE hK hΦ e).1) fun q => q
  | .bin _ l r => noT (SE_bin (sndE hK hΦ l).1 (sndE hK hΦ r).1) fun q => q
  | .neg _ => noT (SE_neg) fun q => q
  | .not e => noE (fun q => q) (ST_not (sndE hK hΦ e).2)
  | .cmp _ l r => ⟨SE_cmp (sndE hK hΦ l).1 (sndE hK hΦ r).1, ST_cmp (sndE hK hΦ l).1 (sndE hK hΦ r).1⟩
  | .cmp2 _ _ l m r => noE (fun q => q) (ST_cmp2 (sndE hK hΦ l).1 (sndE hK hΦ m).1 (sndE hK hΦ r).1)
  | .and l r => ⟨SE_and (sndE hK hΦ l).1 (sndE hK hΦ r).1, ST_and (sndE hK hΦ l).2 (sndE hK hΦ r).2⟩
  | .or l r => ⟨SE_or (sndE hK hΦ l).1 (sndE hK hΦ r).1, ST_or (sndE hK hΦ l).2 (sndE hK hΦ r).2⟩
  | .ite t a b => noT (SE_ite (sndE hK hΦ t).2 (sndE hK hΦ a).1 (sndE hK hΦ b).1) fun q => q
  | .call f as => ⟨SE_call hK hΦ (sndEs hK hΦ as), ST_call (SE_call hK hΦ (sndEs hK hΦ as))⟩
  | .new C as => noT (SE_new hK hΦ (sndEs hK hΦ as)) fun q => q
  | .len e => noT (SE_len hK (sndE hK hΦ e).1) fun q => q
  | .abs e => noT (SE_abs hK (sndE hK hΦ e).1) fun q => q
  | .isBool e => ⟨SE_isBool hK (sndE hK hΦ e).1, ST_isBool (SE_isBool hK (sndE hK hΦ e).1)⟩
  | .listOf e => noT (SE_listOf hK (sndE hK hΦ e).1) fun q => q
  | .sorted e => noT (SE_sorted hK (sndE hK hΦ e).1) fun q => q
  | .strOf e => noT (SE_strOf hK (sndE hK hΦ e).1) fun q => q
  | .sum e => noT (SE_sum hK (sndE hK hΦ e).1) fun q => q
  | .eqDat l r => noT (SE_eqDat (sndE hK hΦ l).1 (sndE hK hΦ r).1) fun q => q
  | .pop _ => noT (SE_pop) fun q => q
  | .append _ e => noT (SE_append (sndE hK hΦ e).1) fun q => q
  | .extend _ e => noT (SE_extend (sndE hK hΦ e).1) fun q => q
  | .list es => noT (SE_list (sndEs hK hΦ es)) fun q => q
  | .tup es => noT (SE_tup (sndEs hK hΦ es)) fun q => q
  | .idx e i => noT (SE_idx (sndE hK hΦ e).1 (sndE hK hΦ i).1) fun q => q
  | .sliceTo e i => noT (SE_sliceTo (sndE hK hΦ e).1 (sndE hK hΦ i).1) fun q => q
  | .sliceFrom e i => noT (SE_sliceFrom (sndE hK hΦ e).1 (sndE hK hΦ i).1) fun q => q
  | .comp elt _ _ _ _ src cond => noT (SE_comp hK (sndE hK hΦ elt).1 (sndE hK hΦ src).1 (sndE hK hΦ cond).2) fun q => q
theorem sndEs (hK : KOk K) (hΦ : CallSnd prog w K Φ d) : ∀ exs : Exs, SEs prog w K Φ iniT d exs
  | .nil => SEs_nil
  | .cons e es => SEs_cons (sndE hK hΦ e).1 (sndEs hK hΦ es)
end
end
end Mine

namespace Mine
open PySem PySem.W PySem.Calls PyProof.Rows

section
variable (prog : Program) (w : World) (K : Frag) (Φ : CallT) (ini : Nat → Nat) (d : Nat)
noncomputable def SS (st : St) : Prop := ∀ {stm : PySem.Stmt} {env : Env} {ρ : R} {m : Str → Option Value} {h : H} {s : Shared} {L : Addr} {X : List (Addr × Obj)} {h₀ : Heap} {Qn : R → H → Prop} {Qr : V → H → Prop} {E : Value → Shared → Prop} {A : Around},
  okS st env.scope stm = true → Room A (d + 1) → EnvOk env L → Loc env m X ρ → At K h₀ L X m h s.heap → wpS Φ ini st ρ h Qn Qr → (noW st = true ∨ PassesOwn (model prog w) A env E) → wpAny (model prog w) A (exec stm env) (PostS K h₀ L X env s Qn Qr) E s
noncomputable def SX (b : Sts) : Prop := ∀ {l : List PySem.Stmt} {env : Env} {ρ : R} {m : Str → Option Value} {h : H} {s : Shared} {L : Addr} {X : List (Addr × Obj)} {h₀ : Heap} {Qn : R → H → Prop} {Qr : V → H → Prop} {E : Value → Shared → Prop} {A : Around},
  okB b env.scope l = true → Room A (d + 1) → EnvOk env L → Loc env m X ρ → At K h₀ L X m h s.heap → wpB Φ ini b ρ h Qn Qr → (noWs b = true ∨ PassesOwn (model prog w) A env E) → wpAny (model prog w) A (execs l env) (PostS K h₀ L X env s Qn Qr) E s
end
theorem PostS.from {K : Frag} {h₀ : Heap} {L : Addr} {X : List (Addr × Obj)} {env : Env} {s s₁ s' : Shared} {Qn : R → H → Prop} {Qr : V → H → Prop} {f : Flow} (r : Rest s s₁) (p : PostS K h₀ L X env s₁ Qn Qr f s') : PostS K h₀ L X env s Qn Qr f s' := by
  cases f with
  | next => obtain ⟨ρ', m', h', a, b, c, q⟩ := p; exact ⟨ρ', m', h', a, b, r.trans c, q⟩
  | ret rv => obtain ⟨av, m', h', e, a, c, q⟩ := p; exact ⟨av, m', h', e, a, r.trans c, q⟩
  | brk => exact p
  | cont => exact p

section
variable {prog : Program} {w : World} {K : Frag} {Φ : CallT} {d : Nat}

theorem interactive_no {env : Env} {L : Addr} (O : EnvOk env L) : interactive env = false := by
  unfold interactive
  rw [O.kind]
  rfl
theorem AtC.adopt {h₀ : Heap} {L : Addr} {X : List (Addr × Obj)} {m : Str → Option Value} {h : H} {hp : Heap} {C D n : Nat} {vs : List Value} {xs : List V} (S : AtC K h₀ L ((D, lstO vs n) :: X) m h hp C) (hv : vs.map ab = xs.map some) : h D = none ∧ AtC K h₀ L X m (h.set D (.list xs)) hp C := by
  refine e2_4 S.led fun led D' N nd R off => ?_
  obtain ⟨a, _⟩ := At.adopt (hp := hp) ⟨S.cx, S.fr, led, D', N, nd, R⟩ hv
  refine ⟨a, S.cx, S.fr, ⟨(D, lstO vs n) :: led, D', news_perm N, ?_, R.add (o := .list xs) (fun z => z) ⟨vs, n, List.mem_singleton.mpr rfl, hv⟩, fun p hp => off p ?_⟩, S.ne, S.new⟩
  · have e : ((X ++ (D, lstO vs n) :: led).map (·.1)).Perm (D :: ((X ++ led).map (·.1))) := by
      rw [List.map_append, List.map_cons, List.map_append]
      exact List.perm_middle
    exact e.nodup_iff.mpr nd
  · rcases List.mem_append.mp hp with q | q
    · exact List.mem_cons_of_mem _ (List.mem_append_left _ q)
    · rcases List.mem_cons.mp q with q | q
      · rw [q]; exact List.mem_cons_self
      · exact List.mem_cons_of_mem _ (List.mem_append_right _ q)
theorem storeName_SC {h₀ : Heap} {L C : Addr} {X : List (Addr × Obj)} {m mC : Str → Option Value} {h : H} {s : Shared} {env : Env} {ρ : R} {E : Value → Shared → Prop} {A : Around} {x : Nat} {rv : Value} {v : V} {Q : Unit → Shared → Prop} (S : AtC K h₀ L X m h s.heap C) (nC : s.heap.Ns C mC) (O : EnvOk env L) (l : Loc env m X ρ) (hx : x < nmN) (hk : env.kindOf (nm x) = some .local) (hv : ab rv = some v)
    (q : ∀ m' s', AtC K h₀ L X m' h s'.heap C → s'.heap.Ns C mC → Loc env m' X (ρ.set x v) → Rest s s' → Q () s') : wpAny (model prog w) A (storeName env (nm x) rv) Q E s := by
  refine e2_4 S.led fun led D N nd R off => ?_
  refine wpAny_storeName_local hk (O.loc ▸ S.fr.ns) (fun h' hn hs => ?_) (by rw [O.kind]; rfl)
  rw [O.loc] at hn hs
  exact q _ _ ⟨S.cx, S.fr.set hn hs, ⟨led, D, N.set hs, nd, R, off⟩, S.ne, S.new⟩ (nC.sameBut hs S.ne) (l.set hx hk hv) ⟨rfl, rfl⟩
theorem blockKind_fn {env : Env} {L : Addr} (O : EnvOk env L) : env.blockKind = .function := by
  unfold Env.blockKind
  rw [O.kind]
  rfl
theorem noRef_out {v : V} {P : Prop} (q : noRef v P) : P := by cases v <;> first | exact q | exact q.elim
/-- whether a comprehension, and its parts -/
noncomputable def compP (P : Ex → Ex → Ex → Prop) (e : Ex) : Prop := match e with
  | .comp elt _ _ _ _ src cond => P elt src cond
  | _ => True
noncomputable def isComp (e : Ex) : Bool := match e with
  | .comp .. => true
  | _ => false
theorem isComp_of {ex : Ex} {sc cs : Scope} {e : PySem.Expr} {gs : List Comprehension} {p : Pos} (ok : okE ex sc (.ListComp e gs cs p) = true) : isComp ex = true := by
  cases ex <;> first | rfl | exact off ok
theorem SS_assign {x : Nat} {ex : Ex} (hK : KOk K) (H1 : SE prog w K Φ iniT d ex) (Hc : compP (fun elt src cond => SE prog w K Φ iniT d elt ∧ SE prog w K Φ iniT d src ∧ ST prog w K Φ iniT d cond) ex) : SS prog w K Φ iniT d (.assign x ex) := by
  intro stm env ρ m h s L X h₀ Qn Qr E A ok rm O lo S q _
  refine sAssign_el ok fun t v pos k1 k2 k3 => ?_
  rcases Bool.or_eq_true_iff.mp k2 with k6 | k6
  · refine e1_3 (okTgt_name k1) fun p e91 hx hk => ?_
    obtain rfl := e91
    exact wpAny_Assign_Name (bindP (H1 k3 rm O lo S q) fun rv s₁ av h1 hv S1 r1 q1 =>
      storeName_S S1 O lo hx hk hv fun m' s' S' l' r => ⟨_, m', h1, S', l', r1.trans r, q1⟩) (hs := swapsWith_no k6)
  · refine swC_el (P := fun t v => okTgt env.scope x t = true → okE ex env.scope v = true → wpAny _ _ (exec (.Assign [t] v pos) env) _ _ _) k6 (fun n p elt' gens csc lp k2 k1 k3 => ?_) k1 k3
    refine e1_3 (okTgt_name k1) fun _ e1 hx hk => ?_
    cases e1
    have hc := isComp_of k3
    cases ex with
    | comp elt tgts tup frees rng src cond =>
      refine e0_3 Hc fun Ha Hb Hd => ?_
      clear Hc
      have hsw : swapsWith (.ListComp elt' gens csc lp) (some (.Name (nm x) p)) pos.line env = pure true := by
        show pure (env.blockKind == .function && env.kindOf (nm x) == some .local && p.line == lp.line && _) = (pure true : Sem Bool)
        rw [blockKind_fn O, show env.kindOf (nm x) = some .local from hk, Bool.and_assoc, k2]
        rfl
      refine kComp_el (P := fun v => swapsWith v (some (.Name (nm x) p)) pos.line env = pure true → wpAny _ _ (exec (.Assign [.Name (nm x) p] v pos) env) _ _ _) k3 (fun elt' target iter ifs csc lp k1 k3 k2 k4 k5 hsw => ?_) hsw
      rw [PyProof.Rows.exec_Assign]
      refine wpAny_bind (wpAny_standAt ?_)
      rw [show swapsWithSole [.Name (nm x) p] (.ListComp elt' [⟨target, iter, ifs, 0⟩] csc lp) pos.line env = pure true from hsw]
      refine wpAny_bind (wpAny_pure ?_)
      rw [if_pos rfl]
      refine wpAny_bind ?_
      show wpAny _ _ (comprehension (.ListComp elt' [⟨target, iter, ifs, 0⟩] csc lp) csc env (firstIterPos [⟨target, iter, ifs, 0⟩] lp) (newList []) false (eval iter env) (some fun v => assignAll v [assign (.Name (nm x) p) env]) >>= fun _ => pure PUnit.unit) _ _ _
      refine wpAny_bind (compU_S hK Ha Hb Hd k1 k3 k2 k4 k5 rm O lo S q.1 q.2 fun D C n vs accs h' s' ⟨mC, hns⟩ Sc hv hl r q => ?_)
      obtain ⟨g1, g2⟩ := Sc.adopt hv
      show wpAny _ _ (assignAll (.ref D) [assign (.Name (nm x) p) env]) _ _ _
      refine wpAny_assign_Name (storeName_SC g2 hns O lo hx hk rfl fun m' s'' S'' hns'' l'' r'' => ⟨mC, hns'', fun h'' hs => ?_⟩)
      exact wpAny_pure (wpAny_pure ⟨_, m', _, S''.at hs, l'', r.trans r'', q D g1⟩)
    | _ => exact off hc
theorem SS_setAttr {o : Ex} {f : Nat} {ex : Ex} (hK : KOk K) (H0 : SE prog w K Φ iniT d o) (H1 : SE prog w K Φ iniT d ex) : SS prog w K Φ iniT d (.setAttr o f ex) := by
  intro stm env ρ m h s L X h₀ Qn Qr E A ok rm O lo S q _
  refine sSetAttr_el ok fun ob p' v pos k1 k2 k3 k4 => ?_
  refine plainObj_wpAny_Assign_Attribute (bindP (H1 k3 rm O lo S q) fun rv s₁ av h1 hv S1 r1 q1 => ?_) (swapsWith_no k2)
  refine bindP (H0 k4 rm O lo S1 q1) fun ro s₂ ao h2 ho S2 r2 q9 => need_el q9 fun h3 e q2 => ?_
  exact setAttr_S S2 (hK.fields f k1) hv ho e fun s' S3 r3 => ⟨ρ, m, h3, S3, lo, (r1.trans r2).trans r3, q2⟩
theorem SS_expr {ex : Ex} (H1 : SE prog w K Φ iniT d ex) : SS prog w K Φ iniT d (.expr ex) := by
  intro stm env ρ m h s L X h₀ Qn Qr E A ok rm O lo S q _
  refine wExp_el (show wExp (fun v => notComp v && okE ex env.scope v) stm = true from ok) fun v pos ok => ?_
  refine wpAny_Expr_any (bindP (H1 (a2 ok) rm O lo S q) fun rv s₁ av h1 hv S1 r1 q1 => ?_) (interactive_no O) (swapsWith_no (a1 ok))
  exact ⟨ρ, m, h1, S1, lo, r1, noRef_out q1⟩
theorem SS_ret {ex : Ex} (H1 : SE prog w K Φ iniT d ex) : SS prog w K Φ iniT d (.ret ex) := by
  intro stm env ρ m h s L X h₀ Qn Qr E A ok rm O lo S q _
  refine wRet_el (show wRet (oS (okE ex env.scope)) stm = true from ok) fun v pos ok => oS_el (P := fun v => wpAny _ _ (exec (.Return v pos) env) _ _ _) ok fun v ok => ?_
  exact wpAny_Return_some (bindP (H1 ok rm O lo S q) fun rv s₁ av h1 hv S1 r1 q1 => ⟨av, m, h1, hv, S1, r1, q1⟩)
theorem SS_ite {t : Ex} {a b : Sts} (H0 : ST prog w K Φ iniT d t) (H1 : SX prog w K Φ iniT d a) (H2 : SX prog w K Φ iniT d b) : SS prog w K Φ iniT d (.ite t a b) := by
  intro stm env ρ m h s L X h₀ Qn Qr E A ok rm O lo S q hE
  refine wIf_el (show wIf (fun t' a' b' => okE t env.scope t' && (okB a env.scope a' && okB b env.scope b')) stm = true from ok) fun t' a' b' pos ok => ?_
  refine wpAny_If (bindTt (H0 (a1 ok) rm O lo S q) fun c s₁ h1 S1 r1 q1 => ?_)
  cases c with
  | true => exact wpAny_mono (H1 (a1 (a2 ok)) rm O lo S1 q1 (hE.imp a1 id)) (fun _ _ p => p.from r1) fun _ _ x => x
  | false => exact wpAny_mono (H2 (a2 (a2 ok)) rm O lo S1 q1 (hE.imp a2 id)) (fun _ _ p => p.from r1) fun _ _ x => x
theorem SX_nil : SX prog w K Φ iniT d .nil := by
  intro l env ρ m h s L X h₀ Qn Qr E A ok rm O lo S q _
  cases l with
  | nil => exact wpAny_execs_nil ⟨ρ, m, h, S, lo, .refl s, q⟩
  | cons _ _ => exact off ok
theorem SX_cons {st : St} {b : Sts} (H1 : SS prog w K Φ iniT d st) (H2 : SX prog w K Φ iniT d b) : SX prog w K Φ iniT d (.cons st b) := by
  intro l env ρ m h s L X h₀ Qn Qr E A ok rm O lo S q hE
  refine lc_el (show lc (fun a as => okS st env.scope a && okB b env.scope as) l = true from ok) fun s0 l ok => ?_
  refine wpAny_execs_cons (wpAny_mono (H1 (a1 ok) rm O lo S q (hE.imp a1 id)) (fun f s₁ p => ?_) fun _ _ x => x)
  cases f with
  | next =>
    refine e3_4 p fun ρ1 m1 h1 S1 l1 r1 q1 => ?_
    clear p
    exact wpAny_mono (H2 (a2 ok) rm O l1 S1 q1 (hE.imp a2 id)) (fun _ _ p => p.from r1) fun _ _ x => x
  | ret rv => exact p
  | brk => exact p.elim
  | cont => exact p.elim
theorem SS_while {t : Ex} {b : Sts} (H0 : ST prog w K Φ iniT d t) (H1 : SX prog w K Φ iniT d b) : SS prog w K Φ iniT d (.while t b) := by
  intro stm env ρ m h s L X h₀ Qn Qr E A ok rm O lo S q hE
  refine wWhi_el (show wWhi (fun t' b' o => l0 o && (okE t env.scope t' && okB b env.scope b')) stm = true from a2 ok) fun t' b' o pos ok' => l0_el (P := fun o => wpAny _ _ (exec (.While t' b' o pos) env) _ _ _) (a1 ok') ?_
  exact while_S O (fun ρ h k => wpT Φ iniT t ρ h k) (fun ρ h k => wpB Φ iniT b ρ h k Qr) (fun S l q => H0 (a1 (a2 ok')) rm O l S q) (fun S l q => H1 (a2 (a2 ok')) rm O l S q (.inl (a1 ok))) S lo (hE.resolve_left fun z => off z) q
theorem SS_for {tgts : List Nat} {tup rng : Bool} {src : Ex} {b : Sts} (hK : KOk K) (H0 : SE prog w K Φ iniT d src) (H1 : SX prog w K Φ iniT d b) : SS prog w K Φ iniT d (.for tgts tup rng src b) := by
  intro stm env ρ m h s L X h₀ Qn Qr E A ok rm O lo S q hE
  refine wFor_el (show wFor (fun t i b' o => l0 o && (okT env.scope tup tgts t && (kSrc env.scope rng (okE src env.scope) i && okB b env.scope b'))) stm = true from a2 ok) fun target iter b' o pos ok' => l0_el (P := fun o => wpAny _ _ (exec (.For target iter b' o pos) env) _ _ _) (a1 ok') ?_
  have k1 := a1 (a2 ok')
  have k2 := a1 (a2 (a2 ok'))
  have k3 := a2 (a2 (a2 ok'))
  have k0 := a1 ok
  · refine wpAny_For (wpAny_mono (src_S hK H0 k2 rm O lo S q) (fun x s₁ z => wpAny_mono z (fun it s₂ p => ?_) fun _ _ x => x) fun _ _ x => x) (folded_no (kSrc_set k2))
    refine e5_9 p fun hp oI h' src' xs e95 hs2 hfree S1 r hsr ho hl q => ?_
    clear p
    obtain rfl := e95
    obtain ⟨hp2, gg, dd, tt, oo⟩ := s₂
    dsimp only at hs2
    subst hs2
    refine forLoop_S rm.hh O k1 (fun ρ h k => wpB Φ iniT b ρ h k Qr) (fun S l q => H1 k3 rm O l S q (.inl k0)) (Qr := Qr) (Qn := Qn) (s₀ := s) (fun f s' p => p) hsr (rest := xs) (i := 0) rfl (Nat.zero_le _) (S1.pushX oI hfree) lo r ho q
end
end Mine

namespace Mine
open PySem PySem.W PySem.Calls PyProof.Rows

theorem setL_some : ∀ {l : List Value} {j : Nat} {v : Value}, j < l.length → ki_setL l j v = some (l.set j v)
  | [], _, _, h => absurd h (Nat.not_lt_zero _)
  | x :: r, 0, v, _ => rfl
  | x :: r, j + 1, v, h => by
    have := setL_some (l := r) (j := j) (v := v) (Nat.lt_of_succ_lt_succ h)
    show (match ki_setL r j v with | some q => some (x :: q) | none => none) = _
    rw [this]; rfl
theorem ab_set {vs : List Value} {xs : List V} (h : vs.map ab = xs.map some) {rv : Value} {v : V} (e : ab rv = some v) (j : Nat) : (vs.set j rv).map ab = (xs.set j v).map some := by
  rw [List.map_set, List.map_set, h, e]

section
variable {prog : Program} {w : World} {A : Around} {E : Value → Shared → Prop} {K : Frag} {h₀ : Heap} {L : Addr} {X : List (Addr × Obj)} {m : Str → Option Value} {h : H} {s : Shared} {env : Env} {ρ : R}

theorem setItem_S {ra rv rk : Value} {wv v : V} {k : Int} {xs : List V} {Q : Unit → Shared → Prop} (S : At K h₀ L X m h s.heap) (ha : ab ra = some wv) (hk : ab rk = some (.int k)) (hv : ab rv = some v) (e : listAt h wv = some xs) (h0 : 0 ≤ k) (h1 : k < xs.length) (hl : xs.length ≤ lim)
    (q : ∀ s', At K h₀ L X m (setList h wv (xs.set k.toNat v)) s'.heap → Rest s s' → Q () s') : wpAny (model prog w) A (setItem ra rk rv) Q E s := by
  replace e := listAt_ref e
  obtain ⟨a, rfl, e⟩ := e
  cases ab_ref ha
  obtain ⟨t, rfl⟩ := ab_int hk
  refine e4_5 (S.listObj e) fun vs n led D hvs hm N nd R => ?_
  have l1 := ab_len hvs
  obtain ⟨U, nd'⟩ := upd_led (o' := lstO (vs.set k.toNat rv) n) nd hm
  refine ki_set (its := vs.toArray) S.fr N h0 (by unfold lim at hl; lia) (setL_some (l := vs) (by rw [l1]; lia)) U fun h' F' N' => q _ (setList_S S.cx F' nd R hm N' nd' (ab_set hvs hv _)) ⟨rfl, rfl⟩
end

section
variable {prog : Program} {w : World} {K : Frag} {Φ : CallT} {d : Nat}

theorem SS_setIdx {o i ex : Ex} (H0 : SE prog w K Φ iniT d o) (H1 : SE prog w K Φ iniT d i) (H2 : SE prog w K Φ iniT d ex) : SS prog w K Φ iniT d (.setIdx o i ex) := by
  intro stm env ρ m h s L X h₀ Qn Qr E A ok rm O lo S q _
  refine sSetIdx_el ok fun ob ix p' v pos k1 k2 k3 k4 k5 => ?_
  refine wpAny_Assign_Subscript (bindP (H2 k3 rm O lo S q) fun rv s₁ av h1 hv S1 r1 q1 => ?_) (swapsWith_no k2)
  refine bindP (H0 k4 rm O lo S1 q1) fun ro s₂ ao h2 ho S2 r2 q2 => ?_
  refine bindP (H1 k5 rm O lo S2 q2) fun rk s₃ ak h3 hk S3 r3 q9 => need_el q9 fun xs e1 q9 => need_el q9 fun k e2 q9 => ?_
  exact setItem_S S3 ho (intOf_some e2 ▸ hk) hv e1 q9.1 q9.2.1 q9.2.2.1 fun s' S4 r4 => ⟨ρ, m, _, S4, lo, ((r1.trans r2).trans r3).trans r4, q9.2.2.2⟩
theorem SS_retN : SS prog w K Φ iniT d .retN := by
  intro stm env ρ m h s L X h₀ Qn Qr E A ok rm O lo S q _
  refine wRet_el (show wRet oN stm = true from ok) fun v pos ok => oN_el (P := fun v => wpAny _ _ (exec (.Return v pos) env) _ _ _) ok ?_
  exact wpAny_Return_none ⟨.none, m, h, rfl, S, .refl s, q⟩
theorem noSwap_comp {v : PySem.Expr} (h : noSwap v = true) : notComp v = true := by
  cases v <;> first | exact h | rfl
theorem swapped_no {ts : List PySem.Expr} {k : Nat} {tp : Pos} {v : PySem.Expr} {env : Env} (h : noSwap v = true) : swappedStores [.Tuple ts k tp] v env = pure none := by
  cases v <;> first | (cases h; done) | rfl
theorem nb {b : Bool} (h : (!b) = true) : b = false := by cases b with
  | false => rfl
  | true => cases h
theorem isStar_eq {a : PySem.Expr} : (match a with | .Starred .. => true | _ => false) = !notStar a := by cases a <;> rfl
theorem noSt {a : PySem.Expr} {p : Prop} (hc : (match a with | .Starred .. => true | _ => false) = true) (o : notStar a = true) : p := off (by rw [isStar_eq, o] at hc; exact hc)
theorem posName {n : Str} {p : Pos} : (PySem.Expr.Name n p).pos = p := rfl
theorem swapped_yes {n₁ n₂ : Str} {p₁ p₂ : Pos} {k k' : Nat} {tp vp : Pos} {a b : PySem.Expr} {env : Env} {L : Addr} (O : EnvOk env L) (h1 : env.kindOf n₁ = some .local) (h2 : env.kindOf n₂ = some .local)
    (ok : (n₁ != n₂ && (p₂.line == p₁.line && (!(foldedForSure 8 a && foldedForSure 8 b) && (!(constantsAlone 8 a && constantsAlone 8 b) && (notStar a && notStar b))))) = true) :
    swappedStores [.Tuple [.Name n₁ p₁, .Name n₂ p₂] k tp] (.Tuple [a, b] k' vp) env = pure (some [n₁, n₂]) := by
  have o1 : n₁ ≠ n₂ := bne_iff_ne.mp (a1 ok)
  have o2 := eqb (a1 (a2 ok))
  have o3 := nb (a1 (a2 (a2 ok)))
  have o4 := nb (a1 (a2 (a2 (a2 ok))))
  have o5 := a1 (a2 (a2 (a2 (a2 ok))))
  have o6 := a2 (a2 (a2 (a2 (a2 ok))))
  unfold swappedStores
  simp only [List.length_cons, List.length_nil, blockKind_fn O]
  simp [h1, h2, o2, posName, List.eraseDups_cons, o3, o4, Ne.symm o1]
  exact fun hc => hc.elim (noSt · o5) (noSt · o6)
theorem two_tgts {sc : Scope} {xs : List Nat} {a b : PySem.Expr} {P : Prop} (h : okTgts sc xs [a, b] = true) (k : ∀ x y, xs = [x, y] → okTgt sc x a = true → okTgt sc y b = true → P) : P := by
  cases xs with
  | nil => exact off h
  | cons x r => cases r with
    | nil => exact off (a2 h)
    | cons y r => cases r with
      | nil => exact k x y rfl (a1 h) (a1 (a2 h))
      | cons _ _ => exact off (a2 (a2 h))
theorem two_vals {α : Type} {vs : List α} {P : Prop} (h : vs.length = 2) (k : ∀ v1 v2, vs = [v1, v2] → P) : P := match vs, h with
  | [v1, v2], _ => k v1 v2 rfl
theorem two_ab {vs : List Value} {v1 v2 : V} {P : Prop} (h : vs.map ab = [v1, v2].map some) (k : ∀ r1 r2, vs = [r1, r2] → ab r1 = some v1 → ab r2 = some v2 → P) : P :=
  two_vals (by have := congrArg List.length h; rw [List.length_map] at this; exact this) fun r1 r2 e => by
    subst e
    have h := List.cons.inj h
    exact k r1 r2 rfl h.1 (List.cons.inj h.2).1
theorem set_swap {ρ : R} {x y : Nat} {v1 v2 : V} (h : x ≠ y) : ρ.setAll [x, y] [v1, v2] = (ρ.set y v2).set x v1 := by
  funext z
  show (ρ.set x v1).set y v2 z = _
  unfold R.set
  cases a : Nat.beq z x with
  | false => rfl
  | true => cases b : Nat.beq z y with
    | false => rfl
    | true => exact absurd ((Nat.eq_of_beq_eq_true a).symm.trans (Nat.eq_of_beq_eq_true b)) h
theorem SS_assignT {xs : List Nat} {ex : Ex} (H1 : SE prog w K Φ iniT d ex) : SS prog w K Φ iniT d (.assignT xs ex) := by
  intro stm env ρ m h s L X h₀ Qn Qr E A ok rm O lo S q _
  refine sAssignT_el ok fun ts k tp v pos k1 k2 k3 => ?_
  rcases Bool.or_eq_true_iff.mp k2 with k6 | k6
  · refine Assign_Tuple (bindP (H1 k3 rm O lo S q) fun rv s₁ av h1 hv S1 r1 q9 => ?_) (show swapsWith v (some (.Tuple ts k tp)) pos.line env = pure false from swapsWith_no (noSwap_comp k6)) (swapped_no k6)
    exact bindB (bindT_S (tup := true) (xs := xs) (Q := fun ρ' => Qn ρ' h1) S1 rm.hh O lo k1 hv q9) fun _ s₂ ρ' m' S2 l2 r2 q2 => ⟨ρ', m', h1, S2, l2, r1.trans r2, q2⟩
  · refine swT_el (P := fun ts v => okTgts env.scope xs ts = true → okE ex env.scope v = true → wpAny _ _ (exec (.Assign [.Tuple ts k tp] v pos) env) _ _ _) k6 (fun n₁ p₁ n₂ p₂ a b k' vp k6 k1 k3 => ?_) k1 k3
    refine two_tgts k1 (fun x y hxs k7 k8 => ?_)
    subst hxs
    refine e1_3 (okTgt_name k7) fun _ e1 hx hkx => ?_
    refine e1_3 (okTgt_name k8) fun _ e2 hy hky => ?_
    cases e1
    cases e2
    have hne : x ≠ y := fun z => bne_iff_ne.mp (a1 k6) (congrArg nm z)
    refine Assign_Tuple_swapped (names := [nm x, nm y]) (bindP (H1 k3 rm O lo S q) fun rv s₁ av h1 hv S1 r1 q9 => need_el q9 fun vs e q8 => ?_) rfl (swapped_yes O hkx hky k6)
    refine two_vals q8.1 fun v1 v2 e8 => ?_
    subst e8
    refine e1_2 (tupAt_ref e) fun t e91 e7 => ?_
    obtain rfl := e91
    cases ab_ref hv
    refine e1_2 (S1.tup e7) fun rvs T hvs => ?_
    refine two_ab hvs fun r1' r2' e8 hv1 hv2 => ?_
    subst e8
    have e9 : ([nm x, nm y] : List Str).length = ([r1', r2'] : List Value).toArray.size := rfl
    rw [e9]
    refine unpackItems_tuple rm.hh T fun h' he => ?_
    have S2 := S1.extBut he
    show wpAny _ _ (holding [r1'] (bindName env (nm y) r2') >>= fun _ => holding [] (bindName env (nm x) r1') >>= fun _ => pure ()) _ _ _
    refine wpAny_bind (wpAny_holding (wpAny_bindName (storeName_S (s := { s₁ with heap := h' }) S2 O lo hy hky hv2 fun m' s' S3 l3 r3 => ?_)))
    refine wpAny_bind (wpAny_holding (wpAny_bindName (storeName_S S3 O l3 hx hkx hv1 fun m'' s'' S4 l4 r4 => ?_)))
    refine wpAny_pure ⟨_, m'', h1, S4, l4, (r1.trans (show Rest s₁ { s₁ with heap := h' } from ⟨rfl, rfl⟩)).trans (r3.trans r4), ?_⟩
    rw [← set_swap hne]; exact q8.2

theorem compS (hK : KOk K) (hΦ : CallSnd prog w K Φ d) (e : Ex) : compP (fun elt src cond => SE prog w K Φ iniT d elt ∧ SE prog w K Φ iniT d src ∧ ST prog w K Φ iniT d cond) e := by
  cases e with
  | comp elt _ _ _ _ src cond => exact ⟨(sndE hK hΦ elt).1, (sndE hK hΦ src).1, (sndE hK hΦ cond).2⟩
  | _ => trivial
mutual
theorem sndS (hK : KOk K) (hΦ : CallSnd prog w K Φ d) : ∀ st : St, SS prog w K Φ iniT d st
  | .assign _ e => SS_assign hK (sndE hK hΦ e).1 (compS hK hΦ e)
  | .assignT _ e => SS_assignT (sndE hK hΦ e).1
  | .setAttr o _ e => SS_setAttr hK (sndE hK hΦ o).1 (sndE hK hΦ e).1
  | .setIdx o i e => SS_setIdx (sndE hK hΦ o).1 (sndE hK hΦ i).1 (sndE hK hΦ e).1
  | .expr e => SS_expr (sndE hK hΦ e).1
  | .ret e => SS_ret (sndE hK hΦ e).1
  | .retN => SS_retN
  | .ite t a b => SS_ite (sndE hK hΦ t).2 (sndB hK hΦ a) (sndB hK hΦ b)
  | .while t b => SS_while (sndE hK hΦ t).2 (sndB hK hΦ b)
  | .for _ _ _ src b => SS_for hK (sndE hK hΦ src).1 (sndB hK hΦ b)
theorem sndB (hK : KOk K) (hΦ : CallSnd prog w K Φ d) : ∀ b : Sts, SX prog w K Φ iniT d b
  | .nil => SX_nil
  | .cons s r => SX_cons (sndS hK hΦ s) (sndB hK hΦ r)
end
end
end Mine

namespace Mine
open PySem PySem.W PySem.Calls PyProof.Rows

section
variable {K : Frag} {h₀ : Heap} {L : Addr} {X : List (Addr × Obj)} {m : Str → Option Value} {h : H}
theorem At.dropL {hp : Heap} : ∀ {Y : List (Addr × Obj)}, At K h₀ L (Y ++ X) m h hp → At K h₀ L X m h hp
  | [], S => S
  | _ :: Y, S => At.dropL (Y := Y) (At.drop S)
theorem AtC.toAt {hp : Heap} {C : Addr} (S : AtC K h₀ L X m h hp C) : At K h₀ L X m h hp := by
  refine e2_4 S.led fun led D N nd R off => ?_
  exact ⟨S.cx, S.fr, led, D, N, nd, R⟩
end

theorem cellsFrom_some : ∀ (names : List (Str × NameKind)) (k : Nat) (acc : List (Str × Addr)) (n : Str), (names.lookup n = some .cell ∨ (acc.lookup n).isSome = true) → ((cellsFrom k names acc).lookup n).isSome = true
  | [], _, _, _, h => by
    rcases h with h | h
    · cases h
    · exact h
  | (name, kind) :: r, k, acc, n, h => by
    unfold cellsFrom
    by_cases hk : kind = .cell
    · subst hk
      rw [if_pos (by rfl)]
      refine cellsFrom_some r _ _ n ?_
      rw [List.lookup_cons] at h ⊢
      cases e : n == name with
      | true => exact .inr rfl
      | false => rw [e] at h; exact h
    · rw [if_neg (by simp [hk])]
      refine cellsFrom_some r _ _ n ?_
      rw [List.lookup_cons] at h
      cases e : n == name with
      | true =>
        rw [e] at h
        rcases h with h | h
        · exact absurd (Option.some.inj h) hk
        · exact .inr h
      | false => rw [e] at h; exact h

noncomputable def BInv (kd : Str → Option NameKind) (ρ : R) (m cm : Str → Option Value) : Prop := ∀ x v, ρ x = some v → x < nmN ∧ ∃ rv, ab rv = some v ∧ ((kd (nm x) = some .local ∧ m (nm x) = some rv) ∨ (kd (nm x) = some .cell ∧ cm (nm x) = some rv))
theorem binds_inv (kd : Str → Option NameKind) : ∀ (ps : List Nat) (vals : List Value) (avs : List V) (ρ : R) (m cm : Str → Option Value), BInv kd ρ m cm → vals.map ab = avs.map some → vals.length = ps.length → (∀ x ∈ ps, x < nmN ∧ (kd (nm x) = some .local ∨ kd (nm x) = some .cell)) →
    BInv kd (ρ.setAll ps avs) (bindL kd ((ps.map nm).zip vals) m) (bindC kd ((ps.map nm).zip vals) cm)
  | [], [], avs, ρ, m, cm, I, hv, hl, hk => by cases avs with
    | nil => exact I
    | cons _ _ => cases hv
  | [], _ :: _, _, _, _, _, _, _, hl, _ => by cases hl
  | _ :: _, [], _, _, _, _, _, _, hl, _ => by cases hl
  | p :: ps, v :: vals, avs, ρ, m, cm, I, hv, hl, hk => by
    cases avs with
    | nil => cases hv
    | cons av avs =>
      replace hv := List.cons.inj hv
      rw [List.map_cons, List.zip_cons_cons]
      unfold bindL bindC
      obtain ⟨hp, hkd⟩ := hk p List.mem_cons_self
      refine binds_inv kd ps vals avs _ _ _ ?_ hv.2 (Nat.succ.inj hl) fun x hx => hk x (List.mem_cons_of_mem _ hx)
      intro y u e
      rcases R.set_at e with ⟨rfl, rfl⟩ | ⟨hy, e⟩
      · refine ⟨hp, v, hv.1, ?_⟩
        rcases hkd with z | z
        · exact .inl ⟨z, by rw [if_pos z, if_pos rfl]⟩
        · exact .inr ⟨z, by rw [if_neg (by rw [z]; decide), if_pos rfl]⟩
      · obtain ⟨a, rv, b, c⟩ := I y u e
        have hne : nm y ≠ nm p := fun q => hy (nm_inj y a p hp q)
        refine ⟨a, rv, b, ?_⟩
        rcases c with ⟨c1, c2⟩ | ⟨c1, c2⟩
        · refine .inl ⟨c1, ?_⟩
          split
          · show (if nm y = nm p then some v else m (nm y)) = some rv; rw [if_neg hne]; exact c2
          · exact c2
        · refine .inr ⟨c1, ?_⟩
          split
          · exact c2
          · show (if nm y = nm p then some v else cm (nm y)) = some rv; rw [if_neg hne]; exact c2

theorem nodup_nm {ps : List Nat} (hn : ps.Nodup) (hl : ∀ x ∈ ps, x < nmN) : (ps.map nm).Nodup := by
  induction ps with
  | nil => exact List.nodup_nil
  | cons p ps ih =>
    rw [List.nodup_cons] at hn
    rw [List.map_cons, List.nodup_cons]
    refine ⟨fun q => ?_, ih hn.2 fun x hx => hl x (List.mem_cons_of_mem _ hx)⟩
    refine e1_2 (List.mem_map.mp q) fun y hy e => ?_
    exact hn.1 (nm_inj y (hl y (List.mem_cons_of_mem _ hy)) p (hl p List.mem_cons_self) e ▸ hy)

section
variable {prog : Program} {w : World} {K : Frag}

theorem kindLC_or {o : Option NameKind} (h : kindLC o = true) : o = some .local ∨ o = some .cell := (Bool.or_eq_true_iff.mp h).imp eqb eqb
theorem body_ex {fn : FuncData} {F : List PySem.Stmt → Bool} (h : (match fn.body with | .stmts b => F b | _ => false) = true) : ∃ b, fn.body = .stmts b ∧ F b = true := by
  cases e : fn.body with
  | stmts b => rw [e] at h; exact ⟨b, rfl, h⟩
  | _ => rw [e] at h; exact off h
/-- a call of a def of the text -/
theorem call_S {Φ : CallT} {d : Nat} (hK : KOk K) (hΦ : CallSnd prog w K Φ d) {f : Nat} {fd : Fd} (hF : fnT f = some fd → fnOk K f = true) {vals : List Value} {avs : List V} {h : H} {Q : V → H → Prop} {A : Around} {h₀ : Heap} {L : Addr} {X : List (Addr × Obj)} {m : Str → Option Value} {s : Shared} {fa : Addr}
    (e : fnT f = some fd) (hlen : avs.length = fd.params.length) (q : wpB Φ iniT fd.body (R.empty.setAll fd.params avs) h (fun _ h => Q .none h) Q) (hv : vals.map ab = avs.map some) (ef : fnAddr K f = some fa) (rm : Room A (d + 2)) (S : At K h₀ L X m h s.heap) :
    codeAny (model prog w) A (.call (.ref fa) ⟨vals, []⟩) (fun r s' => ∃ rv, r = .ok (.ret rv) ∧ Post K h₀ L X m s Q rv s') s := by
  have ok := hF e
  unfold fnOk at ok
  rw [e, ef] at ok
  refine e1_2 (oS_ex (f := objFn (okFn K fd)) ok) fun ob hlk ok => ?_
  refine e1_2 (objFn_ex ok) fun fn hdat ok => ?_
  have g1 := eqb (a1 ok); replace ok := a2 ok
  have g2 := eqb (a1 ok); replace ok := a2 ok
  have g3 := List.isEmpty_iff.mp (a1 ok); replace ok := a2 ok
  have g4 := eqb (a1 ok); replace ok := a2 ok
  have g5 := a1 ok; replace ok := a2 ok
  have g6 := List.isEmpty_iff.mp (a1 ok); replace ok := a2 ok
  have g7 := Option.isNone_iff_eq_none.mp (a1 ok); replace ok := a2 ok
  have g8 := List.isEmpty_iff.mp (a1 ok); replace ok := a2 ok
  have g9 := Option.isNone_iff_eq_none.mp (a1 ok); replace ok := a2 ok
  have g10 := eqb (a1 ok); replace ok := a2 ok
  have g16 : ∀ x ∈ fd.params, okPar fn.scope x = true := List.all_eq_true.mp (a1 ok); replace ok := a2 ok
  have g11 : ∀ x ∈ fd.params, x < nmN := fun x hx => of_decide_eq_true (a1 (g16 x hx))
  have g12 := of_decide_eq_true (a1 ok); replace ok := a2 ok
  have g13 := eqb (a1 ok); replace ok := a2 ok
  have g14 := eqb (a1 ok); replace ok := a2 ok
  have g15 := eqb (a1 ok)
  have g18 := a2 ok
  · · refine e1_2 (body_ex g18) fun body hbody g18 => ?_
      have Xs := S.cx.X.keeps S.fr.keep
      have hlv : vals.length = fd.params.length := (ab_len hv).trans hlen
      refine codeAny_call_function (fd := fn) (body := body) (by have := rm.dep; lia) (Xs _ _ hlk) hdat g13 g14 hbody (codeRec_of Xs g5) ?_
      rw [bindArgs_simple (names := fd.params.map nm) g6 g10 g7 g8 g9 g4 (nodup_nm g12 g11) (by rw [List.length_map]; exact hlv)]
      refine wpAny_pure ?_
      rw [g3]
      refine wpAny_newFunctionEnv_cells g15 (fun x hx => ?_) fun env' he s' x => ?_
      · obtain ⟨y, hy, e1⟩ : ∃ y ∈ fd.params, nm y = x.1 := by
          have := (List.of_mem_zip (a := x.1) (b := x.2) hx).1
          refine e1_2 (List.mem_map.mp this) fun y hy e => ?_
          exact ⟨y, hy, e⟩
        rw [← e1]
        exact (kindLC_or (a2 (g16 y hy))).imp id fun z => ⟨z, cellsFrom_some _ _ _ _ (.inl z)⟩
      · refine e4_1 S.cx.T fun p loose mg mb T => ?_
        refine ⟨(T.nolimit.keeps S.fr.keep).keeps x.toInCall.keep, codeAny_func ?_⟩
        refine e2_2 x.done fun h₁ tk e92 _ => ?_
        obtain rfl := e92
        have hk₁ := x.toInCall.keep
        subst he
        generalize hcs : cellsFrom (s.heap.objs.size + 1) fn.scope.names [] = cs at x hk₁ ⊢
        have O' : EnvOk (newEnv fn.scope s.heap.objs.size fn.globals cs (fn.qualname ++ ".<locals>.") (some fa) fn.code none fn.builtins) s.heap.objs.size := ⟨g15, rfl, g1, g2⟩
        generalize henv : newEnv fn.scope s.heap.objs.size fn.globals cs (fn.qualname ++ ".<locals>.") (some fa) fn.code none fn.builtins = env' at x O' ⊢
        have hcells : env'.cells = cs := by rw [← henv]; rfl
        have hscope : env'.scope = fn.scope := by rw [← henv]; rfl
        have hloc : env'.locals = s.heap.objs.size := O'.loc
        refine e1_2 (enter S) fun g back into => ?_
        let Y : List (Addr × Obj) := cs.filterMap fun y => (h₁.get? y.2).map fun o => (y.2, o)
        have hYm : ∀ p ∈ Y, h₁.get? p.1 = some p.2 ∧ ∃ n, (n, p.1) ∈ cs := fun p hp => by
          refine e1_2 (List.mem_filterMap.mp hp) fun z90 hm e9 => ?_
          obtain ⟨n, c⟩ := z90
          refine e1_2 (Option.map_eq_some_iff.mp e9) fun o h1 h2 => ?_
          subst h2
          exact ⟨h1, n, hm⟩
        have hYn : (Y.map (·.1)).Nodup := by
          refine List.pairwise_map.mpr (List.pairwise_filterMap.mpr ((hcells ▸ x.apart : cs.Pairwise fun x y => x.2 ≠ y.2).imp fun {a b} hab p hp q hq => ?_))
          refine e1_2 (Option.map_eq_some_iff.mp hp) fun o _ h2 => ?_
          refine e1_2 (Option.map_eq_some_iff.mp hq) fun o' _ h2' => ?_
          subst h2 h2'
          exact hab
        have ns : h₁.Ns s.heap.objs.size (bindL env'.kindOf ((fd.params.map nm).zip vals) fun _ => none) := by have := x.toInCall.ns; rw [hloc] at this; exact this
        have S1 : At K g s.heap.objs.size (Y ++ X) (bindL env'.kindOf ((fd.params.map nm).zip vals) fun _ => none) h h₁ := into ns (Nat.le_refl _) hk₁ (fun p hp => by
          obtain ⟨a, n, b⟩ := hYm p hp
          have := x.above n p.1 (by rw [hcells]; exact b)
          rw [hloc] at this
          exact ⟨a, Nat.le_of_lt this, Nat.ne_of_gt this⟩) hYn
        have hkd : ∀ y ∈ fd.params, y < nmN ∧ (env'.kindOf (nm y) = some .local ∨ env'.kindOf (nm y) = some .cell) := fun y hy => by
          refine ⟨g11 y hy, ?_⟩
          have := kindLC_or (a2 (g16 y hy))
          rw [← hscope] at this
          exact this
        have B := binds_inv env'.kindOf fd.params vals avs R.empty (fun _ => none) (fun _ => none) (fun _ _ z => nomatch z) hv hlv hkd
        have lo : Loc env' (bindL env'.kindOf ((fd.params.map nm).zip vals) fun _ => none) (Y ++ X) (R.empty.setAll fd.params avs) := fun y v e9 => by
          obtain ⟨a, rv, b, c⟩ := B y v e9
          refine ⟨a, rv, b, c.imp id fun ⟨c1, c2⟩ => ⟨.inl c1, ?_⟩⟩
          have c1' : fn.scope.names.lookup (nm y) = some .cell := by rw [← hscope]; exact c1
          obtain ⟨c, hc⟩ := Option.isSome_iff_exists.mp (cellsFrom_some fn.scope.names (s.heap.objs.size + 1) [] (nm y) (.inl c1'))
          rw [hcs] at hc
          obtain ⟨o, k1, k2⟩ := x.cell (nm y) c (by rw [hcells]; exact hc)
          rw [c2] at k2
          exact ⟨c, o, by rw [hcells]; exact hc, List.mem_append_left _ (List.mem_filterMap.mpr ⟨(nm y, c), mem_of_lookup hc, by rw [k1]; rfl⟩), k2⟩
        have rm' : Room (A.deeper env') (d + 1) := ⟨rm.hh, by have := rm.dep; show A.depth + 1 + _ + 3 < _; lia, by have := rm.un; show A.units + 3 + _ + 64 < _; lia⟩
        refine wpAny_mono (sndB hK hΦ fd.body (s := { s with heap := h₁, toks := tk }) (by rw [hscope]; exact g18) rm' O' lo S1 q (.inr PassesOwn.leaving)) (fun fl s' p => ?_) fun _ _ z => z
        cases fl with
        | next =>
          refine e3_4 p fun ρ' m' h' S2 _ r2 q2 => ?_
          clear p
          exact ⟨.none, rfl, Post.intro rfl (back S2 (Nat.le_refl _)).toAt.dropL q2 ((show Rest s { s with heap := h₁, toks := tk } from ⟨rfl, rfl⟩).trans r2)⟩
        | ret rv =>
          refine e3_4 p fun av m' h' hav S2 r2 q2 => ?_
          clear p
          exact ⟨rv, rfl, Post.intro hav (back S2 (Nat.le_refl _)).toAt.dropL q2 ((show Rest s { s with heap := h₁, toks := tk } from ⟨rfl, rfl⟩).trans r2)⟩
        | brk => exact p.elim
        | cont => exact p.elim

theorem Call_S (hK : KOk K) (hF : ∀ f fd, fnT f = some fd → fnOk K f = true) (n : Nat) : CallSnd prog w K (Call fnT iniT n) (2 * n) := by
  induction n with
  | zero =>
    intro f vals avs h Q A h₀ L X m s fa q
    exact q.elim
  | succ n ih =>
    intro f vals avs h Q A h₀ L X m s fa q hv ef rm S
    exact need_el q fun fd e q => call_S hK ih (hF f fd) e q.1 q.2 hv ef rm S
end

noncomputable def allFn (K : Frag) : Bool := fnL.all fun p => fnOk K p.1
theorem fnOk_of {K : Frag} (h : allFn K = true) (f : Nat) (fd : Fd) (e : fnT f = some fd) : fnOk K f = true := by
  have key : ∀ (l : List (Nat × Fd)), l.all (fun p => fnOk K p.1) = true → l.lookup f = some fd → fnOk K f = true := by
    intro l
    induction l with
    | nil => intro _ e; cases e
    | cons p l ih =>
      intro h e
      rw [List.all_cons, Bool.and_eq_true] at h
      obtain ⟨k, v⟩ := p
      rw [List.lookup_cons] at e
      cases q : f == k with
      | true => rw [beq_iff_eq.mp q]; exact h.1
      | false => rw [q] at e; exact ih h.2 e
  exact key fnL h e
end Mine

namespace Mine
open PySem PySem.W PySem.Calls PyProof.Rows

noncomputable def kFn (K : Frag) (f : Nat) : Bool := match nsIn K mainGlobals (nm f) with
  | some (some (.ref fa)) => fnAddr K f == some fa && keepIn K (.ref fa)
  | _ => false
noncomputable def kCls (K : Frag) (C : Nat) : Bool := match nsIn K mainGlobals (nm (102 + C)) with
  | some (some (.ref ca)) => clsA K C == some ca && keepIn K (.ref ca) && makesIn K ca && (match findIn K (.ref ca) "__init__" with
    | some (some (.ref fI)) => typeIn K (.ref fI) == some (.type "function") && fnAddr K (1000 + C) == some fI
    | _ => false)
  | _ => false
noncomputable def kOk (K : Frag) : Bool := fieldIds.all (fun f => decide (f < nmN) && fieldOk K f 0 && fieldOk K f 1 && fieldOk K f 2) && fnIds.all (kFn K) && kCls K 0 && kCls K 1 && kCls K 2 && bltT.all fun p => nsIn K mainGlobals p.1 == some none

theorem kCls_of {K : Frag} {C : Nat} (h : kCls K C = true) : ∃ ca fI, clsA K C = some ca ∧ nsIn K mainGlobals (nm (102 + C)) = some (some (.ref ca)) ∧ keepIn K (.ref ca) = true ∧ makesIn K ca = true ∧ findIn K (.ref ca) "__init__" = some (some (.ref fI)) ∧ typeIn K (.ref fI) = some (.type "function") ∧ fnAddr K (1000 + C) = some fI := by
  unfold kCls at h
  set_option tactic.hygienic true in split at h
  · rename_i ca e1
    simp only [Bool.and_eq_true, beq_iff_eq] at h
    obtain ⟨⟨⟨h1, h2⟩, h3⟩, h4⟩ := h
    set_option tactic.hygienic true in split at h4
    · rename_i fI e2
      simp only [Bool.and_eq_true, beq_iff_eq] at h4
      exact ⟨ca, fI, h1, e1, h2, h3, e2, h4.1, h4.2⟩
    · cases h4
  · cases h
theorem kOk_of {K : Frag} (h : kOk K = true) : KOk K := by
  unfold kOk at h
  simp only [Bool.and_eq_true, List.all_eq_true, decide_eq_true_eq, beq_iff_eq] at h
  obtain ⟨⟨⟨⟨⟨h1, h2⟩, h3⟩, h4⟩, h5⟩, h6⟩ := h
  refine ⟨fun f hf => ⟨(h1 f hf).1.1.1, fun C hC => ?_⟩, fun f hf => ?_, fun C hC => ?_, fun p hp => h6 p hp⟩
  · have z := h1 f hf
    match C, hC with
    | 0, _ => exact z.1.1.2
    | 1, _ => exact z.1.2
    | 2, _ => exact z.2
  · have z := h2 f hf
    unfold kFn at z
    set_option tactic.hygienic true in split at z
    · rename_i fa e
      simp only [Bool.and_eq_true, beq_iff_eq] at z
      exact ⟨fa, e, z.1, z.2⟩
    · cases z
  · match C, hC with
    | 0, _ => exact kCls_of h3
    | 1, _ => exact kCls_of h4
    | 2, _ => exact kCls_of h5
end Mine

namespace Mine
open PySem

noncomputable abbrev Pr {β : Type} (_ : β) : Type := Prop
noncomputable abbrev Pr2 {β γ : Type} (_ : β) (_ : γ) : Type := Prop
noncomputable abbrev Pr3 {β γ δ : Type} (_ : β) (_ : γ) (_ : δ) : Type := Prop
noncomputable abbrev Pr4 {β γ δ ε : Type} (_ : β) (_ : γ) (_ : δ) (_ : ε) : Type := Prop
/-! the words of Sim1 again, their later arguments tied to the type: the simplifier does not go into them -/
noncomputable def ned {α : Type} (o : Option α) (k : α → Prop) : Pr k := need o k
@[simp ↓] theorem ned_some {α : Type} (x : α) (k : α → Prop) : ned (some x) k = k x := rfl
@[simp ↓] theorem ned_none {α : Type} (k : α → Prop) : ned (none : Option α) k = False := rfl
theorem ned_at {α : Type} {o : Option α} {k : α → Prop} {x : α} (e : o = some x) (q : k x) : ned o k := need_at e q
theorem ned_ex {α : Type} {o : Option α} {k : α → Prop} (q : ned o k) : ∃ x, o = some x ∧ k x := need_ex q
noncomputable def nrf (v : V) (P : Prop) : Pr P := noRef v P
noncomputable def nwO (h : H) (o : O) (Q : V → H → Prop) : Pr2 o Q := newO h o Q
noncomputable def vE (Φ : CallT) (ini : Nat → Nat) (e : Ex) (ρ : R) (h : H) (Q : V → H → Prop) : Pr3 ρ h Q := wpE Φ ini e ρ h Q
noncomputable def vT (Φ : CallT) (ini : Nat → Nat) (e : Ex) (ρ : R) (h : H) (Q : Bool → H → Prop) : Pr3 ρ h Q := wpT Φ ini e ρ h Q
noncomputable def vS (Φ : CallT) (ini : Nat → Nat) (s : St) (ρ : R) (h : H) (Qn : R → H → Prop) (Qr : V → H → Prop) : Pr4 ρ h Qn Qr := wpS Φ ini s ρ h Qn Qr
noncomputable def vB (Φ : CallT) (ini : Nat → Nat) (s : Sts) (ρ : R) (h : H) (Qn : R → H → Prop) (Qr : V → H → Prop) : Pr4 ρ h Qn Qr := wpB Φ ini s ρ h Qn Qr
structure CC0 (n f : Nat) (vs : List V) (h : H) (Q : V → H → Prop) : Prop where
  un : Call fnT iniT n f vs h Q
noncomputable def CC (n f : Nat) (vs : List V) (h : H) (Q : V → H → Prop) : Pr Q := CC0 n f vs h Q
theorem CC.un {n f : Nat} {vs : List V} {h : H} {Q : V → H → Prop} (c : CC n f vs h Q) : Call fnT iniT n f vs h Q := CC0.un c
theorem CC_eq (n : Nat) : CC n = Call fnT iniT n := by
  funext f vs h Q
  exact propext ⟨CC.un, CC0.mk⟩
@[simp] theorem nr_none {P : Prop} : nrf .none P = P := rfl
@[simp] theorem nr_bool {P : Prop} {b : Bool} : nrf (.bool b) P = P := rfl
@[simp] theorem nr_int {P : Prop} {i : Int} : nrf (.int i) P = P := rfl
@[simp] theorem nr_str {P : Prop} {s : Str} : nrf (.str s) P = P := rfl
@[simp ↓] theorem if_dec {α : Sort _} {a b : α} {p : Prop} [Decidable p] : (if decide p = true then a else b) = if p then a else b := by by_cases p <;> simp -dsimp [*]
@[simp ↓] theorem if_ntt {α : Sort _} {a b : α} : (if (!true) = true then a else b) = b := rfl
@[simp ↓] theorem if_nff {α : Sort _} {a b : α} : (if (!false) = true then a else b) = a := rfl
@[simp ↓] theorem if_tt {α : Sort _} {a b : α} : (if true = true then a else b) = a := rfl
@[simp ↓] theorem if_ff {α : Sort _} {a b : α} : (if false = true then a else b) = b := rfl
theorem callI {n f : Nat} {fd : Fd} {vs : List V} {h : H} {Q : V → H → Prop} (e : fnT f = some fd) (hl : vs.length = fd.params.length) (q : vB (CC n) iniT fd.body (R.empty.setAll fd.params vs) h (fun _ h => Q .none h) Q) : CC (n + 1) f vs h Q := CC0.mk (need_at e ⟨hl, CC_eq n ▸ q⟩)

section
variable {Φ : CallT} {ini : Nat → Nat} {ρ : R} {h : H} {Q : V → H → Prop}
@[simp ↓] theorem x_none : vE Φ ini .none ρ h Q = Q .none h := rfl
@[simp ↓] theorem x_bool {b : Bool} : vE Φ ini (.bool b) ρ h Q = Q (.bool b) h := rfl
@[simp ↓] theorem x_int {i : Int} : vE Φ ini (.int i) ρ h Q = Q (.int i) h := rfl
@[simp ↓] theorem x_str {s : Str} : vE Φ ini (.str s) ρ h Q = Q (.str s) h := rfl
@[simp ↓] theorem x_var {x : Nat} : vE Φ ini (.var x) ρ h Q = ned (ρ x) fun v => Q v h := rfl
@[simp ↓] theorem x_attr {e : Ex} {f : Nat} : vE Φ ini (.attr e f) ρ h Q = vE Φ ini e ρ h fun v h => ned (getF h v f) fun x => Q x h := rfl
@[simp ↓] theorem x_bin {op : Op} {l r : Ex} : vE Φ ini (.bin op l r) ρ h Q = vE Φ ini l ρ h fun a h => vE Φ ini r ρ h fun b h => binop op a b h Q := rfl
@[simp ↓] theorem x_neg {i : Int} : vE Φ ini (.neg i) ρ h Q = Q (.int (-i)) h := rfl
@[simp ↓] theorem x_cmp {op : Cm} {l r : Ex} : vE Φ ini (.cmp op l r) ρ h Q = vE Φ ini l ρ h fun a h => vE Φ ini r ρ h fun b h => ned (cmpop op a b h) fun c => Q (.bool c) h := rfl
@[simp ↓] theorem x_and {l r : Ex} : vE Φ ini (.and l r) ρ h Q = vE Φ ini l ρ h fun a h => ned (boolOf a) fun c => if c = true then vE Φ ini r ρ h Q else Q a h := rfl
@[simp ↓] theorem x_or {l r : Ex} : vE Φ ini (.or l r) ρ h Q = vE Φ ini l ρ h fun a h => ned (boolOf a) fun c => if c = true then Q a h else vE Φ ini r ρ h Q := rfl
@[simp ↓] theorem x_ite {t a b : Ex} : vE Φ ini (.ite t a b) ρ h Q = vT Φ ini t ρ h fun c h => if c = true then vE Φ ini a ρ h Q else vE Φ ini b ρ h Q := rfl
@[simp ↓] theorem x_call {f : Nat} {as : Exs} : vE Φ ini (.call f as) ρ h Q = wpEs Φ ini as ρ h fun vs h => Φ f vs h Q := rfl
@[simp ↓] theorem x_new {C : Nat} {as : Exs} : vE Φ ini (.new C as) ρ h Q = wpEs Φ ini as ρ h fun vs h => ∀ c, h c = none → Φ (ini C) (.ref c :: vs) (h.set c (.inst C [])) fun r h => r = .none ∧ Q (.ref c) h := rfl
@[simp ↓] theorem x_len {e : Ex} : vE Φ ini (.len e) ρ h Q = vE Φ ini e ρ h fun v h => ned (itemsOf h v) fun xs => xs.length ≤ lim ∧ Q (.int xs.length) h := rfl
@[simp ↓] theorem x_abs {e : Ex} : vE Φ ini (.abs e) ρ h Q = vE Φ ini e ρ h fun v h => ned (intOf v) fun i => Q (.int i.natAbs) h := rfl
@[simp ↓] theorem x_listOf {e : Ex} : vE Φ ini (.listOf e) ρ h Q = vE Φ ini e ρ h fun v h => ned (listAt h v) fun xs => xs.length ≤ lim ∧ nwO h (.list xs) Q := rfl
@[simp ↓] theorem x_strOf {e : Ex} : vE Φ ini (.strOf e) ρ h Q = vE Φ ini e ρ h fun v h => ned (Mine.strOf v) fun s => Q (.str s) h := rfl
@[simp ↓] theorem x_pop {x : Nat} : vE Φ ini (.pop x) ρ h Q = ned (ρ x) fun v => ned (listAt h v) fun xs => ned xs.getLast? fun y => xs.length ≤ lim ∧ Q y (setList h v xs.dropLast) := rfl
@[simp ↓] theorem x_append {x : Nat} {e : Ex} : vE Φ ini (.append x e) ρ h Q = ned (ρ x) fun v => ned (listAt h v) fun _ => vE Φ ini e ρ h fun y h => ned (listAt h v) fun xs => xs.length < lim ∧ Q .none (setList h v (xs ++ [y])) := rfl
@[simp ↓] theorem x_extend {x : Nat} {e : Ex} : vE Φ ini (.extend x e) ρ h Q = ned (ρ x) fun v => ned (listAt h v) fun _ => vE Φ ini e ρ h fun w h => ned (listAt h v) fun xs => ned (listAt h w) fun ys => v ≠ w ∧ ys ≠ [] ∧ xs.length + ys.length < lim ∧ Q .none (setList h v (xs ++ ys)) := rfl
@[simp ↓] theorem x_list {es : Exs} : vE Φ ini (.list es) ρ h Q = wpEs Φ ini es ρ h fun vs h => vs.length ≤ lim ∧ nwO h (.list vs) Q := rfl
@[simp ↓] theorem x_tup {es : Exs} : vE Φ ini (.tup es) ρ h Q = wpEs Φ ini es ρ h fun vs h => vs.length ≤ lim ∧ nwO h (.tup vs) Q := rfl
@[simp ↓] theorem x_idx {e i : Ex} : vE Φ ini (.idx e i) ρ h Q = vE Φ ini e ρ h fun v h => vE Φ ini i ρ h fun j h => ned (itemsOf h v) fun xs => ned (intOf j) fun k => 0 ≤ k ∧ xs.length ≤ lim ∧ ned (xs[k.toNat]?) fun x => Q x h := rfl
@[simp ↓] theorem x_sliceTo {e i : Ex} : vE Φ ini (.sliceTo e i) ρ h Q = vE Φ ini e ρ h fun v h => vE Φ ini i ρ h fun j h => ned (listAt h v) fun xs => ned (intOf j) fun k => 0 ≤ k ∧ k ≤ lim ∧ xs.length ≤ lim ∧ nwO h (.list (xs.take k.toNat)) Q := rfl
@[simp ↓] theorem x_sliceFrom {e i : Ex} : vE Φ ini (.sliceFrom e i) ρ h Q = vE Φ ini e ρ h fun v h => vE Φ ini i ρ h fun j h => ned (listAt h v) fun xs => ned (intOf j) fun k => 0 ≤ k ∧ k ≤ lim ∧ xs.length ≤ lim ∧ nwO h (.list (xs.drop k.toNat)) Q := rfl
@[simp ↓] theorem xs_nil {Q : List V → H → Prop} : wpEs Φ ini .nil ρ h Q = Q [] h := rfl
@[simp ↓] theorem xs_cons {e : Ex} {es : Exs} {Q : List V → H → Prop} : wpEs Φ ini (.cons e es) ρ h Q = vE Φ ini e ρ h fun v h => wpEs Φ ini es ρ h fun vs h => Q (v :: vs) h := rfl
end
section
variable {Φ : CallT} {ini : Nat → Nat} {ρ : R} {h : H} {Q : Bool → H → Prop}
@[simp ↓] theorem t_bool {b : Bool} : vT Φ ini (.bool b) ρ h Q = Q b h := rfl
@[simp ↓] theorem t_not {e : Ex} : vT Φ ini (.not e) ρ h Q = vT Φ ini e ρ h fun b h => Q (!b) h := rfl
@[simp ↓] theorem t_and {l r : Ex} : vT Φ ini (.and l r) ρ h Q = vT Φ ini l ρ h fun a h => if a = true then vT Φ ini r ρ h Q else Q false h := rfl
@[simp ↓] theorem t_or {l r : Ex} : vT Φ ini (.or l r) ρ h Q = vT Φ ini l ρ h fun a h => if a = true then Q true h else vT Φ ini r ρ h Q := rfl
@[simp ↓] theorem t_cmp {op : Cm} {l r : Ex} : vT Φ ini (.cmp op l r) ρ h Q = vE Φ ini l ρ h fun a h => vE Φ ini r ρ h fun b h => ned (cmpop op a b h) fun c => Q c h := rfl
@[simp ↓] theorem t_cmp2 {op₁ op₂ : Cm} {l m r : Ex} : vT Φ ini (.cmp2 op₁ op₂ l m r) ρ h Q = vE Φ ini l ρ h fun a h => vE Φ ini m ρ h fun b h => ned (cmpop op₁ a b h) fun c =>
      if c = true then vE Φ ini r ρ h fun d h => ned (cmpop op₂ b d h) fun c => Q c h else Q false h := rfl
@[simp ↓] theorem t_var {x : Nat} : vT Φ ini (.var x) ρ h Q = ned (ρ x) fun v => ned (boolOf v) fun b => Q b h := rfl
@[simp ↓] theorem t_call {f : Nat} {as : Exs} : vT Φ ini (.call f as) ρ h Q = wpEs Φ ini as ρ h fun vs h => Φ f vs h fun v h => ned (boolOf v) fun b => Q b h := rfl
end
section
variable {Φ : CallT} {ini : Nat → Nat} {ρ : R} {h : H} {Qn : R → H → Prop} {Qr : V → H → Prop}
@[simp ↓] theorem s_assign {x : Nat} {e : Ex} : vS Φ ini (.assign x e) ρ h Qn Qr = vE Φ ini e ρ h fun v h => Qn (ρ.set x v) h := rfl
@[simp ↓] theorem s_assignT {xs : List Nat} {e : Ex} : vS Φ ini (.assignT xs e) ρ h Qn Qr = vE Φ ini e ρ h fun v h => ned (tupAt h v) fun vs => vs.length = xs.length ∧ Qn (ρ.setAll xs vs) h := rfl
@[simp ↓] theorem s_setAttr {o : Ex} {f : Nat} {e : Ex} : vS Φ ini (.setAttr o f e) ρ h Qn Qr = vE Φ ini e ρ h fun v h => vE Φ ini o ρ h fun w h => ned (setF h w f v) fun h => Qn ρ h := rfl
@[simp ↓] theorem s_setIdx {o i e : Ex} : vS Φ ini (.setIdx o i e) ρ h Qn Qr = vE Φ ini e ρ h fun v h => vE Φ ini o ρ h fun w h => vE Φ ini i ρ h fun j h =>
      ned (listAt h w) fun xs => ned (intOf j) fun k => 0 ≤ k ∧ k < xs.length ∧ xs.length ≤ lim ∧ Qn ρ (setList h w (xs.set k.toNat v)) := rfl
@[simp ↓] theorem s_expr {e : Ex} : vS Φ ini (.expr e) ρ h Qn Qr = vE Φ ini e ρ h fun v h => nrf v (Qn ρ h) := rfl
@[simp ↓] theorem s_ret {e : Ex} : vS Φ ini (.ret e) ρ h Qn Qr = vE Φ ini e ρ h Qr := rfl
@[simp ↓] theorem s_retN : vS Φ ini .retN ρ h Qn Qr = Qr .none h := rfl
@[simp ↓] theorem s_ite {t : Ex} {a b : Sts} : vS Φ ini (.ite t a b) ρ h Qn Qr = vT Φ ini t ρ h fun c h => if c = true then vB Φ ini a ρ h Qn Qr else vB Φ ini b ρ h Qn Qr := rfl
theorem s_whl {t : Ex} {b : Sts} (q : ∀ I : R → H → Prop, (∀ ρ h, vT Φ ini t ρ h (fun c h => if c = true then vB Φ ini b ρ h I Qr else Qn ρ h) → I ρ h) → I ρ h) : vS Φ ini (.while t b) ρ h Qn Qr := q
theorem b_whl {t : Ex} {b r : Sts} (q : ∀ I : R → H → Prop, (∀ ρ h, vT Φ ini t ρ h (fun c h => if c = true then vB Φ ini b ρ h I Qr else vB Φ ini r ρ h Qn Qr) → I ρ h) → I ρ h) : vB Φ ini (.cons (.while t b) r) ρ h Qn Qr := q
@[simp ↓] theorem b_nil : vB Φ ini .nil ρ h Qn Qr = Qn ρ h := rfl
@[simp ↓] theorem b_cons {s : St} {r : Sts} : vB Φ ini (.cons s r) ρ h Qn Qr = vS Φ ini s ρ h (fun ρ h => vB Φ ini r ρ h Qn Qr) Qr := rfl
end
section
variable {h : H} {Q : V → H → Prop} {x y : Int}
@[simp] theorem bi_add : binop .add (.int x) (.int y) h Q = Q (.int (x + y)) h := rfl
@[simp] theorem bi_sub : binop .sub (.int x) (.int y) h Q = Q (.int (x - y)) h := rfl
@[simp] theorem bi_mul : binop .mul (.int x) (.int y) h Q = ((-1000000 ≤ x ∧ x ≤ 1000000 ∧ -1000000 ≤ y ∧ y ≤ 1000000) ∧ Q (.int (x * y)) h) := rfl
@[simp] theorem bi_fdiv : binop .fdiv (.int x) (.int y) h Q = ((0 < y ∧ y ≤ 1000000) ∧ Q (.int (Int.fdiv x y)) h) := rfl
@[simp] theorem bi_mod : binop .mod (.int x) (.int y) h Q = (0 < y ∧ Q (.int (Int.fmod x y)) h) := rfl
@[simp] theorem bi_list {p q : Nat} : binop .add (.ref p) (.ref q) h Q = ned (listAt h (.ref p)) fun xs => ned (listAt h (.ref q)) fun ys => xs.length + ys.length ≤ lim ∧ nwO h (.list (xs ++ ys)) Q := rfl
@[simp] theorem c_lt : cmpop .lt (.int x) (.int y) h = some (decide (x < y)) := rfl
@[simp] theorem c_le : cmpop .le (.int x) (.int y) h = some (decide (x ≤ y)) := rfl
@[simp] theorem c_gt : cmpop .gt (.int x) (.int y) h = some (decide (y < x)) := rfl
@[simp] theorem c_ge : cmpop .ge (.int x) (.int y) h = some (decide (y ≤ x)) := rfl
@[simp] theorem c_ne : cmpop .ne (.int x) (.int y) h = some (!decide (x = y)) := rfl
@[simp] theorem c_eq {a b : V} : cmpop .eq a b h = pyEq a b := rfl
@[simp] theorem c_eqi : pyEq (.int x) (.int y) = some (decide (x = y)) := rfl
@[simp] theorem c_is {a b : V} : cmpop .is a b h = pyIs h a b := rfl
@[simp] theorem c_isNot {a b : V} : cmpop .isNot a b h = (pyIs h a b).map (!·) := rfl
@[simp] theorem is_none {b : Nat} : pyIs h (.ref b) .none = some false := rfl
@[simp] theorem none_is {b : Nat} : pyIs h .none (.ref b) = some false := rfl
@[simp] theorem none_none : pyIs h .none .none = some true := rfl
@[simp] theorem is_self {b : Nat} : pyIs h (.ref b) (.ref b) = some true := by simp -dsimp [pyIs]
@[simp] theorem io_int {i : Int} : intOf (.int i) = some i := rfl
@[simp] theorem bo_bool {b : Bool} : boolOf (.bool b) = some b := rfl
@[simp] theorem rempty {y : Nat} : R.empty y = none := rfl
@[simp] theorem io_list {a : Nat} {xs : List V} (e : h a = some (.list xs)) : itemsOf h (.ref a) = some xs := by simp -dsimp [itemsOf, e]
@[simp] theorem io_tup {a : Nat} {xs : List V} (e : h a = some (.tup xs)) : itemsOf h (.ref a) = some xs := by simp -dsimp [itemsOf, e]
@[simp] theorem la_list {a : Nat} {xs : List V} (e : h a = some (.list xs)) : listAt h (.ref a) = some xs := by simp -dsimp [listAt, e]
@[simp] theorem ta_tup {a : Nat} {xs : List V} (e : h a = some (.tup xs)) : tupAt h (.ref a) = some xs := by simp -dsimp [tupAt, e]
@[simp] theorem sl_ref {a : Nat} {xs : List V} : setList h (.ref a) xs = h.set a (.list xs) := rfl
@[simp] theorem hs_self {a : Nat} {o : O} : (h.set a o) a = some o := if_pos rfl
end
section
variable {h : H} {k : Bool → Prop} {x y : Int} {a b : V} {p q : Nat}
@[simp ↓] theorem n_lt : ned (cmpop .lt (.int x) (.int y) h) k = k (decide (x < y)) := rfl
@[simp ↓] theorem n_le : ned (cmpop .le (.int x) (.int y) h) k = k (decide (x ≤ y)) := rfl
@[simp ↓] theorem n_gt : ned (cmpop .gt (.int x) (.int y) h) k = k (decide (y < x)) := rfl
@[simp ↓] theorem n_ge : ned (cmpop .ge (.int x) (.int y) h) k = k (decide (y ≤ x)) := rfl
@[simp ↓] theorem n_ne : ned (cmpop .ne (.int x) (.int y) h) k = k (!decide (x = y)) := rfl
@[simp ↓] theorem n_eqi : ned (cmpop .eq (.int x) (.int y) h) k = k (decide (x = y)) := rfl
@[simp ↓] theorem n_eq : ned (cmpop .eq a b h) k = ned (pyEq a b) k := rfl
@[simp ↓] theorem n_is : ned (cmpop .is a b h) k = ned (pyIs h a b) k := rfl
@[simp ↓] theorem n_isNot : ned (cmpop .isNot a b h) k = ned (pyIs h a b) (fun c => k (!c)) := by
  show ned ((pyIs h a b).map _) k = _
  cases pyIs h a b <;> rfl
@[simp ↓] theorem n_isn : ned (pyIs h (.ref p) .none) k = k false := rfl
@[simp ↓] theorem n_nis : ned (pyIs h .none (.ref p)) k = k false := rfl
@[simp ↓] theorem n_nn : ned (pyIs h .none .none) k = k true := rfl
@[simp ↓] theorem n_bo {b : Bool} : ned (boolOf (.bool b)) k = k b := rfl
@[simp ↓] theorem n_io {k : Int → Prop} : ned (intOf (.int x)) k = k x := rfl
end
noncomputable def isIn (h : H) (a : Nat) : Prop := ∃ C fs, h a = some (.inst C fs)
theorem is_ne {h : H} {a b : Nat} (n : a ≠ b) (ha : isIn h a) (hb : isIn h b) : pyIs h (.ref a) (.ref b) = some false := by
  refine e2_1 ha fun _ _ ea => ?_
  clear ha
  refine e2_1 hb fun _ _ eb => ?_
  clear hb
  simp -dsimp [pyIs, n, ea, eb]
end Mine

namespace Mine
open PySem

inductive T where
  | leaf
  | node (a : Nat) (l : T) (o : Int) (p : V) (r : T)
noncomputable abbrev Row := Nat × Int × V
noncomputable def T.val : T → V
  | .leaf => .none
  | .node a _ _ _ _ => .ref a
@[simp] theorem val_leaf : T.leaf.val = .none := rfl
@[simp] theorem val_node {a : Nat} {l : T} {o : Int} {p : V} {r : T} : (T.node a l o p r).val = .ref a := rfl
noncomputable def T.sum : T → Int
  | .leaf => 0
  | .node _ l o _ r => l.sum + o + r.sum
noncomputable def T.ads : T → List Nat
  | .leaf => []
  | .node a l _ _ r => l.ads ++ a :: r.ads
noncomputable def T.rows : T → List Row
  | .leaf => []
  | .node a l o p r => l.rows ++ (a, o, p) :: r.rows
theorem T.ads_rows : ∀ t : T, t.ads = t.rows.map (·.1)
  | .leaf => rfl
  | .node a l o p r => by simp -dsimp [T.ads, T.rows, T.ads_rows l, T.ads_rows r]
noncomputable def rsum (rows : List Row) : Int := (rows.map (·.2.1)).sum
theorem T.sum_rows : ∀ t : T, t.sum = rsum t.rows
  | .leaf => rfl
  | .node a l o p r => by simp -dsimp [T.sum, T.rows, T.sum_rows l, T.sum_rows r, rsum]; lia

/-- a node's object -/
noncomputable def nd (tot : Int) (p l r par : V) : O := .inst 0 [(51, .int tot), (52, p), (55, l), (54, r), (53, par)]
/-- the tree object -/
noncomputable def tr0 (v : V) : O := .inst 1 [(57, v)]

section
variable {h : H} {a : Nat} {tot : Int} {p l r par v : V}
theorem get_tot (e : h a = some (nd tot p l r par)) : getF h (.ref a) 51 = some (.int tot) := by simp -dsimp [getF, e, nd, getFs]
theorem get_pl (e : h a = some (nd tot p l r par)) : getF h (.ref a) 52 = some p := by simp -dsimp [getF, e, nd, getFs]
theorem get_lf (e : h a = some (nd tot p l r par)) : getF h (.ref a) 55 = some l := by simp -dsimp [getF, e, nd, getFs]
theorem get_rt (e : h a = some (nd tot p l r par)) : getF h (.ref a) 54 = some r := by simp -dsimp [getF, e, nd, getFs]
theorem get_par (e : h a = some (nd tot p l r par)) : getF h (.ref a) 53 = some par := by simp -dsimp [getF, e, nd, getFs]
theorem set_tot {x : Int} (e : h a = some (nd tot p l r par)) : setF h (.ref a) 51 (.int x) = some (h.set a (nd x p l r par)) := by simp -dsimp [setF, e, nd, putFs]
theorem set_pl {x : V} (e : h a = some (nd tot p l r par)) : setF h (.ref a) 52 x = some (h.set a (nd tot x l r par)) := by simp -dsimp [setF, e, nd, putFs]
theorem set_lf {x : V} (e : h a = some (nd tot p l r par)) : setF h (.ref a) 55 x = some (h.set a (nd tot p x r par)) := by simp -dsimp [setF, e, nd, putFs]
theorem set_rt {x : V} (e : h a = some (nd tot p l r par)) : setF h (.ref a) 54 x = some (h.set a (nd tot p l x par)) := by simp -dsimp [setF, e, nd, putFs]
theorem set_par {x : V} (e : h a = some (nd tot p l r par)) : setF h (.ref a) 53 x = some (h.set a (nd tot p l r x)) := by simp -dsimp [setF, e, nd, putFs]
theorem get_root (e : h a = some (tr0 v)) : getF h (.ref a) 57 = some v := by simp -dsimp [getF, e, tr0, getFs]
theorem set_root {x : V} (e : h a = some (tr0 v)) : setF h (.ref a) 57 x = some (h.set a (tr0 x)) := by simp -dsimp [setF, e, tr0, putFs]
end
theorem isIn_nd {h : H} {a : Nat} {tot : Int} {p l r par : V} (e : h a = some (nd tot p l r par)) : isIn h a := ⟨_, _, e⟩

noncomputable def RepT (h : H) : V → T → Prop
  | _, .leaf => True
  | par, .node a l o p r => ∃ tot, h a = some (nd tot p l.val r.val par) ∧ tot = l.sum + o + r.sum ∧ RepT h (.ref a) l ∧ RepT h (.ref a) r
theorem RepT.frame {h h' : H} : ∀ {t : T} {par : V}, RepT h par t → (∀ d ∈ t.ads, h' d = h d) → RepT h' par t
  | .leaf, _, _, _ => trivial
  | .node a l o p r, par, ⟨tot, e, es, hl, hr⟩, k => by
    refine ⟨tot, ?_, es, hl.frame fun d hd => k d ?_, hr.frame fun d hd => k d ?_⟩
    · rw [k a (by simp -dsimp [T.ads])]; exact e
    · simp -dsimp [T.ads, hd]
    · simp -dsimp [T.ads, hd]
theorem RepT.isIn {h : H} : ∀ {t : T} {par : V}, RepT h par t → ∀ d ∈ t.ads, isIn h d
  | .leaf, _, _, _, hd => by cases hd
  | .node a l o p r, par, ⟨tot, e, es, hl, hr⟩, d, hd => by
    simp -dsimp only [T.ads, List.mem_append, List.mem_cons] at hd
    rcases hd with hd | rfl | hd
    · exact hl.isIn d hd
    · exact isIn_nd e
    · exact hr.isIn d hd

/-! total_of, own_length, text_length -/
theorem total_spec {n : Nat} {t : T} {h : H} {par : V} {Q : V → H → Prop} (ht : RepT h par t) (q : Q (.int t.sum) h) : CC (n + 1) 0 [t.val] h Q := by
  refine callI (fd := ⟨[59], b_total_of⟩) rfl rfl ?_
  cases t with
  | leaf => simpa -dsimp [b_total_of, T.sum] using q
  | node a l o p r =>
    refine e1_4 ht fun tot e es _ _ => ?_
    clear ht
    subst es
    simpa -dsimp [b_total_of, T.sum, get_tot e] using q
theorem own_spec {n a : Nat} {l r : T} {o : Int} {p : V} {h : H} {par : V} {Q : V → H → Prop} (ht : RepT h par (.node a l o p r)) (q : Q (.int o) h) : CC (n + 2) 1 [.ref a] h Q := by
  refine callI (fd := ⟨[59], b_own_length⟩) rfl rfl ?_
  refine e1_4 ht fun tot e es hl hr => ?_
  clear ht
  simp -dsimp [b_own_length, get_tot e, get_lf e]
  refine total_spec hl ?_
  simp -dsimp [get_rt e]
  refine total_spec hr ?_
  simp -dsimp
  rw [show tot - l.sum - r.sum = o by lia]
  exact q
theorem RepT.reroot {h h' : H} {q q' : V} {t : T} (ht : RepT h q t) (hd : t.ads.Nodup) (hr : ∀ b tot p l r, t.val = .ref b → h b = some (nd tot p l r q) → h' b = some (nd tot p l r q')) (k : ∀ d ∈ t.ads, t.val ≠ .ref d → h' d = h d) : RepT h' q' t := by
  cases t with
  | leaf => trivial
  | node b l o p r =>
    refine e1_4 ht fun tot e es hl hr' => ?_
    clear ht
    simp -dsimp only [T.ads] at hd k
    refine ⟨tot, hr b _ _ _ _ rfl e, es, hl.frame fun d hm => k d (by simp -dsimp [hm]) ?_, hr'.frame fun d hm => k d (by simp -dsimp [hm]) ?_⟩
    · intro z; simp -dsimp only [val_node, V.ref.injEq] at z; subst z; grind
    · intro z; simp -dsimp only [val_node, V.ref.injEq] at z; subst z; grind

theorem set_left_spec {n a : Nat} {t : T} {h : H} {ta : Int} {pa la ra qa q : V} {Q : V → H → Prop} (ha : h a = some (nd ta pa la ra qa)) (ht : RepT h q t) (hd : t.ads.Nodup) (hn : a ∉ t.ads)
    (k : ∀ h', h' a = some (nd ta pa t.val ra qa) → RepT h' (.ref a) t → (∀ d, d ≠ a → d ∉ t.ads → h' d = h d) → Q .none h') : CC (n + 1) 4 [.ref a, t.val] h Q := by
  refine callI (fd := ⟨[59, 61], b_set_left⟩) rfl rfl ?_
  cases t with
  | leaf =>
    simp -dsimp [b_set_left, set_lf ha]
    exact k _ (hs_self) trivial fun d h1 _ => H.set_ne h1
  | node b l o p r =>
    refine e1_4 ht fun tot e es hl hr => ?_
    clear ht
    have hab : b ≠ a := by intro z; subst z; exact hn (by simp -dsimp [T.ads])
    have e1 : (h.set a (nd ta pa (.ref b) ra qa)) b = some (nd tot p l.val r.val q) := by rw [H.set_ne hab]; exact e
    simp -dsimp [b_set_left, set_lf ha, set_par e1]
    refine k _ ?_ ?_ fun d h1 h2 => ?_
    · rw [H.set_ne (Ne.symm hab), hs_self]; rfl
    · refine RepT.reroot (q := q) (h := h) (t := .node b l o p r) ⟨tot, e, es, hl, hr⟩ hd (fun b' tot' p' l' r' e1 e2 => ?_) fun d hm hne => ?_
      · cases e1
        rw [e] at e2
        rw [hs_self]
        simp -dsimp only [nd, Option.some.injEq, O.inst.injEq, List.cons.injEq, Prod.mk.injEq, V.int.injEq] at e2 ⊢
        simp_all -dsimp
      · rw [H.set_ne (by intro z; subst z; exact hne rfl), H.set_ne (by intro z; subst z; exact hn hm)]
    · rw [H.set_ne (by intro z; subst z; exact h2 (by simp -dsimp [T.ads])), H.set_ne h1]
theorem set_right_spec {n a : Nat} {t : T} {h : H} {ta : Int} {pa la ra qa q : V} {Q : V → H → Prop} (ha : h a = some (nd ta pa la ra qa)) (ht : RepT h q t) (hd : t.ads.Nodup) (hn : a ∉ t.ads)
    (k : ∀ h', h' a = some (nd ta pa la t.val qa) → RepT h' (.ref a) t → (∀ d, d ≠ a → d ∉ t.ads → h' d = h d) → Q .none h') : CC (n + 1) 5 [.ref a, t.val] h Q := by
  refine callI (fd := ⟨[59, 61], b_set_right⟩) rfl rfl ?_
  cases t with
  | leaf =>
    simp -dsimp [b_set_right, set_rt ha]
    exact k _ (hs_self) trivial fun d h1 _ => H.set_ne h1
  | node b l o p r =>
    refine e1_4 ht fun tot e es hl hr => ?_
    clear ht
    have hab : b ≠ a := by intro z; subst z; exact hn (by simp -dsimp [T.ads])
    have e1 : (h.set a (nd ta pa la (.ref b) qa)) b = some (nd tot p l.val r.val q) := by rw [H.set_ne hab]; exact e
    simp -dsimp [b_set_right, set_rt ha, set_par e1]
    refine k _ ?_ ?_ fun d h1 h2 => ?_
    · rw [H.set_ne (Ne.symm hab), hs_self]; rfl
    · refine RepT.reroot (q := q) (h := h) (t := .node b l o p r) ⟨tot, e, es, hl, hr⟩ hd (fun b' tot' p' l' r' e1 e2 => ?_) fun d hm hne => ?_
      · cases e1
        rw [e] at e2
        rw [hs_self]
        simp -dsimp only [nd, Option.some.injEq, O.inst.injEq, List.cons.injEq, Prod.mk.injEq, V.int.injEq] at e2 ⊢
        simp_all -dsimp
      · rw [H.set_ne (by intro z; subst z; exact hne rfl), H.set_ne (by intro z; subst z; exact hn hm)]
    · rw [H.set_ne (by intro z; subst z; exact h2 (by simp -dsimp [T.ads])), H.set_ne h1]

/-! the tree around a place -/
inductive Fm where
  | L (a : Nat) (o : Int) (p : V) (r : T)
  | R (l : T) (a : Nat) (o : Int) (p : V)
noncomputable def Fm.ad : Fm → Nat
  | .L a _ _ _ => a
  | .R _ a _ _ => a
noncomputable def parOf : List Fm → V
  | [] => .none
  | f :: _ => .ref f.ad
@[simp] theorem ad_L {a : Nat} {o : Int} {p : V} {r : T} : (Fm.L a o p r).ad = a := rfl
@[simp] theorem ad_R {a : Nat} {o : Int} {p : V} {l : T} : (Fm.R l a o p).ad = a := rfl
@[simp] theorem parOf_nil : parOf [] = .none := rfl
@[simp] theorem parOf_cons {f : Fm} {c : List Fm} : parOf (f :: c) = .ref f.ad := rfl
noncomputable def cads : List Fm → List Nat
  | [] => []
  | .L a _ _ r :: c => a :: (r.ads ++ cads c)
  | .R l a _ _ :: c => a :: (l.ads ++ cads c)
noncomputable def plug : List Fm → T → T
  | [], t => t
  | .L a o p r :: c, t => plug c (.node a t o p r)
  | .R l a o p :: c, t => plug c (.node a l o p t)
noncomputable def rowsL : List Fm → List Row
  | [] => []
  | .L _ _ _ _ :: c => rowsL c
  | .R l a o p :: c => rowsL c ++ (l.rows ++ [(a, o, p)])
noncomputable def rowsR : List Fm → List Row
  | [] => []
  | .L a o p r :: c => (a, o, p) :: (r.rows ++ rowsR c)
  | .R _ _ _ _ :: c => rowsR c
theorem plug_rows : ∀ (c : List Fm) (t : T), (plug c t).rows = rowsL c ++ t.rows ++ rowsR c
  | [], t => by simp -dsimp [plug, rowsL, rowsR]
  | .L a o p r :: c, t => by simp -dsimp [plug, rowsL, rowsR, plug_rows c, T.rows]
  | .R l a o p :: c, t => by simp -dsimp [plug, rowsL, rowsR, plug_rows c, T.rows]
theorem plug_app : ∀ (c d : List Fm) (t : T), plug (c ++ d) t = plug d (plug c t)
  | [], _, _ => rfl
  | .L _ _ _ _ :: c, d, t => plug_app c d _
  | .R _ _ _ _ :: c, d, t => plug_app c d _
theorem cads_app : ∀ (c d : List Fm), cads (c ++ d) = cads c ++ cads d
  | [], _ => rfl
  | .L _ _ _ _ :: c, d => by simp -dsimp [cads, cads_app c d]
  | .R _ _ _ _ :: c, d => by simp -dsimp [cads, cads_app c d]
theorem cads_perm : ∀ (c : List Fm) (t : T), (plug c t).ads.Perm (cads c ++ t.ads)
  | [], t => by simp -dsimp [plug, cads]
  | .L a o p r :: c, t => (cads_perm c _).trans (by
      simp -dsimp only [cads, T.ads]
      refine List.perm_iff_count.mpr fun x => ?_
      simp -dsimp only [List.count_append, List.count_cons]
      lia)
  | .R l a o p :: c, t => (cads_perm c _).trans (by
      simp -dsimp only [cads, T.ads]
      refine List.perm_iff_count.mpr fun x => ?_
      simp -dsimp only [List.count_append, List.count_cons]
      lia)

noncomputable def RepC (h : H) (tr : Nat) : List Fm → V → Int → Prop
  | [], v, _ => h tr = some (tr0 v)
  | .L a o p r :: c, v, s => ∃ tot, h a = some (nd tot p v r.val (parOf c)) ∧ tot = s + o + r.sum ∧ RepT h (.ref a) r ∧ RepC h tr c (.ref a) tot
  | .R l a o p :: c, v, s => ∃ tot, h a = some (nd tot p l.val v (parOf c)) ∧ tot = l.sum + o + s ∧ RepT h (.ref a) l ∧ RepC h tr c (.ref a) tot
theorem RepC.frame {h h' : H} {tr : Nat} : ∀ {c : List Fm} {v : V} {s : Int}, RepC h tr c v s → (∀ d ∈ cads c, h' d = h d) → h' tr = h tr → RepC h' tr c v s
  | [], v, _, e, _, k => by show h' tr = _; rw [k]; exact e
  | .L a o p r :: c, v, s, ⟨tot, e, es, hr, hc⟩, k, kt => ⟨tot, by rw [k a (by simp -dsimp [cads])]; exact e, es, hr.frame fun d hd => k d (by simp -dsimp [cads, hd]), hc.frame (fun d hd => k d (by simp -dsimp [cads, hd])) kt⟩
  | .R l a o p :: c, v, s, ⟨tot, e, es, hr, hc⟩, k, kt => ⟨tot, by rw [k a (by simp -dsimp [cads])]; exact e, es, hr.frame fun d hd => k d (by simp -dsimp [cads, hd]), hc.frame (fun d hd => k d (by simp -dsimp [cads, hd])) kt⟩
theorem RepC.isIn {h : H} {tr : Nat} : ∀ {c : List Fm} {v : V} {s : Int}, RepC h tr c v s → ∀ d ∈ cads c, isIn h d
  | [], _, _, _, _, hd => by cases hd
  | .L a o p r :: c, v, s, ⟨tot, e, es, hr, hc⟩, d, hd => by
    simp -dsimp only [cads, List.mem_cons, List.mem_append] at hd
    rcases hd with rfl | hd | hd
    · exact isIn_nd e
    · exact hr.isIn d hd
    · exact hc.isIn d hd
  | .R l a o p :: c, v, s, ⟨tot, e, es, hr, hc⟩, d, hd => by
    simp -dsimp only [cads, List.mem_cons, List.mem_append] at hd
    rcases hd with rfl | hd | hd
    · exact isIn_nd e
    · exact hr.isIn d hd
    · exact hc.isIn d hd
theorem RepC.tree {h : H} {tr : Nat} : ∀ {c : List Fm} {v : V} {s : Int}, RepC h tr c v s → ∃ v, h tr = some (tr0 v)
  | [], v, _, e => ⟨v, e⟩
  | .L _ _ _ _ :: _, _, _, ⟨_, _, _, _, hc⟩ => hc.tree
  | .R _ _ _ _ :: _, _, _, ⟨_, _, _, _, hc⟩ => hc.tree
/-- no node is the tree -/
theorem nd_ne {h : H} {tr a : Nat} {v : V} {tot : Int} {p l r par : V} (e : h tr = some (tr0 v)) (ea : h a = some (nd tot p l r par)) : a ≠ tr := by
  intro z; subst z; rw [e] at ea; simp -dsimp [tr0, nd] at ea
theorem RepT.ne_tr {h : H} {tr : Nat} {v : V} (e : h tr = some (tr0 v)) : ∀ {t : T} {par : V}, RepT h par t → tr ∉ t.ads
  | .leaf, _, _ => by simp -dsimp [T.ads]
  | .node a l o p r, _, ⟨tot, ea, _, hl, hr⟩ => by
    have h1 := nd_ne e ea
    have h2 := RepT.ne_tr e hl
    have h3 := RepT.ne_tr e hr
    simp -dsimp only [T.ads, List.mem_append, List.mem_cons]
    rintro (z | z | z)
    · exact h2 z
    · exact h1 z.symm
    · exact h3 z
theorem RepC.ne_tr {h : H} {tr : Nat} {v0 : V} (e : h tr = some (tr0 v0)) : ∀ {c : List Fm} {v : V} {s : Int}, RepC h tr c v s → tr ∉ cads c
  | [], _, _, _ => by simp -dsimp [cads]
  | .L a o p r :: c, _, _, ⟨tot, ea, _, hr, hc⟩ => by
    have h1 := nd_ne e ea
    have h2 := RepT.ne_tr e hr
    have h3 := RepC.ne_tr e hc
    simp -dsimp only [cads, List.mem_append, List.mem_cons]
    rintro (z | z | z)
    · exact h1 z.symm
    · exact h2 z
    · exact h3 z
  | .R l a o p :: c, _, _, ⟨tot, ea, _, hr, hc⟩ => by
    have h1 := nd_ne e ea
    have h2 := RepT.ne_tr e hr
    have h3 := RepC.ne_tr e hc
    simp -dsimp only [cads, List.mem_append, List.mem_cons]
    rintro (z | z | z)
    · exact h1 z.symm
    · exact h2 z
    · exact h3 z
end Mine

namespace Mine
open PySem

theorem reroot_self {h : H} {b : Nat} {tot : Int} {p l r q q' : V} {l' r' : T} {o : Int} {pp : V} (ht : RepT h q (.node b l' o pp r')) (e : h b = some (nd tot p l r q)) (hd : (T.node b l' o pp r').ads.Nodup) :
    RepT (h.set b (nd tot p l r q')) q' (.node b l' o pp r') := by
  refine RepT.reroot ht hd (fun b' tot' p' l' r' e1 e2 => ?_) fun d hm hne => H.set_ne (by intro z; subst z; exact hne rfl)
  cases e1
  rw [e] at e2
  rw [hs_self]
  simp -dsimp only [nd, Option.some.injEq, O.inst.injEq, List.cons.injEq, Prod.mk.injEq, V.int.injEq] at e2 ⊢
  simp_all -dsimp

theorem put_in_stead_spec {n tr a : Nat} {c : List Fm} {t : T} {h : H} {s ta : Int} {pa la ra q : V} {Q : V → H → Prop} (hc : RepC h tr c (.ref a) s) (ha : h a = some (nd ta pa la ra (parOf c))) (ht : RepT h q t)
    (hd : (cads c).Nodup) (hd2 : t.ads.Nodup) (hdis : ∀ d ∈ cads c, d ∉ t.ads) (hac : a ∉ cads c) (hat : a ∉ t.ads)
    (k : ∀ h', RepC h' tr c t.val s → RepT h' (parOf c) t → (∀ d, d ≠ tr → d ∉ cads c → d ∉ t.ads → h' d = h d) → Q .none h') : CC (n + 1) 3 [.ref tr, .ref a, t.val] h Q := by
  refine callI (fd := ⟨[58, 59, 60], b_put_in_stead⟩) rfl rfl ?_
  obtain ⟨v0, etr⟩ := hc.tree
  have htr := RepT.ne_tr etr ht
  -- behind the first two statements
  have key : ∀ h1 : H, RepT h1 (parOf c) t → (∀ d, d ∉ t.ads → h1 d = h d) →
      vB (CC n) iniT (.cons (.ite (.cmp .is (.var 53) .none) (.cons (.setAttr (.var 58) 57 (.var 60)) .nil) (.cons (.ite (.cmp .is (.attr (.var 53) 55) (.var 59)) (.cons (.setAttr (.var 53) 55 (.var 60)) .nil) (.cons (.setAttr (.var 53) 54 (.var 60)) .nil)) .nil)) .nil)
        ((R.empty.setAll [58, 59, 60] [.ref tr, .ref a, t.val]).set 53 (parOf c)) h1 (fun _ h => Q .none h) Q := by
    intro h1 ht1 k1
    have hc1 : RepC h1 tr c (.ref a) s := hc.frame (fun d hm => k1 d (hdis d hm)) (k1 tr htr)
    have ha1 : isIn h1 a := by rw [isIn, k1 a hat]; exact isIn_nd ha
    have etr1 : h1 tr = some (tr0 v0) := by rw [k1 tr htr]; exact etr
    cases c with
    | nil =>
      have e : h1 tr = some (tr0 (.ref a)) := hc1
      simp -dsimp [parOf, set_root e]
      refine k _ ?_ ?_ fun d x1 x2 x3 => ?_
      · exact hs_self
      · exact ht1.frame fun d hm => H.set_ne (by intro z; subst z; exact htr hm)
      · rw [H.set_ne x1]; exact k1 d x3
    | cons f c =>
      cases f with
      | L b o p r =>
        refine e1_4 hc1 fun tot e es hr hc2 => ?_
        clear hc1
        have n1 := RepC.ne_tr etr1 hc2
        simp -dsimp [parOf, Fm.ad, get_lf e, set_lf e]
        simp -dsimp only [cads, List.mem_cons, List.mem_append, List.nodup_cons, List.nodup_append] at *
        refine k _ ?_ ?_ fun d x1 x2 x3 => ?_
        · refine ⟨tot, hs_self, es, hr.frame fun d hm => H.set_ne (by grind), hc2.frame (fun d hm => H.set_ne (by grind)) (H.set_ne (Ne.symm (nd_ne etr1 e)))⟩
        · exact ht1.frame fun d hm => H.set_ne (by grind)
        · rw [H.set_ne (by grind)]; exact k1 d x3
      | R l b o p =>
        refine e1_4 hc1 fun tot e es hl hc2 => ?_
        clear hc1
        have n1 := RepC.ne_tr etr1 hc2
        have hne : pyIs h1 l.val (.ref a) = some false := by
          cases l with
          | leaf => rfl
          | node x _ _ _ _ => exact is_ne (by intro z; subst z; exact hac (by simp -dsimp [cads, T.ads])) (hl.isIn x (by simp -dsimp [T.ads])) ha1
        simp -dsimp [parOf, Fm.ad, get_lf e, set_rt e, hne]
        simp -dsimp only [cads, List.mem_cons, List.mem_append, List.nodup_cons, List.nodup_append] at *
        refine k _ ?_ ?_ fun d x1 x2 x3 => ?_
        · refine ⟨tot, hs_self, es, hl.frame fun d hm => H.set_ne (by grind), hc2.frame (fun d hm => H.set_ne (by grind)) (H.set_ne (Ne.symm (nd_ne etr1 e)))⟩
        · exact ht1.frame fun d hm => H.set_ne (by grind)
        · rw [H.set_ne (by grind)]; exact k1 d x3
  cases t with
  | leaf =>
    have := key h trivial fun _ _ => rfl
    simp -dsimp [b_put_in_stead, get_par ha] at this ⊢
    exact this
  | node b l o p r =>
    refine e1_4 ht fun tot e es hl hr => ?_
    clear ht
    have := key (h.set b (nd tot p l.val r.val (parOf c))) (reroot_self ⟨tot, e, es, hl, hr⟩ e hd2) fun d hm => H.set_ne (by intro z; subst z; exact hm (by simp -dsimp [T.ads]))
    simp -dsimp [b_put_in_stead, get_par ha, set_par e] at this ⊢
    exact this

theorem rotate_right_spec {n tr a b : Nat} {c : List Fm} {x y z : T} {ob oa : Int} {pb pa : V} {h : H} {s : Int} {Q : V → H → Prop} (hc : RepC h tr c (.ref a) s) (ht : RepT h (parOf c) (.node a (.node b x ob pb y) oa pa z))
    (hd : (cads c ++ (T.node a (.node b x ob pb y) oa pa z).ads).Nodup)
    (k : ∀ h', RepC h' tr c (.ref b) s → RepT h' (parOf c) (.node b x ob pb (.node a y oa pa z)) → (∀ d, d ≠ tr → d ∉ cads c → d ∉ (T.node a (.node b x ob pb y) oa pa z).ads → h' d = h d) → Q (.ref b) h') : CC (n + 2) 6 [.ref tr, .ref a] h Q := by
  refine callI (fd := ⟨[58, 59], b_rotate_right⟩) rfl rfl ?_
  obtain ⟨v0, etr⟩ := hc.tree
  have ntT := RepT.ne_tr etr ht
  have ntC := RepC.ne_tr etr hc
  refine e1_4 ht fun ta ea esa htb hz => ?_
  clear ht
  have htb' := htb
  refine e1_4 htb fun tb eb esb hx hy => ?_
  clear htb
  simp -dsimp only [T.ads, List.nodup_append, List.nodup_cons, List.mem_append, List.mem_cons] at hd ntT
  simp -dsimp [b_rotate_right, get_lf ea]
  refine put_in_stead_spec (t := .node b x ob pb y) hc ea htb' hd.1 ?_ ?_ ?_ ?_ fun h1 hc1 ht1 f1 => ?_
  · simp -dsimp only [T.ads, List.nodup_append, List.nodup_cons, List.mem_append, List.mem_cons]; grind
  · simp -dsimp only [T.ads, List.mem_append, List.mem_cons]; grind
  · grind
  · simp -dsimp only [T.ads, List.mem_append, List.mem_cons]; grind
  simp -dsimp only [T.ads, List.mem_append, List.mem_cons] at f1
  have ea1 : h1 a = some (nd ta pa (.ref b) z.val (parOf c)) := by rw [f1 a (by grind) (by grind) (by grind)]; exact ea
  have hz1 : RepT h1 (.ref a) z := hz.frame fun d hm => f1 d (by grind) (by grind) (by grind)
  refine e1_4 ht1 fun tb1 eb1 esb1 hx1 hy1 => ?_
  clear ht1
  simp -dsimp [get_tot ea1, get_tot eb1, get_rt eb1]
  refine total_spec hy1 ?_
  simp -dsimp [set_tot ea1]
  have hab : b ≠ a := by grind
  have eb2 : (h1.set a (nd (ta - tb1 + y.sum) pa (.ref b) z.val (parOf c))) b = some (nd tb1 pb x.val y.val (parOf c)) := by rw [H.set_ne hab]; exact eb1
  simp -dsimp [get_rt eb2]
  refine set_left_spec (t := y) hs_self (hy1.frame fun d hm => H.set_ne (by grind)) (by grind) (by grind) fun h3 ea3 hy3 f3 => ?_
  have eb3 : h3 b = some (nd tb1 pb x.val y.val (parOf c)) := by rw [f3 b hab (by grind)]; exact eb2
  simp -dsimp
  refine set_right_spec (t := .node a y oa pa z) eb3 (q := parOf c) ⟨_, ea3, by simp -dsimp only [T.sum] at esb1 esa ⊢; lia, hy3, hz1.frame fun d hm => ?_⟩ ?_ ?_ fun h4 eb4 ht4 f4 => ?_
  · rw [f3 d (by grind) (by grind), H.set_ne (by grind)]
  · simp -dsimp only [T.ads, List.nodup_append, List.nodup_cons, List.mem_append, List.mem_cons]; grind
  · simp -dsimp only [T.ads, List.mem_append, List.mem_cons]; grind
  simp -dsimp only [T.ads, List.mem_append, List.mem_cons] at f4
  simp -dsimp [set_tot eb4]
  refine k _ ?_ ⟨ta, hs_self, ?_, ?_, ?_⟩ fun d n1 n2 n3 => ?_
  · refine hc1.frame (fun d hm => ?_) ?_
    · rw [H.set_ne (by grind), f4 d (by grind) (by grind), f3 d (by grind) (by grind), H.set_ne (by grind)]
    · rw [H.set_ne (by grind), f4 tr (by grind) (by grind), f3 tr (by grind) (by grind), H.set_ne (by grind)]
  · simp -dsimp only [T.sum] at esa ⊢; lia
  · exact hx1.frame fun d hm => by rw [H.set_ne (by grind), f4 d (by grind) (by grind), f3 d (by grind) (by grind), H.set_ne (by grind)]
  · exact ht4.frame fun d hm => H.set_ne (by simp -dsimp only [T.ads, List.mem_append, List.mem_cons] at hm; grind)
  · simp -dsimp only [T.ads, List.mem_append, List.mem_cons] at n3
    rw [H.set_ne (by grind), f4 d (by grind) (by grind), f3 d (by grind) (by grind), H.set_ne (by grind), f1 d n1 n2 (by grind)]

theorem rotate_left_spec {n tr a b : Nat} {c : List Fm} {x y z : T} {ob oa : Int} {pb pa : V} {h : H} {s : Int} {Q : V → H → Prop} (hc : RepC h tr c (.ref a) s) (ht : RepT h (parOf c) (.node a z oa pa (.node b y ob pb x)))
    (hd : (cads c ++ (T.node a z oa pa (.node b y ob pb x)).ads).Nodup)
    (k : ∀ h', RepC h' tr c (.ref b) s → RepT h' (parOf c) (.node b (.node a z oa pa y) ob pb x) → (∀ d, d ≠ tr → d ∉ cads c → d ∉ (T.node a z oa pa (.node b y ob pb x)).ads → h' d = h d) → Q (.ref b) h') : CC (n + 2) 7 [.ref tr, .ref a] h Q := by
  refine callI (fd := ⟨[58, 59], b_rotate_left⟩) rfl rfl ?_
  obtain ⟨v0, etr⟩ := hc.tree
  have ntT := RepT.ne_tr etr ht
  have ntC := RepC.ne_tr etr hc
  refine e1_4 ht fun ta ea esa hz htb => ?_
  clear ht
  have htb' := htb
  refine e1_4 htb fun tb eb esb hy hx => ?_
  clear htb
  simp -dsimp only [T.ads, List.nodup_append, List.nodup_cons, List.mem_append, List.mem_cons] at hd ntT
  simp -dsimp [b_rotate_left, get_rt ea]
  refine put_in_stead_spec (t := .node b y ob pb x) hc ea htb' hd.1 ?_ ?_ ?_ ?_ fun h1 hc1 ht1 f1 => ?_
  · simp -dsimp only [T.ads, List.nodup_append, List.nodup_cons, List.mem_append, List.mem_cons]; grind
  · simp -dsimp only [T.ads, List.mem_append, List.mem_cons]; grind
  · grind
  · simp -dsimp only [T.ads, List.mem_append, List.mem_cons]; grind
  simp -dsimp only [T.ads, List.mem_append, List.mem_cons] at f1
  have ea1 : h1 a = some (nd ta pa z.val (.ref b) (parOf c)) := by rw [f1 a (by grind) (by grind) (by grind)]; exact ea
  have hz1 : RepT h1 (.ref a) z := hz.frame fun d hm => f1 d (by grind) (by grind) (by grind)
  refine e1_4 ht1 fun tb1 eb1 esb1 hy1 hx1 => ?_
  clear ht1
  simp -dsimp [get_tot ea1, get_tot eb1, get_lf eb1]
  refine total_spec hy1 ?_
  simp -dsimp [set_tot ea1]
  have hab : b ≠ a := by grind
  have eb2 : (h1.set a (nd (ta - tb1 + y.sum) pa z.val (.ref b) (parOf c))) b = some (nd tb1 pb y.val x.val (parOf c)) := by rw [H.set_ne hab]; exact eb1
  simp -dsimp [get_lf eb2]
  refine set_right_spec (t := y) hs_self (hy1.frame fun d hm => H.set_ne (by grind)) (by grind) (by grind) fun h3 ea3 hy3 f3 => ?_
  have eb3 : h3 b = some (nd tb1 pb y.val x.val (parOf c)) := by rw [f3 b hab (by grind)]; exact eb2
  simp -dsimp
  refine set_left_spec (t := .node a z oa pa y) eb3 (q := parOf c) ⟨_, ea3, by simp -dsimp only [T.sum] at esb1 esa ⊢; lia, hz1.frame fun d hm => ?_, hy3⟩ ?_ ?_ fun h4 eb4 ht4 f4 => ?_
  · rw [f3 d (by grind) (by grind), H.set_ne (by grind)]
  · simp -dsimp only [T.ads, List.nodup_append, List.nodup_cons, List.mem_append, List.mem_cons]; grind
  · simp -dsimp only [T.ads, List.mem_append, List.mem_cons]; grind
  simp -dsimp only [T.ads, List.mem_append, List.mem_cons] at f4
  simp -dsimp [set_tot eb4]
  refine k _ ?_ ⟨ta, hs_self, ?_, ?_, ?_⟩ fun d n1 n2 n3 => ?_
  · refine hc1.frame (fun d hm => ?_) ?_
    · rw [H.set_ne (by grind), f4 d (by grind) (by grind), f3 d (by grind) (by grind), H.set_ne (by grind)]
    · rw [H.set_ne (by grind), f4 tr (by grind) (by grind), f3 tr (by grind) (by grind), H.set_ne (by grind)]
  · simp -dsimp only [T.sum] at esa ⊢; lia
  · exact ht4.frame fun d hm => H.set_ne (by simp -dsimp only [T.ads, List.mem_append, List.mem_cons] at hm; grind)
  · exact hx1.frame fun d hm => by rw [H.set_ne (by grind), f4 d (by grind) (by grind), f3 d (by grind) (by grind), H.set_ne (by grind)]
  · simp -dsimp only [T.ads, List.mem_append, List.mem_cons] at n3
    rw [H.set_ne (by grind), f4 d (by grind) (by grind), f3 d (by grind) (by grind), H.set_ne (by grind), f1 d n1 n2 (by grind)]
end Mine

namespace Mine
open PySem

noncomputable def T.pos (t : T) : Prop := ∀ x ∈ t.rows, 0 < x.2.1
theorem T.pos_l {a : Nat} {l r : T} {o : Int} {p : V} (h : (T.node a l o p r).pos) : l.pos := fun x hx => h x (by simp -dsimp [T.rows, hx])
theorem T.pos_r {a : Nat} {l r : T} {o : Int} {p : V} (h : (T.node a l o p r).pos) : r.pos := fun x hx => h x (by simp -dsimp [T.rows, hx])
theorem T.pos_o {a : Nat} {l r : T} {o : Int} {p : V} (h : (T.node a l o p r).pos) : 0 < o := h (a, o, p) (by simp -dsimp [T.rows])
theorem T.sum_nn : ∀ {t : T}, t.pos → 0 ≤ t.sum
  | .leaf, _ => Int.le_refl _
  | .node a l o p r, h => by
    have := T.sum_nn (T.pos_l h)
    have := T.sum_nn (T.pos_r h)
    have := T.pos_o h
    simp -dsimp only [T.sum]; lia
theorem T.pos_rows {t t' : T} (h : t.pos) (e : t'.rows = t.rows) : t'.pos := by unfold T.pos; rw [e]; exact h
theorem T.sum_of {t t' : T} (e : t'.rows = t.rows) : t'.sum = t.sum := by rw [T.sum_rows, T.sum_rows, e]
theorem T.ads_of {t t' : T} (e : t'.rows = t.rows) : t'.ads = t.ads := by rw [T.ads_rows, T.ads_rows, e]

theorem right_helps_spec {n a : Nat} {l r : T} {o : Int} {p : V} {h : H} {par : V} {Q : V → H → Prop} (ht : RepT h par (.node a l o p r)) (hp : (T.node a l o p r).pos)
    (k : ∀ b : Bool, (b = true → ∃ e x oe pe y, l = .node e x oe pe y ∧ ((x.sum - (y.sum + o + r.sum)).natAbs : Int) < l.sum - r.sum) → Q (.bool b) h) : CC (n + 2) 8 [.ref a] h Q := by
  refine callI (fd := ⟨[59], b_right_turn_helps⟩) rfl rfl ?_
  refine e1_4 ht fun tot e es hl hr => ?_
  clear ht
  simp -dsimp only [b_right_turn_helps]
  simp -dsimp only [b_cons, s_assign, x_attr, x_var]
  refine ned_at (x := .ref a) rfl ?_
  refine ned_at (get_lf e) ?_
  simp -dsimp
  refine total_spec hl ?_
  simp -dsimp [get_rt e]
  refine total_spec hr ?_
  simp -dsimp
  by_cases hle : l.sum - r.sum ≤ 0
  · simp -dsimp [hle]
    exact k false fun z => nomatch z
  · simp -dsimp [hle]
    cases l with
    | leaf => have := T.sum_nn (T.pos_r hp); simp -dsimp only [T.sum] at hle; lia
    | node f x of pf y =>
      refine e1_4 hl fun tf ef esf hx hy => ?_
      clear hl
      simp -dsimp [get_lf ef]
      refine total_spec hx ?_
      simp -dsimp [get_tot e, get_tot ef, get_rt ef]
      refine total_spec hy ?_
      simp -dsimp
      refine k _ fun z => ⟨f, x, of, pf, y, rfl, ?_⟩
      simp -dsimp only [decide_eq_true_eq] at z
      simp -dsimp only [T.sum] at *
      lia
theorem left_helps_spec {n a : Nat} {l r : T} {o : Int} {p : V} {h : H} {par : V} {Q : V → H → Prop} (ht : RepT h par (.node a l o p r)) (hp : (T.node a l o p r).pos)
    (k : ∀ b : Bool, (b = true → ∃ e x oe pe y, r = .node e y oe pe x ∧ ((x.sum - (y.sum + o + l.sum)).natAbs : Int) < r.sum - l.sum) → Q (.bool b) h) : CC (n + 2) 9 [.ref a] h Q := by
  refine callI (fd := ⟨[59], b_left_turn_helps⟩) rfl rfl ?_
  refine e1_4 ht fun tot e es hl hr => ?_
  clear ht
  simp -dsimp only [b_left_turn_helps]
  simp -dsimp only [b_cons, s_assign, x_attr, x_var]
  refine ned_at (x := .ref a) rfl ?_
  refine ned_at (get_rt e) ?_
  simp -dsimp
  refine total_spec hr ?_
  simp -dsimp [get_lf e]
  refine total_spec hl ?_
  simp -dsimp
  by_cases hle : r.sum - l.sum ≤ 0
  · simp -dsimp [hle]
    exact k false fun z => nomatch z
  · simp -dsimp [hle]
    cases r with
    | leaf => have := T.sum_nn (T.pos_l hp); simp -dsimp only [T.sum] at hle; lia
    | node f y of pf x =>
      refine e1_4 hr fun tf ef esf hy hx => ?_
      clear hr
      simp -dsimp [get_rt ef]
      refine total_spec hx ?_
      simp -dsimp [get_tot e, get_tot ef, get_lf ef]
      refine total_spec hy ?_
      simp -dsimp
      refine k _ fun z => ⟨f, x, of, pf, y, rfl, ?_⟩
      simp -dsimp only [decide_eq_true_eq] at z
      simp -dsimp only [T.sum] at *
      lia

/-- one frame around a tree -/
noncomputable def fill : Fm → T → T
  | .L a o p r, t => .node a t o p r
  | .R l a o p, t => .node a l o p t
theorem plug_cons (f : Fm) (c : List Fm) (t : T) : plug (f :: c) t = plug c (fill f t) := by cases f <;> rfl
theorem fill_val (f : Fm) (t : T) : (fill f t).val = .ref f.ad := by cases f <;> rfl
theorem fill_perm (f : Fm) (c : List Fm) (t : T) : (cads (f :: c) ++ t.ads).Perm (cads c ++ (fill f t).ads) := by
  cases f <;>
  · simp -dsimp only [cads, T.ads, fill]
    refine List.perm_iff_count.mpr fun x => ?_
    simp -dsimp only [List.count_append, List.count_cons]
    lia
theorem down {h : H} {tr : Nat} {f : Fm} {c : List Fm} {t : T} (hc : RepC h tr c (.ref f.ad) (fill f t).sum) (ht : RepT h (parOf c) (fill f t)) : RepC h tr (f :: c) t.val t.sum ∧ RepT h (.ref f.ad) t := by
  cases f with
  | L a o p r =>
    refine e1_4 ht fun tot e es hl hr => ?_
    clear ht
    exact ⟨⟨tot, e, es, hr, by rw [es]; exact hc⟩, hl⟩
  | R l a o p =>
    refine e1_4 ht fun tot e es hl hr => ?_
    clear ht
    exact ⟨⟨tot, e, es, hl, by rw [es]; exact hc⟩, hr⟩
theorem up {h : H} {tr : Nat} {f : Fm} {c : List Fm} {t : T} (hc : RepC h tr (f :: c) t.val t.sum) (ht : RepT h (.ref f.ad) t) : RepC h tr c (.ref f.ad) (fill f t).sum ∧ RepT h (parOf c) (fill f t) := by
  cases f with
  | L a o p r =>
    obtain ⟨tot, e, es, hr, hc⟩ := hc
    exact ⟨by subst es; exact hc, tot, e, es, ht, hr⟩
  | R l a o p =>
    obtain ⟨tot, e, es, hl, hc⟩ := hc
    exact ⟨by subst es; exact hc, tot, e, es, hl, ht⟩

/-- the root's value, seen from the hole -/
noncomputable def tv : List Fm → V → V
  | [], v => v
  | f :: c, _ => tv c (.ref f.ad)
theorem ad_cads (f : Fm) (c : List Fm) : f.ad ∈ cads (f :: c) := by cases f <;> simp -dsimp [cads, Fm.ad]
theorem cads_sub (f : Fm) (c : List Fm) {d : Nat} (h : d ∈ cads c) : d ∈ cads (f :: c) := by cases f <;> simp -dsimp [cads, h]
theorem tv_mem : ∀ (c : List Fm) (f : Fm), ∃ e ∈ cads (f :: c), ∀ v, tv (f :: c) v = .ref e
  | [], f => ⟨f.ad, ad_cads f [], fun _ => rfl⟩
  | g :: c, f => by
    refine e1_2 (tv_mem c g) fun e h1 h2 => ?_
    exact ⟨e, cads_sub f _ h1, fun v => h2 (.ref f.ad)⟩
/-- a tree at its place -/
structure Z (h : H) (tr : Nat) (c : List Fm) (t : T) : Prop where
  rc : RepC h tr c t.val t.sum
  rt : RepT h (parOf c) t
  nd : (cads c ++ t.ads).Nodup
theorem Z.down {h : H} {tr : Nat} {f : Fm} {c : List Fm} {t : T} (z : Z h tr c (fill f t)) : Z h tr (f :: c) t := by
  have a := z.rc
  rw [fill_val] at a
  obtain ⟨b, d⟩ := Mine.down a z.rt
  exact ⟨b, d, (fill_perm f c t).nodup_iff.mpr z.nd⟩
theorem Z.up {h : H} {tr : Nat} {f : Fm} {c : List Fm} {t : T} (z : Z h tr (f :: c) t) : Z h tr c (fill f t) := by
  obtain ⟨b, d⟩ := Mine.up z.rc z.rt
  exact ⟨by rw [fill_val]; exact b, d, (fill_perm f c t).nodup_iff.mp z.nd⟩
theorem Z.frame {h h' : H} {tr : Nat} {c : List Fm} {t : T} (z : Z h tr c t) (k : ∀ d, d = tr ∨ d ∈ cads c ∨ d ∈ t.ads → h' d = h d) : Z h' tr c t :=
  ⟨z.rc.frame (fun d hd => k d (.inr (.inl hd))) (k tr (.inl rfl)), z.rt.frame fun d hd => k d (.inr (.inr hd)), z.nd⟩
/-- an object of another kind is none of the tree's -/
theorem Z.off {h : H} {tr : Nat} {c : List Fm} {t : T} (z : Z h tr c t) {d : Nat} (hd : ¬ isIn h d) : d ≠ tr ∧ d ∉ cads c ∧ d ∉ t.ads := by
  refine ⟨?_, fun q => hd (z.rc.isIn d q), fun q => hd (z.rt.isIn d q)⟩
  rintro rfl
  obtain ⟨v, e⟩ := z.rc.tree
  exact hd ⟨_, _, e⟩
theorem notIn_list {h : H} {d : Nat} {xs : List V} (e : h d = some (.list xs)) : ¬ isIn h d := fun ⟨_, _, q⟩ => by rw [e] at q; cases q
theorem notIn_tup {h : H} {d : Nat} {xs : List V} (e : h d = some (.tup xs)) : ¬ isIn h d := fun ⟨_, _, q⟩ => by rw [e] at q; cases q
theorem notIn_none {h : H} {d : Nat} (e : h d = none) : ¬ isIn h d := fun ⟨_, _, q⟩ => by rw [e] at q; cases q
theorem Z.setOff {h : H} {tr : Nat} {c : List Fm} {t : T} (z : Z h tr c t) {w : Nat} (hw : ¬ isIn h w) (o : O) : Z (h.set w o) tr c t := by
  have q := z.off hw
  refine z.frame fun d hd => H.set_ne ?_
  rintro rfl
  rcases hd with x | x | x
  · exact q.1 x
  · exact q.2.1 x
  · exact q.2.2 x
end Mine

namespace Mine
open PySem

noncomputable def st_t : Ex := .cmp .gt (.len (.var 64)) (.int 0)
noncomputable def st_tl : Sts := (.cons (.assign 63 (.ite (.cmp .is (.var 65) (.var 63)) (.var 61) (.var 63)))
      (.cons (.expr (.extend 64 (.list (.cons (.var 61) (.cons (.var 65) .nil)))))
      .nil))
noncomputable def st_b : Sts := (.cons (.assign 65 (.pop 64))
    (.cons (.ite (.call 8 (.cons (.var 65) .nil)) (.cons (.assign 61 (.call 6 (.cons (.var 58) (.cons (.var 65) .nil)))) st_tl) (.cons (.ite (.call 9 (.cons (.var 65) .nil)) (.cons (.assign 61 (.call 7 (.cons (.var 58) (.cons (.var 65) .nil)))) st_tl) .nil)
      .nil))
    .nil))
noncomputable def T.skew : T → Nat
  | .leaf => 0
  | .node _ l _ _ r => (l.sum - r.sum).natAbs

theorem settle_claim {n tr w : Nat} {c : List Fm} {Qn : R → H → Prop} {Qr : V → H → Prop} (I : R → H → Prop) (hI : ∀ ρ h, vT (CC (n + 2)) iniT st_t ρ h (fun b h => if b = true then vB (CC (n + 2)) iniT st_b ρ h I Qr else Qn ρ h) → I ρ h) :
    ∀ (N D : Nat) (t : T) (c' : List Fm) (W : List V) (ρ : R) (h : H), t.sum.toNat = N → t.skew = D → t.pos → t ≠ .leaf → ρ 58 = some (.ref tr) → ρ 64 = some (.ref w) → ρ 63 = some (tv c' t.val) →
      h w = some (.list (W ++ [t.val])) → Z h tr (c' ++ c) t → W.length + 2 * t.sum.toNat + 2 < lim →
      (∀ ρ' h' t', ρ' 58 = some (.ref tr) → ρ' 64 = some (.ref w) → ρ' 63 = some (tv c' t'.val) → h' w = some (.list W) → Z h' tr (c' ++ c) t' → t'.rows = t.rows → t' ≠ .leaf →
        (∀ d, h d ≠ none → d ≠ w → d ≠ tr → d ∉ cads (c' ++ c) → d ∉ t.ads → h' d = h d) → I ρ' h') → I ρ h := by
  intro N
  induction N using Nat.strongRecOn with
  | _ N ihN =>
  intro D
  induction D using Nat.strongRecOn with
  | _ D ihD =>
  intro t c' W ρ h hN hD hp hl r58 r64 r63 hw z hlen k
  cases t with
  | leaf => exact absurd rfl hl
  | node a l o p r =>
  -- behind a turn
  have after : ∀ (f : Fm) (th : T) (h2 : H) (ρ2 : R), th.val = .ref a → Z h2 tr (c' ++ c) (fill f th) → (fill f th).rows = (T.node a l o p r).rows → th.pos → th.sum < (T.node a l o p r).sum → (∀ th' : T, th'.rows = th.rows → (fill f th').skew < D) →
      h2 w = some (.list (W ++ [.ref f.ad, .ref a])) → ρ2 58 = some (.ref tr) → ρ2 64 = some (.ref w) → ρ2 63 = some (tv c' (.ref f.ad)) →
      (∀ d, h d ≠ none → d ≠ w → d ≠ tr → d ∉ cads (c' ++ c) → d ∉ (T.node a l o p r).ads → h2 d = h d) → I ρ2 h2 := by
    intro f th h2 ρ2 hv z2 hrows hpos hsum hskew hw2 q58 q64 q63 f2
    have hnn := T.sum_nn hpos
    refine ihN th.sum.toNat (by lia) _ th (f :: c') (W ++ [.ref f.ad]) ρ2 h2 rfl rfl hpos (by intro e; subst e; cases hv) q58 q64 (by rw [hv]; exact q63) (by rw [hw2, hv]; simp -dsimp) (show Z h2 tr (f :: (c' ++ c)) th from z2.down)
      (by simp -dsimp only [List.length_append, List.length_cons, List.length_nil]; lia) ?_
    intro ρ3 h3 th' g58 g64 g63 hw3 z3 hr3 hl3 f3
    have z3' : Z h3 tr (c' ++ c) (fill f th') := Z.up (f := f) z3
    have hrows' : (fill f th').rows = (T.node a l o p r).rows := by rw [← hrows]; cases f <;> simp -dsimp [fill, T.rows, hr3]
    have hs := T.sum_of hrows'
    refine ihD _ (hskew th' hr3) (fill f th') c' W ρ3 h3 (by rw [hs]; exact hN) rfl (T.pos_rows hp hrows') (by cases f <;> simp -dsimp [fill]) g58 g64 (by rw [fill_val]; exact g63) (by rw [hw3, fill_val]) z3' (by rw [hs]; exact hlen) ?_
    intro ρ4 h4 t' k58 k64 k63 hw4 z4 hr4 hl4 f4
    refine k ρ4 h4 t' k58 k64 k63 hw4 z4 (hr4.trans hrows') hl4 fun d d1 d2 d3 d4 d5 => ?_
    have e2 := f2 d d1 d2 d3 d4 d5
    have hads := T.ads_of hrows
    have hmem : d ∉ cads (f :: (c' ++ c)) ∧ d ∉ th.ads := by
      have q : d ∉ cads (c' ++ c) ++ (fill f th).ads := by rw [hads]; simp -dsimp only [List.mem_append]; exact fun q => q.elim d4 d5
      rw [← (fill_perm f (c' ++ c) th).mem_iff] at q
      simp -dsimp only [List.mem_append] at q
      exact ⟨fun x => q (.inl x), fun x => q (.inr x)⟩
    have e3 := f3 d (by rw [e2]; exact d1) d2 d3 hmem.1 hmem.2
    rw [f4 d (by rw [e3, e2]; exact d1) d2 d3 d4 (by rw [T.ads_of hrows']; exact d5), e3, e2]
  refine hI ρ h ?_
  have w3 := z.off (notIn_list hw)
  have hll : (W ++ [(T.node a l o p r).val]).length = W.length + 1 := by simp -dsimp
  simp -dsimp only [st_t, t_cmp, x_len, x_var, r64, ned_some, io_list hw, x_int, c_gt]
  refine ⟨by lia, ?_⟩
  rw [if_pos (by rw [hll]; simp -dsimp)]
  -- the first turn
  have z1 : Z (h.set w (.list W)) tr (c' ++ c) (.node a l o p r) := z.setOff (notIn_list hw) _
  simp -dsimp [st_b, r64, la_list hw]
  refine ⟨by lia, right_helps_spec z1.rt hp fun b1 k1 => ?_⟩
  -- behind a rotation: the new top, the waiting
  have rest : ∀ (ρ1 : R) (b : Nat) (h2 : H), b ≠ a → ρ1 58 = some (.ref tr) → ρ1 64 = some (.ref w) → ρ1 63 = some (tv c' (.ref a)) → ρ1 65 = some (.ref a) → ρ1 61 = some (.ref b) → h2 w = some (.list W) →
      isIn h2 a → (∀ d ∈ cads (c' ++ c), isIn h2 d) → b ∉ cads (c' ++ c) → a ∉ cads (c' ++ c) →
      (∀ (ρ2 : R) (cc : Nat), h2 cc = none → cc ≠ w → ρ2 58 = some (.ref tr) → ρ2 64 = some (.ref w) → ρ2 63 = some (tv c' (.ref b)) → I ρ2 ((h2.set cc (.list [.ref b, .ref a])).set w (.list (W ++ [.ref b, .ref a])))) →
      vB (CC (n + 2)) iniT st_tl ρ1 h2 I Qr := by
    intro ρ1 b h2 hba q58 q64 q63 q65 q61 hw2 ha2 hc2 hb hac kk
    have fin : ∀ ρ2 : R, ρ2 58 = some (.ref tr) → ρ2 64 = some (.ref w) → ρ2 63 = some (tv c' (.ref b)) → ρ2 61 = some (.ref b) → ρ2 65 = some (.ref a) →
        vB (CC (n + 2)) iniT (.cons (.expr (.extend 64 (.list (.cons (.var 61) (.cons (.var 65) .nil))))) .nil) ρ2 h2 I Qr := by
      intro ρ2 g58 g64 g63 g61 g65
      simp -dsimp [g64, la_list hw2, g61, g65]
      refine ⟨by unfold lim; lia, fun cc hcc => ?_⟩
      have hne : cc ≠ w := by first | exact ne_new hcc hw2 | exact ne_new' hcc hw2 | exact ne_obj hcc hw2 nofun | exact ne_obj hw2 hcc nofun | (rintro rfl; rw [hw2] at hcc; cases hcc)
      have e1 : (h2.set cc (.list [.ref b, .ref a])) w = some (.list W) := by rw [H.set_ne (Ne.symm hne)]; exact hw2
      simp -dsimp [la_list e1]
      exact ⟨Ne.symm hne, by lia, kk ρ2 cc hcc hne g58 g64 g63⟩
    cases c' with
    | nil =>
      simp -dsimp only [st_tl, b_cons, s_assign, x_ite, t_cmp, x_var, q65, q63, tv, ned_some, c_is, is_self, if_true, q61]
      refine fin _ ?_ ?_ ?_ ?_ ?_ <;> simp -dsimp [q58, q64, q61, q65, tv]
    | cons f c'' =>
      refine e1_2 (tv_mem c'' f) fun e he hv => ?_
      have he' : e ∈ cads ((f :: c'') ++ c) := by rw [cads_app]; exact List.mem_append_left _ he
      have hea : a ≠ e := by rintro rfl; exact hac he'
      simp -dsimp only [st_tl, b_cons, s_assign, x_ite, t_cmp, x_var, q65, q63, hv, ned_some, c_is, is_ne hea ha2 (hc2 e he'), Bool.false_eq_true, if_false]
      refine fin _ ?_ ?_ ?_ ?_ ?_ <;> simp -dsimp [q58, q64, q61, q65, hv]
  have zn := z1.nd
  cases b1 with
  | true =>
    refine e5_2 (k1 rfl) fun e x oe pe y e95 hlt => ?_
    obtain rfl := e95
    simp -dsimp [r58]
    refine rotate_right_spec z1.rc z1.rt z1.nd fun h2 hc2 ht2 f2 => ?_
    have hr2 : (T.node e x oe pe (.node a y o p r)).rows = (T.node a (.node e x oe pe y) o p r).rows := by simp -dsimp [T.rows]
    have z2 : Z h2 tr (c' ++ c) (T.node e x oe pe (.node a y o p r)) := ⟨by rw [T.sum_of hr2]; exact hc2, ht2, by rw [T.ads_of hr2]; exact z1.nd⟩
    have hw2 : h2 w = some (.list W) := by rw [f2 w w3.1 w3.2.1 w3.2.2]; exact hs_self
    simp -dsimp only [T.ads, List.nodup_append, List.nodup_cons, List.mem_append, List.mem_cons] at zn
    have h2a : isIn h2 a := z2.rt.isIn a (by simp -dsimp [T.ads])
    refine rest _ e h2 (by grind) (by simp -dsimp [r58]) (by simp -dsimp [r64]) (by simp -dsimp [r63]) (by simp -dsimp) (by simp -dsimp) hw2 h2a hc2.isIn (by grind) (by grind) fun ρ2 cc hcc hne g58 g64 g63 => ?_
    have z3 := z2.setOff (notIn_none hcc) (.list [.ref e, .ref a])
    have e1 : (h2.set cc (.list [.ref e, .ref a])) w = some (.list W) := by rw [H.set_ne (Ne.symm hne)]; exact hw2
    have hpp := T.pos_rows hp hr2
    have := T.sum_nn (T.pos_l hpp)
    have := T.pos_o hpp
    refine after (.R x e oe pe) (.node a y o p r) _ ρ2 rfl (z3.setOff (notIn_list e1) _) hr2 (T.pos_r hpp) (by rw [← T.sum_of hr2]; simp -dsimp only [T.sum]; lia) (fun th' hth => ?_) hs_self g58 g64 g63 fun d d1 d2 d3 d4 d5 => ?_
    · rw [← hD]
      simp -dsimp only [fill, T.skew, T.sum_of hth, T.sum] at hlt ⊢
      omega
    · have e2 := f2 d d3 d4 d5
      rw [H.set_ne d2] at e2
      rw [H.set_ne d2, H.set_ne (by rintro rfl; rw [hcc] at e2; exact d1 e2.symm)]
      exact e2
  | false =>
    simp -dsimp
    refine left_helps_spec z1.rt hp fun b2 k2 => ?_
    cases b2 with
    | true =>
      refine e5_2 (k2 rfl) fun e x oe pe y e95 hlt => ?_
      obtain rfl := e95
      simp -dsimp [r58]
      refine rotate_left_spec z1.rc z1.rt z1.nd fun h2 hc2 ht2 f2 => ?_
      have hr2 : (T.node e (.node a l o p y) oe pe x).rows = (T.node a l o p (.node e y oe pe x)).rows := by simp -dsimp [T.rows]
      have z2 : Z h2 tr (c' ++ c) (T.node e (.node a l o p y) oe pe x) := ⟨by rw [T.sum_of hr2]; exact hc2, ht2, by rw [T.ads_of hr2]; exact z1.nd⟩
      have hw2 : h2 w = some (.list W) := by rw [f2 w w3.1 w3.2.1 w3.2.2]; exact hs_self
      simp -dsimp only [T.ads, List.nodup_append, List.nodup_cons, List.mem_append, List.mem_cons] at zn
      have h2a : isIn h2 a := z2.rt.isIn a (by simp -dsimp [T.ads])
      refine rest _ e h2 (by grind) (by simp -dsimp [r58]) (by simp -dsimp [r64]) (by simp -dsimp [r63]) (by simp -dsimp) (by simp -dsimp) hw2 h2a hc2.isIn (by grind) (by grind) fun ρ2 cc hcc hne g58 g64 g63 => ?_
      have z3 := z2.setOff (notIn_none hcc) (.list [.ref e, .ref a])
      have e1 : (h2.set cc (.list [.ref e, .ref a])) w = some (.list W) := by rw [H.set_ne (Ne.symm hne)]; exact hw2
      have hpp := T.pos_rows hp hr2
      have := T.sum_nn (T.pos_r hpp)
      have := T.pos_o hpp
      refine after (.L e oe pe x) (.node a l o p y) _ ρ2 rfl (z3.setOff (notIn_list e1) _) hr2 (T.pos_l hpp) (by rw [← T.sum_of hr2]; simp -dsimp only [T.sum]; lia) (fun th' hth => ?_) hs_self g58 g64 g63 fun d d1 d2 d3 d4 d5 => ?_
      · rw [← hD]
        simp -dsimp only [fill, T.skew, T.sum_of hth, T.sum] at hlt ⊢
        lia
      · have e2 := f2 d d3 d4 d5
        rw [H.set_ne d2] at e2
        rw [H.set_ne d2, H.set_ne (by rintro rfl; rw [hcc] at e2; exact d1 e2.symm)]
        exact e2
    | false =>
      simp -dsimp
      refine k _ _ _ ?_ ?_ ?_ hs_self z1 rfl (by simp -dsimp) fun d _ d2 _ _ _ => H.set_ne d2
      · simp -dsimp [r58]
      · simp -dsimp [r64]
      · simp -dsimp [r63]
end Mine

namespace Mine
open PySem

noncomputable abbrev big : Int := 100000
theorem plug_pos : ∀ {c : List Fm} {t : T}, (plug c t).pos → t.pos ∧ t.sum ≤ (plug c t).sum
  | [], t, h => ⟨h, Int.le_refl _⟩
  | .L a o p r :: c, t, h => by
    obtain ⟨h1, h2⟩ := plug_pos (c := c) (t := .node a t o p r) h
    have := T.sum_nn (T.pos_r h1)
    have := T.pos_o h1
    exact ⟨T.pos_l h1, by simp -dsimp only [plug] at h2 ⊢; simp -dsimp only [T.sum] at h2; lia⟩
  | .R l a o p :: c, t, h => by
    obtain ⟨h1, h2⟩ := plug_pos (c := c) (t := .node a l o p t) h
    have := T.sum_nn (T.pos_l h1)
    have := T.pos_o h1
    exact ⟨T.pos_r h1, by simp -dsimp only [plug] at h2 ⊢; simp -dsimp only [T.sum] at h2; lia⟩
theorem plug_rows_of {c : List Fm} {t t' : T} (e : t'.rows = t.rows) : (plug c t').rows = (plug c t).rows := by rw [plug_rows, plug_rows, e]
theorem T.mem_rows_ads {t t' : T} (e : t'.rows = t.rows) {d : Nat} : d ∈ t'.ads ↔ d ∈ t.ads := by rw [T.ads_of e]
theorem mem_plug {c : List Fm} {t : T} {d : Nat} : d ∈ (plug c t).ads ↔ d ∈ cads c ∨ d ∈ t.ads := by rw [(cads_perm c t).mem_iff, List.mem_append]

theorem settle_spec {n tr : Nat} {c : List Fm} {t : T} {h : H} {Q : V → H → Prop} (z : Z h tr c t) (hp : t.pos) (hl : t ≠ .leaf) (hb : t.sum ≤ big)
    (k : ∀ h' t', Z h' tr c t' → t'.rows = t.rows → t' ≠ .leaf → (∀ d, h d ≠ none → d ≠ tr → d ∉ cads c → d ∉ t.ads → h' d = h d) → Q t'.val h') : CC (n + 3) 10 [.ref tr, t.val] h Q := by
  refine callI (fd := ⟨[58, 59], b_settle⟩) rfl rfl ?_
  simp -dsimp [b_settle]
  refine ⟨by unfold lim; lia, fun w hw => ?_⟩
  first | with_reducible refine b_whl fun I hI => ?_ | with_reducible refine s_whl fun I hI => ?_ | (simp -dsimp; first | with_reducible refine b_whl fun I hI => ?_ | with_reducible refine s_whl fun I hI => ?_)
  refine settle_claim (c := c) (tr := tr) (w := w) I hI _ _ t [] [] _ _ rfl rfl hp hl (by simp -dsimp) (by simp -dsimp) (by simp -dsimp [tv]) (by simp -dsimp) (z.setOff (notIn_none hw) _) (by simp -dsimp only [List.length_nil]; unfold lim; unfold big at hb; lia) ?_
  intro ρ' h' t' r58 r64 r63 hw' z' hr hl' f
  refine hI _ _ ?_
  simp -dsimp only [st_t, t_cmp, x_len, x_var, r64, ned_some, io_list hw', x_int, c_gt]
  simp -dsimp [r63, tv]
  refine k h' t' z' hr hl' fun d d1 d2 d3 d4 => ?_
  have hne : d ≠ w := by first | exact ne_kept d1 hw | (rintro rfl; exact d1 hw)
  rw [f d (by rw [H.set_ne hne]; exact d1) hne d2 d3 d4, H.set_ne hne]

theorem settle_up_loop {n tr : Nat} {Qn : R → H → Prop} {Qr : V → H → Prop} (I : R → H → Prop)
    (hI : ∀ ρ h, vT (CC (n + 3)) iniT (.cmp .isNot (.var 59) .none) ρ h (fun b h => if b = true then vB (CC (n + 3)) iniT (.cons (.assign 59 (.attr (.call 10 (.cons (.var 58) (.cons (.var 59) .nil))) 53)) .nil) ρ h I Qr else Qn ρ h) → I ρ h) :
    ∀ (c : List Fm) (t : T) (ρ : R) (h : H), Z h tr c t → (plug c t).pos → (plug c t).sum ≤ big → t ≠ .leaf → ρ 58 = some (.ref tr) → ρ 59 = some t.val →
      (∀ ρ' h' t', Z h' tr [] t' → t'.rows = (plug c t).rows → (∀ d, h d ≠ none → d ≠ tr → d ∉ (plug c t).ads → h' d = h d) → Qn ρ' h') → I ρ h := by
  intro c
  induction c with
  | nil =>
    intro t ρ h z hp hb hl r58 r59 k
    refine hI ρ h ?_
    obtain ⟨a, l, o, p, r, rfl⟩ : ∃ a l o p r, t = .node a l o p r := by cases t with
      | leaf => exact absurd rfl hl
      | node a l o p r => exact ⟨a, l, o, p, r, rfl⟩
    simp -dsimp [r58, r59]
    refine settle_spec z hp hl hb fun h' t' z' hr hl' f => ?_
    obtain ⟨a', l', o', p', r', rfl⟩ : ∃ a l o p r, t' = .node a l o p r := by cases t' with
      | leaf => exact absurd rfl hl'
      | node a l o p r => exact ⟨a, l, o, p, r, rfl⟩
    refine e1_2 z'.rt fun tot e _ => ?_
    simp -dsimp [get_par e]
    refine hI _ _ ?_
    simp -dsimp
    exact k _ _ _ z' hr fun d d1 d2 d3 => f d d1 d2 (by simp -dsimp [cads]) d3
  | cons g c ih =>
    intro t ρ h z hp hb hl r58 r59 k
    refine hI ρ h ?_
    obtain ⟨a, l, o, p, r, rfl⟩ : ∃ a l o p r, t = .node a l o p r := by cases t with
      | leaf => exact absurd rfl hl
      | node a l o p r => exact ⟨a, l, o, p, r, rfl⟩
    simp -dsimp [r58, r59]
    obtain ⟨q1, q2⟩ := plug_pos hp
    refine settle_spec z q1 hl (by lia) fun h' t' z' hr hl' f => ?_
    obtain ⟨a', l', o', p', r', rfl⟩ : ∃ a l o p r, t' = .node a l o p r := by cases t' with
      | leaf => exact absurd rfl hl'
      | node a l o p r => exact ⟨a, l, o, p, r, rfl⟩
    have hrr : (plug c (fill g (.node a' l' o' p' r'))).rows = (plug (g :: c) (.node a l o p r)).rows := by rw [← plug_cons]; exact plug_rows_of hr
    refine e1_2 z'.rt fun tot e _ => ?_
    simp -dsimp [get_par e]
    refine ih (fill g (.node a' l' o' p' r')) _ h' z'.up (T.pos_rows hp hrr) (by rw [T.sum_of hrr]; exact hb) (by cases g <;> simp -dsimp [fill]) (by simp -dsimp [r58]) (by simp -dsimp [fill_val]) fun ρ' h'' t'' z'' hr'' f'' => ?_
    refine k ρ' h'' t'' z'' (hr''.trans hrr) fun d d1 d2 d3 => ?_
    have e1 : h' d = h d := f d d1 d2 (fun x => d3 (mem_plug.mpr (.inl x))) fun x => d3 (mem_plug.mpr (.inr x))
    rw [f'' d (by rw [e1]; exact d1) d2 (by rw [T.mem_rows_ads hrr]; exact d3), e1]

theorem settle_up_spec {n tr : Nat} {c : List Fm} {t : T} {h : H} {Q : V → H → Prop} (z : Z h tr c t) (hp : (plug c t).pos) (hl : t ≠ .leaf) (hb : (plug c t).sum ≤ big)
    (k : ∀ h' t', Z h' tr [] t' → t'.rows = (plug c t).rows → (∀ d, h d ≠ none → d ≠ tr → d ∉ (plug c t).ads → h' d = h d) → Q .none h') : CC (n + 4) 11 [.ref tr, t.val] h Q := by
  refine callI (fd := ⟨[58, 59], b_settle_up⟩) rfl rfl ?_
  simp -dsimp only [b_settle_up, b_cons, b_nil]
  first | with_reducible refine b_whl fun I hI => ?_ | with_reducible refine s_whl fun I hI => ?_ | (simp -dsimp; first | with_reducible refine b_whl fun I hI => ?_ | with_reducible refine s_whl fun I hI => ?_)
  exact settle_up_loop I hI c t _ h z hp hb hl (by simp -dsimp) (by simp -dsimp) fun ρ' h' t' z' hr f => k h' t' z' hr f
theorem settle_up_par {n tr : Nat} {c : List Fm} {t : T} {h : H} {Q : V → H → Prop} (z : Z h tr c t) (hp : (plug c t).pos) (hb : (plug c t).sum ≤ big)
    (k : ∀ h' t', Z h' tr [] t' → t'.rows = (plug c t).rows → (∀ d, h d ≠ none → d ≠ tr → d ∉ (plug c t).ads → h' d = h d) → Q .none h') : CC (n + 4) 11 [.ref tr, parOf c] h Q := by
  cases c with
  | nil =>
    refine callI (fd := ⟨[58, 59], b_settle_up⟩) rfl rfl ?_
    simp -dsimp only [b_settle_up, b_cons, b_nil]
    first | with_reducible refine b_whl fun I hI => ?_ | with_reducible refine s_whl fun I hI => ?_ | (simp -dsimp; first | with_reducible refine b_whl fun I hI => ?_ | with_reducible refine s_whl fun I hI => ?_)
    refine hI _ _ ?_
    simp -dsimp [parOf]
    exact k h t z rfl fun _ _ _ _ => rfl
  | cons f c =>
    have e := plug_cons f c t
    have : parOf (f :: c) = (fill f t).val := by rw [fill_val]; rfl
    rw [this]
    exact settle_up_spec z.up (by rw [← e]; exact hp) (by cases f <;> simp -dsimp [fill]) (by rw [← e]; exact hb) fun h' t' z' hr f => k h' t' z' (by rw [e]; exact hr) (by rw [e]; exact f)

theorem add_loop {n tr : Nat} {m : Int} {Qn : R → H → Prop} {Qr : V → H → Prop} (I : R → H → Prop)
    (hI : ∀ ρ h, vT (CC n) iniT (.cmp .isNot (.var 59) .none) ρ h (fun b h => if b = true then vB (CC n) iniT (.cons (.setAttr (.var 59) 51 (.bin .add (.attr (.var 59) 51) (.var 66))) (.cons (.assign 59 (.attr (.var 59) 53)) .nil)) ρ h I Qr else Qn ρ h) → I ρ h) :
    ∀ (c : List Fm) (v : V) (s : Int) (ρ : R) (h : H), RepC h tr c v s → (cads c).Nodup → ρ 59 = some (parOf c) → ρ 66 = some (.int m) →
      (∀ ρ' h', RepC h' tr c v (s + m) → (∀ d, d ∉ cads c → h' d = h d) → Qn ρ' h') → I ρ h := by
  intro c
  induction c with
  | nil =>
    intro v s ρ h hc hd r59 r66 k
    refine hI ρ h ?_
    simp -dsimp [r59]
    exact k ρ h hc fun _ _ => rfl
  | cons g c ih =>
    intro v s ρ h hc hd r59 r66 k
    refine hI ρ h ?_
    obtain ⟨v0, etr⟩ := hc.tree
    cases g with
    | L a o p r =>
      obtain ⟨tot, e, es, hr, hc⟩ := hc
      have nt := RepC.ne_tr etr hc
      simp -dsimp only [cads, List.nodup_cons, List.nodup_append, List.mem_append] at hd
      simp -dsimp [r59, r66, get_tot e, set_tot e, get_par hs_self]
      have fr : ∀ d, d ≠ a → (h.set a (nd (tot + m) p v r.val (parOf c))) d = h d := fun d hd => H.set_ne hd
      refine ih (.ref a) tot _ _ (hc.frame (fun d hm => fr d (by grind)) (fr tr (Ne.symm (nd_ne etr e)))) (by grind) (by simp -dsimp) (by simp -dsimp [r66]) fun ρ' h' hc' f => ?_
      refine k ρ' h' ⟨tot + m, ?_, by lia, ?_, hc'⟩ fun d hm => ?_
      · rw [f a (by grind)]; exact hs_self
      · exact hr.frame fun d hm => by rw [f d (by grind), fr d (by grind)]
      · simp -dsimp only [cads, List.mem_cons, List.mem_append] at hm
        rw [f d (by grind), fr d (by grind)]
    | R l a o p =>
      obtain ⟨tot, e, es, hr, hc⟩ := hc
      have nt := RepC.ne_tr etr hc
      simp -dsimp only [cads, List.nodup_cons, List.nodup_append, List.mem_append] at hd
      simp -dsimp [r59, r66, get_tot e, set_tot e, get_par hs_self]
      have fr : ∀ d, d ≠ a → (h.set a (nd (tot + m) p l.val v (parOf c))) d = h d := fun d hd => H.set_ne hd
      refine ih (.ref a) tot _ _ (hc.frame (fun d hm => fr d (by grind)) (fr tr (Ne.symm (nd_ne etr e)))) (by grind) (by simp -dsimp) (by simp -dsimp [r66]) fun ρ' h' hc' f => ?_
      refine k ρ' h' ⟨tot + m, ?_, by lia, ?_, hc'⟩ fun d hm => ?_
      · rw [f a (by grind)]; exact hs_self
      · exact hr.frame fun d hm => by rw [f d (by grind), fr d (by grind)]
      · simp -dsimp only [cads, List.mem_cons, List.mem_append] at hm
        rw [f d (by grind), fr d (by grind)]
theorem add_above_spec {n tr : Nat} {m : Int} {c : List Fm} {v : V} {s : Int} {h : H} {Q : V → H → Prop} (hc : RepC h tr c v s) (hd : (cads c).Nodup)
    (k : ∀ h', RepC h' tr c v (s + m) → (∀ d, d ∉ cads c → h' d = h d) → Q .none h') : CC (n + 1) 12 [parOf c, .int m] h Q := by
  refine callI (fd := ⟨[59, 66], b_add_above⟩) rfl rfl ?_
  simp -dsimp only [b_add_above, b_cons, b_nil]
  first | with_reducible refine b_whl fun I hI => ?_ | with_reducible refine s_whl fun I hI => ?_ | (simp -dsimp; first | with_reducible refine b_whl fun I hI => ?_ | with_reducible refine s_whl fun I hI => ?_)
  exact add_loop I hI c v s _ h hc hd (by simp -dsimp) (by simp -dsimp) fun ρ' h' hc' f => k h' hc' f
end Mine

namespace Mine
open PySem

theorem Z.focus {h : H} {tr : Nat} : ∀ {c d : List Fm} {t : T}, Z h tr d (plug c t) → Z h tr (c ++ d) t
  | [], _, _, z => z
  | f :: c, d, t, z => by
    rw [plug_cons] at z
    exact (Z.focus (c := c) z).down
theorem Z.whole {h : H} {tr : Nat} : ∀ {c d : List Fm} {t : T}, Z h tr (c ++ d) t → Z h tr d (plug c t)
  | [], _, _, z => z
  | f :: c, d, t, z => by
    rw [plug_cons]
    exact Z.whole (c := c) (Z.up z)
theorem Z.at {h : H} {tr : Nat} {c : List Fm} {t : T} (z : Z h tr [] (plug c t)) : Z h tr c t := by
  have := z.focus; rwa [List.append_nil] at this
theorem Z.top {h : H} {tr : Nat} {c : List Fm} {t : T} (z : Z h tr c t) : Z h tr [] (plug c t) := by
  refine Z.whole (d := []) ?_; rwa [List.append_nil]

noncomputable def allLf : List Fm → Prop
  | [] => True
  | .L _ _ _ _ :: c => allLf c
  | .R _ _ _ _ :: _ => False
noncomputable def allRf : List Fm → Prop
  | [] => True
  | .R _ _ _ _ :: c => allRf c
  | .L _ _ _ _ :: _ => False
theorem allLf_app : ∀ {c d : List Fm}, allLf c → allLf d → allLf (c ++ d)
  | [], _, _, h => h
  | .L _ _ _ _ :: c, d, h, g => allLf_app (c := c) h g
theorem allRf_app : ∀ {c d : List Fm}, allRf c → allRf d → allRf (c ++ d)
  | [], _, _, h => h
  | .R _ _ _ _ :: c, d, h, g => allRf_app (c := c) h g
theorem rowsL_allL : ∀ {c : List Fm}, allLf c → rowsL c = []
  | [], _ => rfl
  | .L _ _ _ _ :: c, h => rowsL_allL (c := c) h
theorem rowsR_allR : ∀ {c : List Fm}, allRf c → rowsR c = []
  | [], _ => rfl
  | .R _ _ _ _ :: c, h => rowsR_allR (c := c) h

theorem leftmost_loop {n : Nat} {Qn : R → H → Prop} {Qr : V → H → Prop} (I : R → H → Prop)
    (hI : ∀ ρ h, vT (CC n) iniT (.cmp .isNot (.attr (.var 59) 55) .none) ρ h (fun b h => if b = true then vB (CC n) iniT (.cons (.assign 59 (.attr (.var 59) 55)) .nil) ρ h I Qr else Qn ρ h) → I ρ h) :
    ∀ (t : T) (ρ : R) (h : H) (par : V), RepT h par t → t ≠ .leaf → ρ 59 = some t.val → (∀ ρ' c' a o p r, allLf c' → t = plug c' (.node a .leaf o p r) → ρ' 59 = some (.ref a) → Qn ρ' h) → I ρ h := by
  intro t
  induction t with
  | leaf => intro _ _ _ _ hl; exact absurd rfl hl
  | node a l o p r ihl _ =>
    intro ρ h par ht _ r59 k
    refine e1_4 ht fun tot e es hl hr => ?_
    clear ht
    refine hI ρ h ?_
    cases l with
    | leaf =>
      simp -dsimp [r59, get_lf e]
      exact k ρ [] a o p r trivial rfl r59
    | node b x ob pb y =>
      simp -dsimp [r59, get_lf e]
      refine ihl _ h _ hl (by simp -dsimp) (by simp -dsimp) fun ρ' c' a' o' p' r' hc he h59 => ?_
      refine k ρ' (c' ++ [.L a o p r]) a' o' p' r' (allLf_app hc (show allLf [.L a o p r] from trivial)) ?_ h59
      rw [plug_app, ← he]; rfl
theorem leftmost_spec {n : Nat} {t : T} {h : H} {par : V} {Q : V → H → Prop} (ht : RepT h par t) (hl : t ≠ .leaf) (k : ∀ c' a o p r, allLf c' → t = plug c' (.node a .leaf o p r) → Q (.ref a) h) : CC (n + 1) 14 [t.val] h Q := by
  refine callI (fd := ⟨[59], b_leftmost⟩) rfl rfl ?_
  simp -dsimp only [b_leftmost, b_cons, b_nil]
  first | with_reducible refine b_whl fun I hI => ?_ | with_reducible refine s_whl fun I hI => ?_ | (simp -dsimp; first | with_reducible refine b_whl fun I hI => ?_ | with_reducible refine s_whl fun I hI => ?_)
  refine leftmost_loop I hI t _ h par ht hl (by simp -dsimp) fun ρ' c' a o p r hc he h59 => ?_
  simp -dsimp [h59]
  exact k c' a o p r hc he
theorem rightmost_loop {n : Nat} {Qn : R → H → Prop} {Qr : V → H → Prop} (I : R → H → Prop)
    (hI : ∀ ρ h, vT (CC n) iniT (.cmp .isNot (.attr (.var 59) 54) .none) ρ h (fun b h => if b = true then vB (CC n) iniT (.cons (.assign 59 (.attr (.var 59) 54)) .nil) ρ h I Qr else Qn ρ h) → I ρ h) :
    ∀ (t : T) (ρ : R) (h : H) (par : V), RepT h par t → t ≠ .leaf → ρ 59 = some t.val → (∀ ρ' c' a l o p, allRf c' → t = plug c' (.node a l o p .leaf) → ρ' 59 = some (.ref a) → Qn ρ' h) → I ρ h := by
  intro t
  induction t with
  | leaf => intro _ _ _ _ hl; exact absurd rfl hl
  | node a l o p r _ ihr =>
    intro ρ h par ht _ r59 k
    refine e1_4 ht fun tot e es hl hr => ?_
    clear ht
    refine hI ρ h ?_
    cases r with
    | leaf =>
      simp -dsimp [r59, get_rt e]
      exact k ρ [] a l o p trivial rfl r59
    | node b x ob pb y =>
      simp -dsimp [r59, get_rt e]
      refine ihr _ h _ hr (by simp -dsimp) (by simp -dsimp) fun ρ' c' a' l' o' p' hc he h59 => ?_
      refine k ρ' (c' ++ [.R l a o p]) a' l' o' p' (allRf_app hc (show allRf [.R l a o p] from trivial)) ?_ h59
      rw [plug_app, ← he]; rfl
theorem rightmost_spec {n : Nat} {t : T} {h : H} {par : V} {Q : V → H → Prop} (ht : RepT h par t) (hl : t ≠ .leaf) (k : ∀ c' a l o p, allRf c' → t = plug c' (.node a l o p .leaf) → Q (.ref a) h) : CC (n + 1) 15 [t.val] h Q := by
  refine callI (fd := ⟨[59], b_rightmost⟩) rfl rfl ?_
  simp -dsimp only [b_rightmost, b_cons, b_nil]
  first | with_reducible refine b_whl fun I hI => ?_ | with_reducible refine s_whl fun I hI => ?_ | (simp -dsimp; first | with_reducible refine b_whl fun I hI => ?_ | with_reducible refine s_whl fun I hI => ?_)
  refine rightmost_loop I hI t _ h par ht hl (by simp -dsimp) fun ρ' c' a l o p hc he h59 => ?_
  simp -dsimp [h59]
  exact k c' a l o p hc he

noncomputable def hdv : List Row → V
  | [] => .none
  | x :: _ => .ref x.1
noncomputable def lsv (xs : List Row) : V := hdv xs.reverse

theorem foll_loop {n tr : Nat} {Qn : R → H → Prop} {Qr : V → H → Prop} (I : R → H → Prop)
    (hI : ∀ ρ h, vT (CC n) iniT (.and (.cmp .isNot (.attr (.var 59) 53) .none) (.cmp .is (.attr (.attr (.var 59) 53) 54) (.var 59))) ρ h (fun b h => if b = true then vB (CC n) iniT (.cons (.assign 59 (.attr (.var 59) 53)) .nil) ρ h I Qr else Qn ρ h) → I ρ h) :
    ∀ (c : List Fm) (a : Nat) (s tot : Int) (p l r : V) (ρ : R) (h : H), RepC h tr c (.ref a) s → h a = some (nd tot p l r (parOf c)) → a ∉ cads c → (cads c).Nodup → ρ 59 = some (.ref a) →
      (∀ ρ' b tot p l r, ρ' 59 = some (.ref b) → h b = some (nd tot p l r (hdv (rowsR c))) → Qn ρ' h) → I ρ h := by
  intro c
  induction c with
  | nil =>
    intro a s tot p l r ρ h hc e ha hd r59 k
    refine hI ρ h ?_
    simp -dsimp [r59, get_par e]
    exact k ρ a _ _ _ _ r59 e
  | cons f c ih =>
    intro a s tot p l r ρ h hc e ha hd r59 k
    refine hI ρ h ?_
    cases f with
    | L b o pb rb =>
      obtain ⟨tb, eb, es, hr, hc⟩ := hc
      have hne : pyIs h rb.val (.ref a) = some false := by
        cases rb with
        | leaf => rfl
        | node x _ _ _ _ => exact is_ne (by intro z; subst z; exact ha (by simp -dsimp [cads, T.ads])) (hr.isIn x (by simp -dsimp [T.ads])) (isIn_nd e)
      simp -dsimp [r59, get_par e, get_rt eb, hne]
      exact k ρ a _ _ _ _ r59 (by simpa -dsimp [rowsR, hdv] using e)
    | R lb b o pb =>
      obtain ⟨tb, eb, es, hr, hc⟩ := hc
      simp -dsimp [r59, get_par e, get_rt eb]
      simp -dsimp only [cads, List.nodup_cons, List.nodup_append, List.mem_append, List.mem_cons] at ha hd
      exact ih b tb tb _ _ _ _ h hc eb (by grind) (by grind) (by simp -dsimp) fun ρ' b' tot' p' l' r' h59 eb' => k ρ' b' _ _ _ _ h59 eb'
theorem following_spec {n tr a : Nat} {c : List Fm} {l r : T} {o : Int} {p : V} {h : H} {Q : V → H → Prop} (z : Z h tr c (.node a l o p r)) (k : Q (hdv (r.rows ++ rowsR c)) h) : CC (n + 2) 16 [.ref a] h Q := by
  refine callI (fd := ⟨[59], b_following⟩) rfl rfl ?_
  refine e1_4 z.rt fun tot e es hl hr => ?_
  have nd9 := z.nd
  simp -dsimp only [T.ads, List.nodup_cons, List.nodup_append, List.mem_append, List.mem_cons] at nd9
  cases r with
  | node b x ob pb y =>
    simp -dsimp [b_following, get_rt e]
    refine leftmost_spec (t := .node b x ob pb y) hr (by simp -dsimp) fun c' a' o' p' r' hc he => ?_
    rw [he, plug_rows, rowsL_allL hc] at k
    simpa -dsimp [T.rows, hdv] using k
  | leaf =>
    simp -dsimp [b_following, get_rt e]
    first | with_reducible refine b_whl fun I hI => ?_ | with_reducible refine s_whl fun I hI => ?_ | (simp -dsimp; first | with_reducible refine b_whl fun I hI => ?_ | with_reducible refine s_whl fun I hI => ?_)
    refine foll_loop I hI c a _ tot _ _ _ _ h z.rc e (by grind) (by grind) (by simp -dsimp) fun ρ' b tot' p' l' r' h59 eb => ?_
    simp -dsimp [h59, get_par eb]
    simpa -dsimp [T.rows] using k
theorem prec_loop {n tr : Nat} {Qn : R → H → Prop} {Qr : V → H → Prop} (I : R → H → Prop)
    (hI : ∀ ρ h, vT (CC n) iniT (.and (.cmp .isNot (.attr (.var 59) 53) .none) (.cmp .is (.attr (.attr (.var 59) 53) 55) (.var 59))) ρ h (fun b h => if b = true then vB (CC n) iniT (.cons (.assign 59 (.attr (.var 59) 53)) .nil) ρ h I Qr else Qn ρ h) → I ρ h) :
    ∀ (c : List Fm) (a : Nat) (s tot : Int) (p l r : V) (ρ : R) (h : H), RepC h tr c (.ref a) s → h a = some (nd tot p l r (parOf c)) → a ∉ cads c → (cads c).Nodup → ρ 59 = some (.ref a) →
      (∀ ρ' b tot p l r, ρ' 59 = some (.ref b) → h b = some (nd tot p l r (lsv (rowsL c))) → Qn ρ' h) → I ρ h := by
  intro c
  induction c with
  | nil =>
    intro a s tot p l r ρ h hc e ha hd r59 k
    refine hI ρ h ?_
    simp -dsimp [r59, get_par e]
    exact k ρ a _ _ _ _ r59 e
  | cons f c ih =>
    intro a s tot p l r ρ h hc e ha hd r59 k
    refine hI ρ h ?_
    cases f with
    | R lb b o pb =>
      obtain ⟨tb, eb, es, hr, hc⟩ := hc
      have hne : pyIs h lb.val (.ref a) = some false := by
        cases lb with
        | leaf => rfl
        | node x _ _ _ _ => exact is_ne (by intro z; subst z; exact ha (by simp -dsimp [cads, T.ads])) (hr.isIn x (by simp -dsimp [T.ads])) (isIn_nd e)
      simp -dsimp [r59, get_par e, get_lf eb, hne]
      exact k ρ a _ _ _ _ r59 (by simpa -dsimp [rowsL, lsv, hdv] using e)
    | L b o pb lb =>
      obtain ⟨tb, eb, es, hr, hc⟩ := hc
      simp -dsimp [r59, get_par e, get_lf eb]
      simp -dsimp only [cads, List.nodup_cons, List.nodup_append, List.mem_append, List.mem_cons] at ha hd
      exact ih b tb tb _ _ _ _ h hc eb (by grind) (by grind) (by simp -dsimp) fun ρ' b' tot' p' l' r' h59 eb' => k ρ' b' _ _ _ _ h59 eb'
theorem preceding_spec {n tr a : Nat} {c : List Fm} {l r : T} {o : Int} {p : V} {h : H} {Q : V → H → Prop} (z : Z h tr c (.node a l o p r)) (k : Q (lsv (rowsL c ++ l.rows)) h) : CC (n + 2) 17 [.ref a] h Q := by
  refine callI (fd := ⟨[59], b_preceding⟩) rfl rfl ?_
  refine e1_4 z.rt fun tot e es hl hr => ?_
  have nd9 := z.nd
  simp -dsimp only [T.ads, List.nodup_cons, List.nodup_append, List.mem_append, List.mem_cons] at nd9
  cases l with
  | node b x ob pb y =>
    simp -dsimp [b_preceding, get_lf e]
    refine rightmost_spec (t := .node b x ob pb y) hl (by simp -dsimp) fun c' a' l' o' p' hc he => ?_
    rw [he, plug_rows, rowsR_allR hc] at k
    simpa -dsimp [T.rows, lsv, hdv] using k
  | leaf =>
    simp -dsimp [b_preceding, get_lf e]
    first | with_reducible refine b_whl fun I hI => ?_ | with_reducible refine s_whl fun I hI => ?_ | (simp -dsimp; first | with_reducible refine b_whl fun I hI => ?_ | with_reducible refine s_whl fun I hI => ?_)
    refine prec_loop I hI c a _ tot _ _ _ _ h z.rc e (by grind) (by grind) (by simp -dsimp) fun ρ' b tot' p' l' r' h59 eb => ?_
    simp -dsimp [h59, get_par eb]
    simpa -dsimp [T.rows] using k

noncomputable def fi_b : Sts := (.cons (.assign 69 (.call 0 (.cons (.attr (.var 59) 55) .nil)))
    (.cons (.assign 70 (.call 1 (.cons (.var 59) .nil)))
    (.cons (.ite (.cmp .lt (.var 67) (.bin .add (.var 68) (.var 69))) (.cons (.assign 59 (.attr (.var 59) 55))
      .nil) (.cons (.ite (.cmp .lt (.var 67) (.bin .add (.bin .add (.var 68) (.var 69)) (.var 70))) (.cons (.ret (.tup (.cons (.var 59) (.cons (.bin .add (.var 68) (.var 69)) .nil))))
        .nil) (.cons (.assign 68 (.bin .add (.bin .add (.var 68) (.var 69)) (.var 70)))
        (.cons (.assign 59 (.attr (.var 59) 54))
        .nil)))
      .nil))
    .nil)))
@[simp] theorem rsum_app {a b : List Row} : rsum (a ++ b) = rsum a + rsum b := by simp -dsimp [rsum]
@[simp] theorem rsum_cons {x : Row} {b : List Row} : rsum (x :: b) = x.2.1 + rsum b := by simp -dsimp [rsum]
@[simp] theorem rsum_nil : rsum [] = 0 := rfl
theorem find_loop {n tr : Nat} {at9 : Int} {Qn : R → H → Prop} {Qr : V → H → Prop} (I : R → H → Prop)
    (hI : ∀ ρ h, vT (CC (n + 2)) iniT (.bool true) ρ h (fun b h => if b = true then vB (CC (n + 2)) iniT fi_b ρ h I Qr else Qn ρ h) → I ρ h) :
    ∀ (t : T) (c : List Fm) (ρ : R) (h : H), Z h tr c t → ρ 59 = some t.val → ρ 67 = some (.int at9) → ρ 68 = some (.int (rsum (rowsL c))) → rsum (rowsL c) ≤ at9 → at9 < rsum (rowsL c) + t.sum →
      (∀ c' a l o p r, plug c t = plug c' (.node a l o p r) → rsum (rowsL c' ++ l.rows) ≤ at9 → at9 < rsum (rowsL c' ++ l.rows) + o → nwO h (.tup [.ref a, .int (rsum (rowsL c' ++ l.rows))]) Qr) → I ρ h := by
  intro t
  induction t with
  | leaf => intro c ρ h z r59 r67 r68 h1 h2; simp -dsimp only [T.sum] at h2; omega
  | node a l o p r ihl ihr =>
    intro c ρ h z r59 r67 r68 h1 h2 k
    refine e1_4 z.rt fun tot e es hl hr => ?_
    refine hI ρ h ?_
    simp -dsimp [fi_b, r59, get_lf e]
    refine total_spec hl ?_
    simp -dsimp [r59]
    refine own_spec z.rt ?_
    simp -dsimp only [T.sum] at h2
    by_cases b1 : at9 < rsum (rowsL c) + l.sum
    · simp -dsimp [r67, r68, b1, r59, get_lf e]
      exact ihl (.L a o p r :: c) _ h (Z.down (f := .L a o p r) z) (by simp -dsimp) (by simp -dsimp [r67]) (by simp -dsimp [r68, rowsL]) h1 b1 k
    · by_cases b2 : at9 < rsum (rowsL c) + l.sum + o
      · simp -dsimp [r67, r68, b1, r59, b2]
        refine ⟨by unfold lim; lia, ?_⟩
        have := k c a l o p r rfl (by rw [rsum_app, ← T.sum_rows]; lia) (by rw [rsum_app, ← T.sum_rows]; omega)
        rw [rsum_app, ← T.sum_rows] at this
        exact this
      · simp -dsimp [r67, r68, b1, r59, b2, get_rt e]
        have es2 : rsum (rowsL (.R l a o p :: c)) = rsum (rowsL c) + l.sum + o := by simp -dsimp [rowsL, T.sum_rows]; lia
        refine ihr (.R l a o p :: c) _ h (Z.down (f := .R l a o p) z) (by simp -dsimp) (by simp -dsimp [r67]) (by simp -dsimp [es2]) (by rw [es2]; lia) (by rw [es2]; lia) k
theorem find_spec {n tr : Nat} {at9 : Int} {t : T} {h : H} {Q : V → H → Prop} (z : Z h tr [] t) (h0 : 0 ≤ at9) (h1 : at9 < t.sum)
    (k : ∀ c a l o p r, t = plug c (.node a l o p r) → rsum (rowsL c ++ l.rows) ≤ at9 → at9 < rsum (rowsL c ++ l.rows) + o → nwO h (.tup [.ref a, .int (rsum (rowsL c ++ l.rows))]) Q) : CC (n + 3) 13 [.ref tr, .int at9] h Q := by
  refine callI (fd := ⟨[58, 67], b_find_interval⟩) rfl rfl ?_
  have e : h tr = some (tr0 t.val) := z.rc
  simp -dsimp [b_find_interval, get_root e]
  first | with_reducible refine b_whl fun I hI => ?_ | with_reducible refine s_whl fun I hI => ?_ | (simp -dsimp; first | with_reducible refine b_whl fun I hI => ?_ | with_reducible refine s_whl fun I hI => ?_)
  exact find_loop I hI t [] _ h z (by simp -dsimp) (by simp -dsimp) (by simp -dsimp [rowsL]) (by simpa -dsimp [rowsL] using h0) (by simpa -dsimp [rowsL] using h1) k
end Mine

namespace Mine
open PySem

theorem rowsL_app : ∀ (c d : List Fm), rowsL (c ++ d) = rowsL d ++ rowsL c
  | [], d => by simp -dsimp [rowsL]
  | .L _ _ _ _ :: c, d => by simp -dsimp [rowsL, rowsL_app c d]
  | .R _ _ _ _ :: c, d => by simp -dsimp [rowsL, rowsL_app c d]
theorem rowsR_app : ∀ (c d : List Fm), rowsR (c ++ d) = rowsR c ++ rowsR d
  | [], d => by simp -dsimp [rowsR]
  | .L _ _ _ _ :: c, d => by simp -dsimp [rowsR, rowsR_app c d]
  | .R _ _ _ _ :: c, d => by simp -dsimp [rowsR, rowsR_app c d]
/-- the place of a row -/
theorem locate : ∀ (t : T) (A B : List Row) (x : Row), t.rows = A ++ x :: B → ∃ c l r, t = plug c (.node x.1 l x.2.1 x.2.2 r) ∧ rowsL c ++ l.rows = A ∧ r.rows ++ rowsR c = B
  | .leaf, A, B, x, e => by simp -dsimp [T.rows] at e
  | .node a l o p r, A, B, x, e => by
    simp -dsimp only [T.rows] at e
    rcases List.append_eq_append_iff.mp e with ⟨a', h1, h2⟩ | ⟨c', h1, h2⟩
    · cases a' with
      | nil =>
        simp -dsimp only [List.nil_append, List.cons.injEq] at h2
        obtain ⟨rfl, rfl⟩ := h2
        exact ⟨[], l, r, rfl, by simp -dsimp [rowsL, h1], by simp -dsimp [rowsR]⟩
      | cons y a' =>
        simp -dsimp only [List.cons_append, List.cons.injEq] at h2
        obtain ⟨rfl, h2⟩ := h2
        refine e3_3 (locate r a' B x h2) fun c l' r' e1 e2 e3 => ?_
        refine ⟨c ++ [.R l a o p], l', r', by rw [plug_app, ← e1]; rfl, ?_, ?_⟩
        · rw [rowsL_app, h1, ← e2]; simp -dsimp [rowsL]
        · rw [rowsR_app, ← e3]; simp -dsimp [rowsR]
    · cases c' with
      | nil =>
        simp -dsimp only [List.nil_append, List.cons.injEq] at h2
        obtain ⟨rfl, rfl⟩ := h2
        exact ⟨[], l, r, rfl, by simpa -dsimp [rowsL] using h1, by simp -dsimp [rowsR]⟩
      | cons y c' =>
        simp -dsimp only [List.cons_append, List.cons.injEq] at h2
        obtain ⟨rfl, h2⟩ := h2
        refine e3_3 (locate l A c' x h1) fun c l' r' e1 e2 e3 => ?_
        refine ⟨c ++ [.L a o p r], l', r', by rw [plug_app, ← e1]; rfl, ?_, ?_⟩
        · rw [rowsL_app, ← e2]; simp -dsimp [rowsL]
        · rw [rowsR_app, h2, ← e3]; simp -dsimp [rowsR]

noncomputable def Tree (h : H) (tr : Nat) (rows : List Row) : Prop := ∃ t, Z h tr [] t ∧ t.rows = rows
noncomputable def Pos (rows : List Row) : Prop := ∀ x ∈ rows, 0 < x.2.1
theorem Tree.at {h : H} {tr : Nat} {A B : List Row} {x : Row} (T9 : Tree h tr (A ++ x :: B)) : ∃ c l r, Z h tr c (.node x.1 l x.2.1 x.2.2 r) ∧ rowsL c ++ l.rows = A ∧ r.rows ++ rowsR c = B := by
  refine e1_2 T9 fun t z e => ?_
  clear T9
  refine e3_3 (locate t A B x e) fun c l r e93 e1 e2 => ?_
  obtain rfl := e93
  exact ⟨c, l, r, z.at, e1, e2⟩
theorem mem_ads_rows {t : T} {d : Nat} : d ∈ t.ads ↔ d ∈ t.rows.map (·.1) := by rw [T.ads_rows]
theorem Pos.tree {t : T} (h : Pos t.rows) : t.pos := h
theorem plug_sum {c : List Fm} {t : T} : (plug c t).sum = rsum (rowsL c ++ t.rows ++ rowsR c) := by rw [T.sum_rows, plug_rows]

noncomputable def pb_tl : Sts := (.cons (.expr (.call 12 (.cons (.attr (.var 71) 53) (.cons (.attr (.var 71) 51) .nil))))
  (.cons (.expr (.call 11 (.cons (.var 58) (.cons (.attr (.var 71) 53) .nil))))
  .nil))
theorem attach {n tr f : Nat} {g : Fm} {c : List Fm} {m : Int} {pf : V} {ρ : R} {h : H} {Qn : R → H → Prop} {Qr : V → H → Prop} (hc : RepC h tr (g :: c) (.ref f) 0) (hf : h f = some (nd m pf .none .none (.ref g.ad)))
    (hd : (cads (g :: c)).Nodup) (hnf : f ∉ cads (g :: c)) (r71 : ρ 71 = some (.ref f)) (r58 : ρ 58 = some (.ref tr)) (hp : (plug (g :: c) (.node f .leaf m pf .leaf)).pos) (hb : (plug (g :: c) (.node f .leaf m pf .leaf)).sum ≤ big)
    (k : ∀ h' t', Z h' tr [] t' → t'.rows = (plug (g :: c) (.node f .leaf m pf .leaf)).rows → (∀ d, h d ≠ none → d ≠ tr → d ∉ (plug (g :: c) (.node f .leaf m pf .leaf)).ads → h' d = h d) → Qn ρ h') :
    vB (CC (n + 4)) iniT pb_tl ρ h Qn Qr := by
  simp -dsimp [pb_tl, r71, r58, get_par hf, get_tot hf]
  refine add_above_spec (c := g :: c) hc hd fun h1 hc1 f1 => ?_
  have hf1 : h1 f = some (nd m pf .none .none (.ref g.ad)) := by rw [f1 f hnf]; exact hf
  simp -dsimp [r71, r58, get_par hf1]
  have z1 : Z h1 tr (g :: c) (.node f .leaf m pf .leaf) := ⟨by simpa -dsimp [T.sum] using hc1, ⟨m, hf1, by simp -dsimp [T.sum], trivial, trivial⟩, by
    simp -dsimp only [T.ads, List.nil_append]
    exact List.nodup_append.mpr ⟨hd, by simp -dsimp, fun a ha b hb => by simp -dsimp only [List.mem_singleton] at hb; subst hb; rintro rfl; exact hnf ha⟩⟩
  refine settle_up_par z1 hp hb fun h' t' z' hr f' => ?_
  refine k h' t' z' hr fun d d1 d2 d3 => ?_
  have e1 : h1 d = h d := f1 d fun x => d3 (mem_plug.mpr (.inl x))
  rw [f' d (by rw [e1]; exact d1) d2 d3, e1]

theorem nodup_ads {h : H} {tr : Nat} {t : T} (z : Z h tr [] t) : t.ads.Nodup := by have := z.nd; simpa -dsimp [cads] using this

theorem put_behind_spec {n tr f : Nat} {A B : List Row} {x : Row} {m : Int} {pf : V} {h : H} {Q : V → H → Prop} (T9 : Tree h tr (A ++ x :: B)) (hf : h f = some (nd m pf .none .none .none)) (hnf : f ∉ (A ++ x :: B).map (·.1)) (hp : Pos (A ++ x :: B)) (hm : 0 < m) (hb : rsum (A ++ x :: B) + m ≤ big)
    (k : ∀ h', Tree h' tr (A ++ x :: (f, m, pf) :: B) → (∀ d, h d ≠ none → d ≠ tr → d ≠ f → d ∉ (A ++ x :: B).map (·.1) → h' d = h d) → Q .none h') : CC (n + 5) 18 [.ref tr, .ref x.1, .ref f] h Q := by
  refine e3_3 T9.at fun c l r z eA eB => ?_
  obtain ⟨a, o, p⟩ := x
  refine callI (fd := ⟨[58, 59, 71], b_put_behind⟩) rfl rfl ?_
  have hb0 : b_put_behind = (.cons (.ite (.cmp .is (.attr (.var 59) 54) .none) (.cons (.expr (.call 5 (.cons (.var 59) (.cons (.var 71) .nil)))) .nil) (.cons (.assign 59 (.call 14 (.cons (.attr (.var 59) 54) .nil))) (.cons (.expr (.call 4 (.cons (.var 59) (.cons (.var 71) .nil)))) .nil))) pb_tl) := rfl
  simp -dsimp only [hb0]
  dsimp only at z
  refine e1_4 z.rt fun tot e es hl hr => ?_
  have zn := z.nd
  have etr := z.rc.tree
  -- the fresh one is off
  have hnf' : f ∉ cads c ∧ f ∉ l.ads ∧ f ≠ a ∧ f ∉ r.ads := by
    have q : f ∉ (plug c (.node a l o p r)).ads := by rw [mem_ads_rows, plug_rows]; rw [← eA, ← eB] at hnf; simpa -dsimp [T.rows, List.append_assoc] using hnf
    rw [mem_plug] at q
    simp -dsimp only [T.ads, List.mem_append, List.mem_cons] at q
    grind
  have rowsT : ∀ (g : Fm) (c1 : List Fm), rowsL (g :: c1) = A ++ [(a, o, p)] → rowsR (g :: c1) = B → (plug (g :: c1) (.node f .leaf m pf .leaf)).rows = A ++ (a, o, p) :: (f, m, pf) :: B := fun g c1 e1 e2 => by
    rw [plug_rows, e1, e2]; simp -dsimp [T.rows]
  have posT : ∀ t : T, t.rows = A ++ (a, o, p) :: (f, m, pf) :: B → t.pos := fun t e1 y hy => by
    rw [e1] at hy
    simp -dsimp only [List.mem_append, List.mem_cons] at hy
    rcases hy with hy | hy | hy | hy
    · exact hp y (by simp -dsimp [hy])
    · exact hp y (by simp -dsimp [hy])
    · rw [hy]; exact hm
    · exact hp y (by simp -dsimp [hy])
  have sumT : ∀ t : T, t.rows = A ++ (a, o, p) :: (f, m, pf) :: B → t.sum ≤ big := fun t e1 => by
    rw [T.sum_rows, e1]; simp -dsimp at hb ⊢; lia
  have offT : ∀ (t : T) (d : Nat), t.rows = A ++ (a, o, p) :: (f, m, pf) :: B → d ≠ f → d ∉ (A ++ (a, o, p) :: B).map (·.1) → d ∉ t.ads := fun t d e1 h1 h2 => by
    rw [mem_ads_rows, e1]; simp -dsimp at h2 ⊢; grind
  simp -dsimp only [T.ads, List.nodup_append, List.nodup_cons, List.mem_append, List.mem_cons] at zn
  have hff : RepT h .none (.node f .leaf m pf .leaf) := ⟨m, hf, by simp -dsimp [T.sum], trivial, trivial⟩
  cases r with
  | leaf =>
    simp -dsimp [get_rt e]
    refine set_right_spec (t := .node f .leaf m pf .leaf) e hff (by simp -dsimp [T.ads]) (by simp -dsimp [T.ads]; grind) fun h1 e1 hf1 f1 => ?_
    simp -dsimp only [T.ads, List.nil_append, List.mem_singleton] at f1
    simp -dsimp
    refine e1_3 hf1 fun m' ef1 em _ => ?_
    clear hf1
    have : m' = m := by simpa -dsimp [T.sum] using em
    subst this
    have e9 := rowsT (.R l a o p) c (by simp -dsimp [rowsL, ← eA]) (by simpa -dsimp [rowsR, T.rows] using eB)
    have q : RepC h1 tr c (.ref a) (T.node a l o p .leaf).sum := z.rc.frame (fun d hd => f1 d (by grind) (by grind)) (f1 tr (by obtain ⟨v, ev⟩ := etr; exact Ne.symm (nd_ne ev e)) (by obtain ⟨v, ev⟩ := etr; exact Ne.symm (nd_ne ev hf)))
    have es2 : (T.node a l o p .leaf).sum = tot := by rw [es]; rfl
    rw [es2] at q
    have hcc : RepC h1 tr (.R l a o p :: c) (.ref f) 0 := ⟨tot, e1, es, hl.frame fun d hd => f1 d (by grind) (by grind), q⟩
    refine attach (g := .R l a o p) (c := c) (f := f) hcc ef1 ?_ ?_ (by simp -dsimp) (by simp -dsimp) (posT _ e9) (sumT _ e9) fun h' t' z' hr' f' => ?_
    · simp -dsimp only [cads, List.nodup_cons, List.nodup_append, List.mem_append]; grind
    · simp -dsimp only [cads, List.mem_cons, List.mem_append]; grind
    · refine k h' ⟨t', z', hr'.trans e9⟩ fun d d1 d2 d3 d4 => ?_
      have d5 : d ≠ a := by rintro rfl; exact d4 (by simp -dsimp)
      rw [f' d (by rw [f1 d d5 d3]; exact d1) d2 (offT _ d e9 d3 d4), f1 d d5 d3]
  | node b x ob pb y =>
    simp -dsimp [get_rt e]
    refine leftmost_spec (t := .node b x ob pb y) hr (by simp -dsimp) fun c' a' o' p' r' hc he => ?_
    have z2 : Z h tr (c' ++ .R l a o p :: c) (.node a' .leaf o' p' r') := by
      have := Z.down (f := .R l a o p) (t := .node b x ob pb y) z
      rw [he] at this
      exact this.focus
    have hnf2 : f ∉ cads (c' ++ .R l a o p :: c) ∧ f ≠ a' ∧ f ∉ r'.ads := by
      have q : f ∉ (T.node b x ob pb y).ads := hnf'.2.2.2
      rw [he, mem_plug] at q
      rw [cads_app]
      simp -dsimp only [cads, T.ads, List.mem_append, List.mem_cons] at q ⊢
      grind
    have z2n := z2.nd
    simp -dsimp only [T.ads, List.nodup_append, List.nodup_cons, List.mem_append, List.mem_cons, List.nil_append] at z2n
    refine e1_4 z2.rt fun tot2 e2 es2 _ hr2 => ?_
    refine set_left_spec (t := .node f .leaf m pf .leaf) e2 hff (by simp -dsimp [T.ads]) (by simp -dsimp [T.ads]; grind) fun h1 e1 hf1 f1 => ?_
    simp -dsimp only [T.ads, List.nil_append, List.mem_singleton] at f1
    simp -dsimp
    refine e1_3 hf1 fun m' ef1 em _ => ?_
    clear hf1
    have : m' = m := by simpa -dsimp [T.sum] using em
    subst this
    have er : (T.node b x ob pb y).rows = (a', o', p') :: (r'.rows ++ rowsR c') := by rw [he, plug_rows, rowsL_allL hc]; simp -dsimp [T.rows]
    have e9 := rowsT (.L a' o' p' r') (c' ++ .R l a o p :: c) (by simp -dsimp [rowsL, rowsL_app, rowsL_allL hc, ← eA]) (by rw [← eB, er]; simp -dsimp [rowsR, rowsR_app])
    have q : RepC h1 tr (c' ++ .R l a o p :: c) (.ref a') (T.node a' .leaf o' p' r').sum := z2.rc.frame (fun d hd => f1 d (by grind) (by grind)) (f1 tr (by obtain ⟨v, ev⟩ := etr; exact Ne.symm (nd_ne ev e2)) (by obtain ⟨v, ev⟩ := etr; exact Ne.symm (nd_ne ev hf)))
    have es3 : (T.node a' .leaf o' p' r').sum = tot2 := by rw [es2]; rfl
    rw [es3] at q
    have hcc : RepC h1 tr (.L a' o' p' r' :: (c' ++ .R l a o p :: c)) (.ref f) 0 := ⟨tot2, e1, es2, hr2.frame fun d hd => f1 d (by grind) (by grind), q⟩
    refine attach (g := .L a' o' p' r') (c := c' ++ .R l a o p :: c) (f := f) hcc ef1 ?_ ?_ (by simp -dsimp) (by simp -dsimp) (posT _ e9) (sumT _ e9) fun h' t' z' hr' f' => ?_
    · simp -dsimp only [cads, List.nodup_cons, List.nodup_append, List.mem_append]; grind
    · simp -dsimp only [cads, List.mem_cons, List.mem_append]; grind
    · refine k h' ⟨t', z', hr'.trans e9⟩ fun d d1 d2 d3 d4 => ?_
      have d5 : d ≠ a' := by
        rintro rfl
        refine d4 ?_
        rw [← eB, er]
        simp -dsimp
      rw [f' d (by rw [f1 d d5 d3]; exact d1) d2 (offT _ d e9 d3 d4), f1 d d5 d3]
end Mine

namespace Mine
open PySem

theorem lsv_concat (A : List Row) (x : Row) : lsv (A ++ [x]) = .ref x.1 := by simp -dsimp [lsv, hdv]

theorem put_ahead_spec {n tr f : Nat} {A B : List Row} {x : Row} {m : Int} {pf : V} {h : H} {Q : V → H → Prop} (T9 : Tree h tr (A ++ x :: B)) (hf : h f = some (nd m pf .none .none .none)) (hnf : f ∉ (A ++ x :: B).map (·.1)) (hp : Pos (A ++ x :: B)) (hm : 0 < m) (hb : rsum (A ++ x :: B) + m ≤ big)
    (k : ∀ h', Tree h' tr (A ++ (f, m, pf) :: x :: B) → (∀ d, h d ≠ none → d ≠ tr → d ≠ f → d ∉ (A ++ x :: B).map (·.1) → h' d = h d) → Q .none h') : CC (n + 6) 19 [.ref tr, .ref x.1, .ref f] h Q := by
  have T8 := T9
  refine e3_3 T9.at fun c l r z eA eB => ?_
  refine callI (fd := ⟨[58, 59, 71], b_put_ahead⟩) rfl rfl ?_
  simp -dsimp [b_put_ahead]
  refine preceding_spec z ?_
  rw [eA]
  rcases List.eq_nil_or_concat A with rfl | ⟨A', y, rfl⟩
  · -- no one before
    obtain ⟨a, o, p⟩ := x
    dsimp only at z
    simp -dsimp [lsv, hdv]
    refine e1_4 z.rt fun tot e es hl hr => ?_
    have zn := z.nd
    obtain ⟨v0, etr⟩ := z.rc.tree
    have hlr : l.rows = [] := (List.append_eq_nil_iff.mp eA).2
    have hcr : rowsL c = [] := (List.append_eq_nil_iff.mp eA).1
    cases l with
    | node b x ob pb y => simp -dsimp [T.rows] at hlr
    | leaf =>
      have hnf' : f ∉ cads c ∧ f ≠ a ∧ f ∉ r.ads := by
        have q : f ∉ (plug c (.node a .leaf o p r)).ads := by rw [mem_ads_rows, plug_rows]; rw [← eB] at hnf; simpa -dsimp [T.rows, List.append_assoc, hcr] using hnf
        rw [mem_plug] at q
        simp -dsimp only [T.ads, List.mem_append, List.mem_cons] at q
        grind
      have hff : RepT h .none (.node f .leaf m pf .leaf) := ⟨m, hf, by simp -dsimp [T.sum], trivial, trivial⟩
      simp -dsimp only [T.ads, List.nodup_append, List.nodup_cons, List.mem_append, List.mem_cons, List.nil_append] at zn
      refine set_left_spec (t := .node f .leaf m pf .leaf) e hff (by simp -dsimp [T.ads]) (by simp -dsimp [T.ads]; grind) fun h1 e1 hf1 f1 => ?_
      simp -dsimp only [T.ads, List.nil_append, List.mem_singleton] at f1
      refine e1_3 hf1 fun m' ef1 em _ => ?_
      clear hf1
      have : m' = m := by simpa -dsimp [T.sum] using em
      subst this
      have q : RepC h1 tr c (.ref a) (T.node a .leaf o p r).sum := z.rc.frame (fun d hd => f1 d (by grind) (by grind)) (f1 tr (Ne.symm (nd_ne etr e)) (Ne.symm (nd_ne etr hf)))
      have es3 : (T.node a .leaf o p r).sum = tot := by rw [es]; rfl
      rw [es3] at q
      have hcc : RepC h1 tr (.L a o p r :: c) (.ref f) 0 := ⟨tot, e1, es, hr.frame fun d hd => f1 d (by grind) (by grind), q⟩
      simp -dsimp [get_tot ef1]
      refine add_above_spec (c := .L a o p r :: c) (m := m') hcc (by simp -dsimp only [cads, List.nodup_cons, List.nodup_append, List.mem_append]; grind) fun h2 hc2 f2 => ?_
      simp -dsimp only [cads, List.mem_cons, List.mem_append] at f2
      have ef2 : h2 f = some (nd m' pf .none .none (.ref a)) := by rw [f2 f (by grind)]; exact ef1
      have z2 : Z h2 tr (.L a o p r :: c) (.node f .leaf m' pf .leaf) := ⟨by simpa -dsimp [T.sum] using hc2, ⟨m', ef2, by simp -dsimp [T.sum], trivial, trivial⟩, by
        simp -dsimp only [T.ads, cads, List.nil_append, List.nodup_append, List.nodup_cons, List.mem_append, List.mem_cons]; grind⟩
      have e9 : (plug (.L a o p r :: c) (.node f .leaf m' pf .leaf)).rows = [] ++ (f, m', pf) :: (a, o, p) :: B := by
        rw [plug_rows, ← eB]; simp -dsimp [rowsL, rowsR, hcr, T.rows]
      have hpos : (plug (.L a o p r :: c) (.node f .leaf m' pf .leaf)).pos := fun y hy => by
        rw [e9] at hy
        simp -dsimp only [List.nil_append, List.mem_cons] at hy
        rcases hy with hy | hy
        · rw [hy]; exact hm
        · exact hp y (by simpa -dsimp using hy)
      rw [nr_none]
      refine settle_up_par (c := .L a o p r :: c) z2 hpos (by rw [T.sum_rows, e9]; simp -dsimp at hb ⊢; lia) fun h' t' z' hr' f' => ?_
      refine k h' ⟨t', z', hr'.trans e9⟩ fun d d1 d2 d3 d4 => ?_
      have d5 : d ≠ a ∧ d ∉ r.ads ∧ d ∉ cads c := by
        have q : d ∉ (plug c (.node a .leaf o p r)).ads := by rw [mem_ads_rows, plug_rows]; rw [← eB] at d4; simpa -dsimp [T.rows, List.append_assoc, hcr] using d4
        rw [mem_plug] at q
        simp -dsimp only [T.ads, List.mem_append, List.mem_cons] at q
        grind
      have e1 : h2 d = h d := by rw [f2 d (by grind), f1 d d5.1 d3]
      rw [f' d (by rw [e1]; exact d1) d2 (by rw [mem_ads_rows, e9]; simp -dsimp at d4 ⊢; grind), e1]
  · simp -dsimp only [List.concat_eq_append] at *
    rw [List.concat_eq_append, lsv_concat]
    simp -dsimp
    have T7 : Tree h tr (A' ++ y :: x :: B) := by simpa -dsimp using T8
    refine put_behind_spec T7 hf (by simpa -dsimp using hnf) (by simpa -dsimp using hp) hm (by simpa -dsimp using hb) fun h' T6 f' => ?_
    simp -dsimp
    refine k h' (by simpa -dsimp using T6) fun d d1 d2 d3 d4 => f' d d1 d2 d3 (by simpa -dsimp using d4)

/-! drop_interval -/
noncomputable def bump (m : Int) : List Fm → List Fm
  | [] => []
  | .L a o p r :: c => .L a (o + m) p r :: c
  | .R l a o p :: c => .R l a (o + m) p :: c
theorem bump_par (m : Int) (c : List Fm) : parOf (bump m c) = parOf c := by
  cases c with
  | nil => rfl
  | cons f c => cases f <;> rfl
theorem bump_ads (m : Int) (c : List Fm) : cads (bump m c) = cads c := by
  cases c with
  | nil => rfl
  | cons f c => cases f <;> rfl
theorem bump_rep {h : H} {tr : Nat} {m : Int} {c : List Fm} {v : V} {s : Int} : RepC h tr (bump m c) v s ↔ RepC h tr c v (s + m) := by
  cases c with
  | nil => exact Iff.rfl
  | cons f c =>
    cases f with
    | L a o p r => exact ⟨fun ⟨tot, a, b, c, d⟩ => ⟨tot, a, by lia, c, d⟩, fun ⟨tot, a, b, c, d⟩ => ⟨tot, a, by lia, c, d⟩⟩
    | R l a o p => exact ⟨fun ⟨tot, a, b, c, d⟩ => ⟨tot, a, by lia, c, d⟩, fun ⟨tot, a, b, c, d⟩ => ⟨tot, a, by lia, c, d⟩⟩

theorem drop_loop {n tr mv : Nat} {m : Int} {c : List Fm} {pm lm rm qm : V} {Qn : R → H → Prop} {Qr : V → H → Prop} (I : R → H → Prop)
    (hI : ∀ ρ h, vT (CC n) iniT (.cmp .isNot (.var 65) (.var 75)) ρ h (fun b h => if b = true then vB (CC n) iniT (.cons (.setAttr (.var 65) 51 (.bin .add (.attr (.var 65) 51) (.attr (.var 74) 51))) (.cons (.assign 65 (.attr (.var 65) 53)) .nil)) ρ h I Qr else Qn ρ h) → I ρ h) :
    ∀ (c1 : List Fm) (v : V) (s : Int) (ρ : R) (h : H), RepC h tr (c1 ++ bump m c) v s → (cads (c1 ++ c)).Nodup → mv ∉ cads (c1 ++ c) → h mv = some (nd m pm lm rm qm) → ρ 65 = some (parOf (c1 ++ c)) → ρ 75 = some (parOf c) → ρ 74 = some (.ref mv) → ρ 58 = some (.ref tr) →
      (∀ ρ' h', RepC h' tr (c1 ++ c) v (s + m) → (∀ d, d ∉ cads c1 → h' d = h d) → ρ' 74 = some (.ref mv) → ρ' 58 = some (.ref tr) → Qn ρ' h') → I ρ h := by
  intro c1
  induction c1 with
  | nil =>
    intro v s ρ h hc hd hmv emv r65 r75 r74 r58 k
    refine hI ρ h ?_
    have : pyIs h (parOf c) (parOf c) = some true := by cases c <;> simp -dsimp
    simp -dsimp only [List.nil_append] at r65
    simp -dsimp [r65, r75, this]
    exact k ρ h (bump_rep.mp hc) (fun _ _ => rfl) r74 r58
  | cons g c1 ih =>
    intro v s ρ h hc hd hmv emv r65 r75 r74 r58 k
    refine hI ρ h ?_
    obtain ⟨v0, etr⟩ := hc.tree
    have hin := hc.isIn
    rw [List.cons_append] at hc
    have hne : pyIs h (.ref g.ad) (parOf c) = some false := by
      cases c with
      | nil => rfl
      | cons g' c' =>
        refine is_ne ?_ (hin _ (ad_cads g _)) ?_
        · intro e
          have h1 : g'.ad ∈ cads (c1 ++ g' :: c') := by rw [cads_app]; exact List.mem_append_right _ (ad_cads g' c')
          cases g <;> (simp -dsimp only [List.cons_append, cads, List.nodup_cons, List.mem_append, ad_L, ad_R] at hd e; rw [e] at hd; exact hd.1 (.inr h1))
        · refine hin g'.ad ?_
          rw [List.cons_append]
          refine cads_sub g _ ?_
          rw [cads_app, bump_ads]
          exact List.mem_append_right _ (ad_cads g' c')
    simp -dsimp only [List.cons_append, parOf_cons] at r65
    have hcad : cads (c1 ++ bump m c) = cads (c1 ++ c) := by rw [cads_app, cads_app, bump_ads]
    cases g with
    | L a o p r =>
      obtain ⟨tot, e, es, hr, hc⟩ := hc
      have nt := RepC.ne_tr etr hc
      simp -dsimp only [List.cons_append, cads, List.nodup_cons, List.nodup_append, List.mem_append, List.mem_cons] at hd hmv
      simp -dsimp only [ad_L] at hne
      have epar : parOf (c1 ++ bump m c) = parOf (c1 ++ c) := by cases c1 with
        | nil => exact bump_par m c
        | cons _ _ => rfl
      rw [epar] at e
      simp -dsimp [r65, r75, r74, hne, get_tot e, get_tot emv, set_tot e, get_par hs_self]
      have fr : ∀ d, d ≠ a → (h.set a (nd (tot + m) p v r.val (parOf (c1 ++ c)))) d = h d := fun d hd => H.set_ne hd
      refine ih (.ref a) tot _ _ (hc.frame (fun d hm => fr d (by rw [hcad] at hm; grind)) (fr tr (Ne.symm (nd_ne etr e)))) (by grind) (by grind) (by rw [fr mv (by grind)]; exact emv) (by simp -dsimp) (by simp -dsimp [r75]) (by simp -dsimp [r74]) (by simp -dsimp [r58]) fun ρ' h' hc' f h74 h58 => ?_
      have sub : ∀ d, d ∈ cads c1 → d ∈ cads (c1 ++ c) := fun d hd => by rw [cads_app]; exact List.mem_append_left _ hd
      refine k ρ' h' ⟨tot + m, ?_, by lia, ?_, hc'⟩ (fun d hm => ?_) h74 h58
      · rw [f a (by grind)]; exact hs_self
      · exact hr.frame fun d hm => by rw [f d (by grind), fr d (by grind)]
      · simp -dsimp only [cads, List.mem_cons, List.mem_append] at hm
        rw [f d (by grind), fr d (by grind)]
    | R l a o p =>
      obtain ⟨tot, e, es, hr, hc⟩ := hc
      have nt := RepC.ne_tr etr hc
      simp -dsimp only [List.cons_append, cads, List.nodup_cons, List.nodup_append, List.mem_append, List.mem_cons] at hd hmv
      simp -dsimp only [ad_R] at hne
      have epar : parOf (c1 ++ bump m c) = parOf (c1 ++ c) := by cases c1 with
        | nil => exact bump_par m c
        | cons _ _ => rfl
      rw [epar] at e
      simp -dsimp [r65, r75, r74, hne, get_tot e, get_tot emv, set_tot e, get_par hs_self]
      have fr : ∀ d, d ≠ a → (h.set a (nd (tot + m) p l.val v (parOf (c1 ++ c)))) d = h d := fun d hd => H.set_ne hd
      refine ih (.ref a) tot _ _ (hc.frame (fun d hm => fr d (by rw [hcad] at hm; grind)) (fr tr (Ne.symm (nd_ne etr e)))) (by grind) (by grind) (by rw [fr mv (by grind)]; exact emv) (by simp -dsimp) (by simp -dsimp [r75]) (by simp -dsimp [r74]) (by simp -dsimp [r58]) fun ρ' h' hc' f h74 h58 => ?_
      have sub : ∀ d, d ∈ cads c1 → d ∈ cads (c1 ++ c) := fun d hd => by rw [cads_app]; exact List.mem_append_left _ hd
      refine k ρ' h' ⟨tot + m, ?_, by lia, ?_, hc'⟩ (fun d hm => ?_) h74 h58
      · rw [f a (by grind)]; exact hs_self
      · exact hr.frame fun d hm => by rw [f d (by grind), fr d (by grind)]
      · simp -dsimp only [cads, List.mem_cons, List.mem_append] at hm
        rw [f d (by grind), fr d (by grind)]

theorem drop_spec {n tr : Nat} {A B : List Row} {x : Row} {h : H} {Q : V → H → Prop} (T9 : Tree h tr (A ++ x :: B)) (hp : Pos (A ++ x :: B)) (hb : rsum (A ++ x :: B) ≤ big)
    (k : ∀ h', Tree h' tr (A ++ B) → (∀ d, h d ≠ none → d ≠ tr → d ∉ (A ++ x :: B).map (·.1) → h' d = h d) → Q .none h') : CC (n + 5) 21 [.ref tr, .ref x.1] h Q := by
  refine e3_3 T9.at fun c l r z eA eB => ?_
  obtain ⟨a, o, p⟩ := x
  dsimp only at z
  refine callI (fd := ⟨[58, 59], b_drop_interval⟩) rfl rfl ?_
  have zr := z.rt
  refine e1_4 z.rt fun tot e es hl hr => ?_
  have zn := z.nd
  obtain ⟨v0, etr⟩ := z.rc.tree
  simp -dsimp only [T.ads, List.nodup_append, List.nodup_cons, List.mem_append, List.mem_cons] at zn
  have hposAB : Pos (A ++ B) := fun y hy => hp y (by simp -dsimp only [List.mem_append, List.mem_cons] at hy ⊢; grind)
  have ho : 0 < o := hp (a, o, p) (by simp -dsimp)
  have hsumAB : rsum (A ++ B) ≤ big := by simp -dsimp at hb ⊢; lia
  have offd : ∀ d, d ∉ (A ++ (a, o, p) :: B).map (·.1) → d ≠ a ∧ d ∉ cads c ∧ d ∉ l.ads ∧ d ∉ r.ads := fun d hd => by
    have q : d ∉ (plug c (.node a l o p r)).ads := by rw [mem_ads_rows, plug_rows]; rw [← eA, ← eB] at hd; simpa -dsimp [T.rows, List.append_assoc] using hd
    rw [mem_plug] at q
    simp -dsimp only [T.ads, List.mem_append, List.mem_cons] at q
    grind
  have offT : ∀ (t : T) (d : Nat), t.rows = A ++ B → d ∉ (A ++ (a, o, p) :: B).map (·.1) → d ∉ t.ads := fun t d e1 h2 => by
    rw [mem_ads_rows, e1]; simp -dsimp at h2 ⊢; grind
  simp -dsimp [b_drop_interval, get_par e]
  refine own_spec zr ?_
  simp -dsimp
  refine add_above_spec (m := -o) z.rc zn.1 fun h1 hc1 f1 => ?_
  have e1 : h1 a = some (nd tot p l.val r.val (parOf c)) := by rw [f1 a (by grind)]; exact e
  have hl1 : RepT h1 (.ref a) l := hl.frame fun d hd => f1 d (by grind)
  have hr1 : RepT h1 (.ref a) r := hr.frame fun d hd => f1 d (by grind)
  have etr1 : h1 tr = some (tr0 v0) := by rw [f1 tr (RepC.ne_tr etr z.rc)]; exact etr
  have es3 : (T.node a l o p r).sum + -o = l.sum + r.sum := by simp -dsimp only [T.sum]; lia
  rw [es3] at hc1
  -- one son at most
  have single : ∀ t : T, (∀ d ∈ t.ads, d ∈ l.ads ∨ d ∈ r.ads) → t.ads.Nodup → RepT h1 (.ref a) t → t.sum = l.sum + r.sum → t.rows = l.rows ++ r.rows → ∀ (ρ : R) (Qn : R → H → Prop), ρ 58 = some (.ref tr) → ρ 75 = some (parOf c) → CC (n + 4) 3 [.ref tr, .ref a, t.val] h1 (fun v h => nrf v (vB (CC (n + 4)) iniT (.cons (.expr (.call 11 (.cons (.var 58) (.cons (.var 75) .nil)))) (.cons .retN .nil)) ρ h Qn Q)) := by
    intro t hsub hnd ht hs hrw ρ Qn r58 r75
    refine put_in_stead_spec hc1 e1 ht zn.1 hnd ?_ ?_ ?_ fun h2 hc2 ht2 f2 => ?_
    · intro d hd1 hd2
      have := hsub d hd2
      grind
    · grind
    · intro q
      have := hsub a q
      grind
    · simp -dsimp [r58, r75]
      have z2 : Z h2 tr c t := ⟨by rw [hs]; exact hc2, ht2, by
        refine List.nodup_append.mpr ⟨zn.1, hnd, fun d hd1 b hd2 => ?_⟩
        have := hsub b hd2
        grind⟩
      have e9 : (plug c t).rows = A ++ B := by rw [plug_rows, hrw, ← eA, ← eB]; simp -dsimp
      refine settle_up_par z2 (fun y hy => hposAB y (by rw [← e9]; exact hy)) (by rw [T.sum_rows, e9]; exact hsumAB) fun h3 t3 z3 hr3 f3 => ?_
      rw [nr_none]
      refine k h3 ⟨t3, z3, hr3.trans e9⟩ fun d d1 d2 d3 => ?_
      refine e0_4 (offd d d3) fun g1 g2 g3 g4 => ?_
      have e2 : h2 d = h d := by
        rw [f2 d d2 g2 (fun q => (hsub d q).elim g3 g4), f1 d g2]
      rw [f3 d (by rw [e2]; exact d1) d2 (offT _ d e9 d3), e2]
  cases l with
  | leaf =>
    have := single r (fun d hd => .inr hd) (by grind) hr1 (by simp -dsimp [T.sum]) (by simp -dsimp [T.rows])
    cases r with
    | leaf => simp -dsimp [get_par e1, get_rt e1, get_lf e1]; exact this _ _ rfl rfl
    | node b x ob pb y => simp -dsimp [get_par e1, get_rt e1, get_lf e1]; exact this _ _ rfl rfl
  | node lb lx lo lp ly =>
    cases r with
    | leaf =>
      simp -dsimp [get_par e1, get_lf e1, get_rt e1]
      exact single (.node lb lx lo lp ly) (fun d hd => .inl hd) (by grind) hl1 (by simp -dsimp [T.sum]) (by simp -dsimp [T.rows]) _ _ rfl rfl
    | node b x ob pb y =>
      simp -dsimp [get_par e1, get_lf e1, get_rt e1]
      refine leftmost_spec (t := .node b x ob pb y) hr1 (by simp -dsimp) fun c' a' o' p' r' hc he => ?_
      simp -dsimp [get_rt e1]
      have hdis : ∀ d ∈ (T.node b x ob pb y).ads, d ≠ a ∧ d ∉ cads c ∧ d ∉ (T.node lb lx lo lp ly).ads := by grind
      refine put_in_stead_spec (t := .node b x ob pb y) hc1 e1 hr1 zn.1 (by grind) (fun d h1 h2 => (hdis d h2).2.1 h1) (by grind) (fun q => (hdis a q).1 rfl) fun h2 hc2 ht2 f2 => ?_
      simp -dsimp
      have hl2 : RepT h2 (.ref a) (.node lb lx lo lp ly) := hl1.frame fun d hd => f2 d (fun q => by subst q; exact RepT.ne_tr etr hl hd) (by grind) (by grind)
      have hs : (T.node b x ob pb y).sum + (T.node lb lx lo lp ly).sum = (T.node lb lx lo lp ly).sum + (T.node b x ob pb y).sum := by lia
      generalize hm9 : (T.node lb lx lo lp ly).sum = m9 at hs hc2 ⊢
      have z2 : Z h2 tr (bump m9 c) (.node b x ob pb y) := ⟨bump_rep.mpr (by rw [hs]; exact hc2), by rw [bump_par]; exact ht2, by
        rw [bump_ads]
        exact List.nodup_append.mpr ⟨zn.1, by grind, fun d hd b' hb' => by rintro rfl; exact (hdis d hb').2.1 hd⟩⟩
      rw [he] at z2
      have z3 := z2.focus
      have z3n := z3.nd
      have hcad : cads (c' ++ bump m9 c) = cads (c' ++ c) := by rw [cads_app, cads_app, bump_ads]
      rw [hcad] at z3n
      have hadr : ∀ d, d ∈ (T.node b x ob pb y).ads ↔ d ∈ cads c' ∨ d ∈ (T.node a' .leaf o' p' r').ads := fun d => by rw [he]; exact mem_plug
      have hlo : ∀ d ∈ (T.node lb lx lo lp ly).ads, d ∉ cads (c' ++ c) ∧ d ≠ a' ∧ d ∉ r'.ads := fun d hd => by
        have q1 : d ∉ (T.node b x ob pb y).ads := fun q => (hdis d q).2.2 hd
        have q2 : d ∉ cads c := by grind
        rw [hadr] at q1
        rw [cads_app]
        simp -dsimp only [T.ads, List.mem_append, List.mem_cons] at q1 ⊢
        grind
      refine e1_4 z3.rt fun tot2 e2 es2 _ hr2 => ?_
      obtain ⟨v2, etr2⟩ := z3.rc.tree
      have ntl := RepT.ne_tr etr2 hl2
      refine set_left_spec (t := .node lb lx lo lp ly) e2 hl2 (by grind) (fun q => (hlo a' q).2.1 rfl) fun h3 e3 hl3 f3 => ?_
      simp -dsimp
      simp -dsimp only [T.ads, List.nodup_append, List.nodup_cons, List.mem_append, List.mem_cons, List.nil_append] at z3n
      have q : RepC h3 tr (c' ++ bump m9 c) (.ref a') (T.node a' .leaf o' p' r').sum := z3.rc.frame (fun d hd => f3 d (by rw [hcad] at hd; grind) (fun q => (hlo d q).1 (by rw [hcad] at hd; exact hd))) (f3 tr (Ne.symm (nd_ne etr2 e2)) ntl)
      have es3' : (T.node a' .leaf o' p' r').sum = tot2 := by rw [es2]; rfl
      rw [es3'] at q
      have hcc : RepC h3 tr (.L a' o' p' r' :: (c' ++ bump m9 c)) (.ref lb) 0 := ⟨tot2, e3, es2, hr2.frame fun d hd => f3 d (by grind) (fun q => (hlo d q).2.2 hd), q⟩
      have hlb : lb ∈ (T.node lb lx lo lp ly).ads := by simp -dsimp [T.ads]
      refine e1_4 (id hl3) fun tl3 el3 esl3 hlx3 hly3 => ?_
      have etl3 : tl3 = m9 := by rw [esl3, ← hm9]; rfl
      subst etl3
      first | with_reducible refine b_whl fun I hI => ?_ | with_reducible refine s_whl fun I hI => ?_ | (simp -dsimp; first | with_reducible refine b_whl fun I hI => ?_ | with_reducible refine s_whl fun I hI => ?_)
      refine drop_loop (c := c) (m := tl3) (mv := lb) I hI (.L a' o' p' r' :: c') (.ref lb) 0 _ h3 hcc ?_ ?_ el3 (by simp -dsimp) (by simp -dsimp) (by simp -dsimp) (by simp -dsimp) fun ρ' h4 hc4 f4 r74 r58 => ?_
      · simp -dsimp only [List.cons_append, cads, List.nodup_cons, List.nodup_append, List.mem_append]; grind
      · have := hlo lb hlb
        simp -dsimp only [List.cons_append, cads, List.mem_append, List.mem_cons]; grind
      simp -dsimp only [cads, List.mem_append, List.mem_cons] at f4
      have f4' : ∀ d ∈ (T.node lb lx lo lp ly).ads, h4 d = h3 d := fun d hd => f4 d (by
        have := hlo d hd
        rw [cads_app, List.mem_append] at this
        grind)
      have hl4 : RepT h4 (.ref a') (.node lb lx lo lp ly) := hl3.frame f4'
      have el4 : h4 lb = some (nd tl3 lp lx.val ly.val (.ref a')) := by rw [f4' lb hlb]; exact el3
      simp -dsimp [r74, r58, get_par el4]
      have z4 : Z h4 tr (.L a' o' p' r' :: (c' ++ c)) (.node lb lx lo lp ly) := ⟨by rw [hm9]; simpa -dsimp using hc4, hl4, by
        refine List.nodup_append.mpr ⟨?_, by grind, fun d hd b' hb' => ?_⟩
        · simp -dsimp only [cads, List.nodup_cons, List.nodup_append, List.mem_append]; grind
        · have := hlo b' hb'
          simp -dsimp only [cads, List.mem_append, List.mem_cons] at hd
          grind⟩
      have e9 : (plug (.L a' o' p' r' :: (c' ++ c)) (.node lb lx lo lp ly)).rows = A ++ B := by
        rw [plug_rows, ← eA, ← eB, he, plug_rows, rowsL_allL hc]
        simp -dsimp [rowsL, rowsR, rowsL_app, rowsR_app, rowsL_allL hc, T.rows]
      refine settle_up_par z4 (fun y hy => hposAB y (by rw [← e9]; exact hy)) (by rw [T.sum_rows, e9]; exact hsumAB) fun h5 t5 z5 hr5 f5 => ?_
      simp -dsimp
      refine k h5 ⟨t5, z5, hr5.trans e9⟩ fun d d1 d2 d3 => ?_
      refine e0_4 (offd d d3) fun g1 g2 g3 g4 => ?_
      have g5 : ¬ (d ∈ cads c' ∨ d ∈ (T.node a' .leaf o' p' r').ads) := fun x => g4 ((hadr d).mpr x)
      simp -dsimp only [T.ads, List.mem_append, List.mem_cons, List.nil_append] at g5
      have e4 : h4 d = h d := by
        rw [f4 d (by grind), f3 d (by grind) g3, f2 d d2 g2 g4, f1 d g2]
      rw [f5 d (by rw [e4]; exact d1) d2 (offT _ d e9 d3), e4]
end Mine

namespace Mine
open PySem

noncomputable abbrev adr (rows : List Row) : List Nat := rows.map (·.1)
theorem Tree.isIn {h : H} {tr : Nat} {rows : List Row} (t : Tree h tr rows) : ∀ d, d = tr ∨ d ∈ adr rows → isIn h d := by
  obtain ⟨t, z, rfl⟩ := t
  intro d hd
  rcases hd with rfl | hd
  · have e : h d = some (tr0 t.val) := z.rc
    exact ⟨_, _, e⟩
  · rw [← mem_ads_rows] at hd
    exact z.rt.isIn d hd
theorem Tree.nodup {h : H} {tr : Nat} {rows : List Row} (t : Tree h tr rows) : (adr rows).Nodup := by
  obtain ⟨t, z, rfl⟩ := t
  have := nodup_ads z
  rwa [T.ads_rows] at this
theorem Tree.tr_off {h : H} {tr : Nat} {rows : List Row} (t : Tree h tr rows) : tr ∉ adr rows := by
  obtain ⟨t, z, rfl⟩ := t
  obtain ⟨v, e⟩ := z.rc.tree
  rw [← mem_ads_rows]
  exact RepT.ne_tr e z.rt
theorem Tree.frame {h h' : H} {tr : Nat} {rows : List Row} (t : Tree h tr rows) (k : ∀ d, d = tr ∨ d ∈ adr rows → h' d = h d) : Tree h' tr rows := by
  obtain ⟨t, z, rfl⟩ := t
  refine ⟨t, z.frame fun d hd => k d ?_, rfl⟩
  rcases hd with q | q | q
  · exact .inl q
  · simp -dsimp [cads] at q
  · exact .inr (mem_ads_rows.mp q)
theorem Tree.setOff {h : H} {tr : Nat} {rows : List Row} (t : Tree h tr rows) {w : Nat} (hw : ¬ Mine.isIn h w) (o : O) : Tree (h.set w o) tr rows :=
  t.frame fun d hd => H.set_ne (by rintro rfl; exact hw (t.isIn d hd))
theorem Tree.fresh_off {h : H} {tr g : Nat} {rows : List Row} (t : Tree h tr rows) (hg : h g = none) : g ≠ tr ∧ g ∉ adr rows := by
  refine ⟨?_, fun q => ?_⟩
  · rintro rfl
    obtain ⟨_, _, e⟩ := t.isIn g (.inl rfl); rw [e] at hg; cases hg
  · obtain ⟨_, _, e⟩ := t.isIn g (.inr q); rw [e] at hg; cases hg
/-- what a change of one tree leaves -/
structure Step (h : H) (tr : Nat) (rows : List Row) (h' : H) (rows' : List Row) : Prop where
  keep : ∀ d, h d ≠ none → d ≠ tr → d ∉ adr rows → h' d = h d
  new : ∀ d ∈ adr rows', d ∈ adr rows ∨ h d = none
  alive : h' tr ≠ none
theorem Step.refl {h : H} {tr : Nat} {rows : List Row} (t : Tree h tr rows) : Step h tr rows h rows :=
  ⟨fun _ _ _ _ => rfl, fun _ hd => .inl hd, by obtain ⟨_, _, e⟩ := t.isIn tr (.inl rfl); rw [e]; simp -dsimp⟩
theorem Step.trans {h h' h'' : H} {tr : Nat} {rows rows' rows'' : List Row} (a : Step h tr rows h' rows') (b : Step h' tr rows' h'' rows'') : Step h tr rows h'' rows'' := by
  refine ⟨fun d h1 h2 h3 => ?_, fun d hd => ?_, b.alive⟩
  · have e := a.keep d h1 h2 h3
    rw [b.keep d (by rw [e]; exact h1) h2 fun q => ?_, e]
    rcases a.new d q with q | q
    · exact h3 q
    · exact h1 q
  · rcases b.new d hd with q | q
    · exact a.new d q
    · by_cases h1 : h d = none
      · exact .inr h1
      · by_cases h3 : d ∈ adr rows
        · exact .inl h3
        · by_cases h2 : d = tr
          · subst h2; exact absurd q a.alive
          · rw [a.keep d h1 h2 h3] at q; exact absurd q h1
theorem Step.fresh {h : H} {tr : Nat} {rows : List Row} (t : Tree h tr rows) {c : Nat} (hc : h c = none) (o : O) : Step h tr rows (h.set c o) rows := by
  refine ⟨fun d h1 _ _ => H.set_ne (by first | exact ne_kept h1 hc | (rintro rfl; exact h1 hc)), fun d hd => .inl hd, ?_⟩
  refine e2_1 (t.isIn tr (.inl rfl)) fun _ _ e => ?_
  rw [H.set_ne (by first | exact ne_new hc e | exact ne_new' hc e | exact ne_obj hc e nofun | exact ne_obj e hc nofun | (rintro rfl; rw [e] at hc; cases hc)), e]; simp -dsimp
/-- a fresh node was put in -/
theorem Step.ins {h h4 : H} {tr f : Nat} {o : O} {rows rows4 : List Row} (t4 : Tree h4 tr rows4) (hf : h f = none) (k : ∀ d, (h.set f o) d ≠ none → d ≠ tr → d ≠ f → d ∉ adr rows → h4 d = (h.set f o) d) (e : ∀ d ∈ adr rows4, d ∈ adr rows ∨ d = f) : Step h tr rows h4 rows4 := by
  refine ⟨fun d h1 h2 h3 => ?_, fun d hd => ?_, ?_⟩
  · have hne : d ≠ f := by first | exact ne_kept h1 hf | (rintro rfl; exact h1 hf)
    rw [k d (by rw [H.set_ne hne]; exact h1) h2 hne h3, H.set_ne hne]
  · rcases e d hd with q | rfl
    · exact .inl q
    · exact .inr hf
  · obtain ⟨_, _, e⟩ := t4.isIn tr (.inl rfl); rw [e]; simp -dsimp
/-- objects that are no instances stay -/
theorem Step.data {h h' : H} {tr : Nat} {rows rows' : List Row} (s : Step h tr rows h' rows') (t : Tree h tr rows) {d : Nat} (h1 : h d ≠ none) (h2 : ¬ Mine.isIn h d) : h' d = h d :=
  s.keep d h1 (by rintro rfl; exact h2 (t.isIn d (.inl rfl))) fun q => h2 (t.isIn d (.inr q))

section
variable {n tr : Nat} {h : H} {A B rows : List Row} {x : Row} {Q : V → H → Prop}
theorem len_spec (t : Tree h tr rows) (q : Q (.int (rsum rows)) h) : CC (n + 2) 2 [.ref tr] h Q := by
  obtain ⟨t, z, rfl⟩ := t
  refine callI (fd := ⟨[58], b_text_length⟩) rfl rfl ?_
  have e : h tr = some (tr0 t.val) := z.rc
  simp -dsimp [b_text_length, get_root e]
  exact total_spec z.rt (by rw [T.sum_rows]; exact q)
theorem own_row (t : Tree h tr (A ++ x :: B)) (q : Q (.int x.2.1) h) : CC (n + 2) 1 [.ref x.1] h Q := by
  refine e3_3 t.at fun c l r z _ _ => ?_
  exact own_spec z.rt q
theorem foll_row (t : Tree h tr (A ++ x :: B)) (q : Q (hdv B) h) : CC (n + 2) 16 [.ref x.1] h Q := by
  refine e3_3 t.at fun c l r z _ e => ?_
  exact following_spec z (by rw [e]; exact q)
theorem prec_row (t : Tree h tr (A ++ x :: B)) (q : Q (lsv A) h) : CC (n + 2) 17 [.ref x.1] h Q := by
  refine e3_3 t.at fun c l r z e _ => ?_
  exact preceding_spec z (by rw [e]; exact q)
theorem plist_row (t : Tree h tr (A ++ x :: B)) : getF h (.ref x.1) 52 = some x.2.2 := by
  refine e3_3 t.at fun c l r z _ _ => ?_
  refine e1_2 z.rt fun tot e _ => ?_
  exact get_pl e
theorem isIn_row (t : Tree h tr (A ++ x :: B)) : isIn h x.1 := t.isIn _ (.inr (by simp -dsimp))
theorem step_of {A B A' B' : List Row} {h h' : H} (t' : Tree h' tr (A' ++ B')) (e : adr (A' ++ B') = adr (A ++ B)) (k : ∀ d, h d ≠ none → d ≠ tr → d ∉ adr (A ++ B) → h' d = h d) : Step h tr (A ++ B) h' (A' ++ B') :=
  ⟨k, fun d hd => .inl (by rw [← e]; exact hd), by obtain ⟨_, _, e⟩ := t'.isIn tr (.inl rfl); rw [e]; simp -dsimp⟩
theorem setPl_row (t : Tree h tr (A ++ x :: B)) (p : V) : ∃ h', setF h (.ref x.1) 52 p = some h' ∧ Tree h' tr (A ++ (x.1, x.2.1, p) :: B) ∧ Step h tr (A ++ x :: B) h' (A ++ (x.1, x.2.1, p) :: B) := by
  refine e3_3 t.at fun c l r z eA eB => ?_
  obtain ⟨a, o, p0⟩ := x
  dsimp only at z ⊢
  refine e1_4 z.rt fun tot e es hl hr => ?_
  have zn := z.nd
  simp -dsimp only [T.ads, List.nodup_append, List.nodup_cons, List.mem_append, List.mem_cons] at zn
  obtain ⟨v0, etr⟩ := z.rc.tree
  have fr : ∀ d, d ≠ a → (h.set a (nd tot p l.val r.val (parOf c))) d = h d := fun d hd => H.set_ne hd
  have z' : Z (h.set a (nd tot p l.val r.val (parOf c))) tr c (.node a l o p r) := ⟨z.rc.frame (fun d hd => fr d (by grind)) (fr tr (Ne.symm (nd_ne etr e))), ⟨tot, hs_self, es, hl.frame fun d hd => fr d (by grind), hr.frame fun d hd => fr d (by grind)⟩, z.nd⟩
  have T' : Tree (h.set a (nd tot p l.val r.val (parOf c))) tr (A ++ (a, o, p) :: B) := ⟨_, z'.top, by rw [plug_rows, ← eA, ← eB]; simp -dsimp [T.rows]⟩
  exact ⟨_, set_pl e, T', step_of T' (by simp -dsimp) fun d h1 h2 h3 => fr d (by rintro rfl; exact h3 (by simp -dsimp))⟩
theorem add_row {m : Int} (t : Tree h tr (A ++ x :: B)) (k : ∀ h', Tree h' tr (A ++ (x.1, x.2.1 + m, x.2.2) :: B) → Step h tr (A ++ x :: B) h' (A ++ (x.1, x.2.1 + m, x.2.2) :: B) → Q .none h') : CC (n + 1) 12 [.ref x.1, .int m] h Q := by
  refine e3_3 t.at fun c l r z eA eB => ?_
  obtain ⟨a, o, p⟩ := x
  dsimp only at z k ⊢
  have zn := z.nd
  simp -dsimp only [T.ads, List.nodup_append, List.nodup_cons, List.mem_append, List.mem_cons] at zn
  have z1 := Z.down (f := .L a o p r) (t := l) z
  refine add_above_spec (c := .L a o p r :: c) z1.rc (by simp -dsimp only [cads, List.nodup_cons, List.nodup_append, List.mem_append]; grind) fun h' hc f => ?_
  simp -dsimp only [cads, List.mem_cons, List.mem_append] at f
  obtain ⟨tot, e, es, hr, hc⟩ := hc
  have hl := z1.rt.frame (h' := h') fun d hd => f d (by grind)
  have esum : (T.node a l (o + m) p r).sum = tot := by simp -dsimp only [T.sum]; lia
  have z' : Z h' tr c (.node a l (o + m) p r) := ⟨by rw [esum]; exact hc, ⟨tot, e, by lia, hl, hr⟩, z.nd⟩
  have T' : Tree h' tr (A ++ (a, o + m, p) :: B) := ⟨_, z'.top, by rw [plug_rows, ← eA, ← eB]; simp -dsimp [T.rows]⟩
  refine k h' T' (step_of T' (by simp -dsimp) fun d h1 h2 h3 => f d ?_)
  have q : d ∉ (plug c (.node a l o p r)).ads := by rw [mem_ads_rows, plug_rows]; rw [← eA, ← eB] at h3; simpa -dsimp [T.rows, List.append_assoc] using h3
  rw [mem_plug] at q
  simp -dsimp only [T.ads, List.mem_append, List.mem_cons] at q
  grind
theorem find_row {at9 : Int} (t : Tree h tr rows) (h0 : 0 ≤ at9) (h1 : at9 < rsum rows)
    (k : ∀ A x B c, rows = A ++ x :: B → rsum A ≤ at9 → at9 < rsum A + x.2.1 → h c = none → Q (.ref c) (h.set c (.tup [.ref x.1, .int (rsum A)]))) : CC (n + 3) 13 [.ref tr, .int at9] h Q := by
  obtain ⟨t, z, rfl⟩ := t
  refine find_spec z h0 (by rw [T.sum_rows]; exact h1) fun c a l o p r e e1 e2 cc hcc => ?_
  refine k (rowsL c ++ l.rows) (a, o, p) (r.rows ++ rowsR c) cc ?_ e1 e2 hcc
  rw [e, plug_rows]; simp -dsimp [T.rows]
theorem root_row (t : Tree h tr rows) : ∃ v, getF h (.ref tr) 57 = some v ∧ (rows = [] → v = .none) ∧ (rows ≠ [] → ∃ a, v = .ref a) := by
  obtain ⟨t, z, rfl⟩ := t
  have e : h tr = some (tr0 t.val) := z.rc
  refine ⟨_, get_root e, fun q => ?_, fun q => ?_⟩
  · cases t with
    | leaf => rfl
    | node a l o p r => simp -dsimp [T.rows] at q
  · cases t with
    | leaf => simp -dsimp [T.rows] at q
    | node a l o p r => exact ⟨a, rfl⟩
end
/-- a new interval -/
theorem init_spec {n c : Nat} {m : Int} {p : V} {h : H} {Q : V → H → Prop} (e : h c = some (.inst 0 [])) (q : Q .none (h.set c (nd m p .none .none .none))) : CC (n + 1) 1000 [.ref c, .int m, p] h Q := by
  refine callI (fd := ⟨[50, 51, 52], b_init_Interval⟩) rfl rfl ?_
  have hh : ∀ (h : H) (o1 o2 : O), (h.set c o1).set c o2 = h.set c o2 := fun h o1 o2 => by funext d; by_cases hd : d = c <;> simp -dsimp [H.set, hd]
  simp -dsimp [b_init_Interval, setF, e, putFs, hh]
  exact q
end Mine

namespace Mine
open PySem

theorem Pos.app_l {A B : List Row} (h : Pos (A ++ B)) : Pos A := fun x hx => h x (by simp -dsimp [hx])
theorem Pos.app_r {A B : List Row} (h : Pos (A ++ B)) : Pos B := fun x hx => h x (by simp -dsimp [hx])
theorem Pos.nn : ∀ {A : List Row}, Pos A → 0 ≤ rsum A
  | [], _ => Int.le_refl _
  | x :: A, h => by
    have := Pos.nn (A := A) fun y hy => h y (by simp -dsimp [hy])
    have := h x (by simp -dsimp)
    simp -dsimp; lia
theorem Pos.zero {A : List Row} (h : Pos A) (e : rsum A = 0) : A = [] := by
  cases A with
  | nil => rfl
  | cons x A =>
    have := Pos.nn (A := A) fun y hy => h y (by simp -dsimp [hy])
    have := h x (by simp -dsimp)
    simp -dsimp at e; lia
/-- the row at a place is one -/
theorem uniq_at : ∀ {A A' B B' : List Row} {x x' : Row} {i : Int}, A ++ x :: B = A' ++ x' :: B' → Pos (A ++ x :: B) → rsum A ≤ i → i < rsum A + x.2.1 → rsum A' ≤ i → i < rsum A' + x'.2.1 → A = A' ∧ x = x' ∧ B = B'
  | [], [], B, B', x, x', i, e, _, _, _, _, _ => by
    simp -dsimp only [List.nil_append, List.cons.injEq] at e
    exact ⟨rfl, e.1, e.2⟩
  | [], y :: A', B, B', x, x', i, e, hp, h1, h2, h3, h4 => by
    simp -dsimp only [List.nil_append, List.cons_append, List.cons.injEq] at e
    obtain ⟨rfl, e⟩ := e
    rw [e] at hp
    have := Pos.nn (A := A') (fun z hz => hp z (by simp -dsimp [hz]))
    simp -dsimp at h1 h2 h3; lia
  | y :: A, [], B, B', x, x', i, e, hp, h1, h2, h3, h4 => by
    simp -dsimp only [List.nil_append, List.cons_append, List.cons.injEq] at e
    obtain ⟨rfl, e⟩ := e
    have := Pos.nn (A := A) (fun z hz => hp z (by simp -dsimp [hz]))
    simp -dsimp at h1 h3 h4; lia
  | y :: A, y' :: A', B, B', x, x', i, e, hp, h1, h2, h3, h4 => by
    simp -dsimp only [List.cons_append, List.cons.injEq] at e
    obtain ⟨rfl, e⟩ := e
    obtain ⟨r1, r2, r3⟩ := uniq_at (i := i - y.2.1) e (fun z hz => hp z (by simp -dsimp only [List.cons_append, List.mem_cons]; exact .inr hz)) (by simp -dsimp at h1; lia) (by simp -dsimp at h2; lia) (by simp -dsimp at h3; lia) (by simp -dsimp at h4; lia)
    exact ⟨by rw [r1], r2, r3⟩

noncomputable def splitR (f : Nat) : Int → List Row → List Row
  | _, [] => []
  | i, (a, o, p) :: B => if i ≤ 0 then (a, o, p) :: B else if i < o then (a, i, p) :: (f, o - i, p) :: B else (a, o, p) :: splitR f (i - o) B
theorem splitR_app (f : Nat) : ∀ {A B : List Row} {i : Int}, Pos A → rsum A ≤ i → splitR f i (A ++ B) = A ++ splitR f (i - rsum A) B
  | [], B, i, _, _ => by simp -dsimp
  | (a, o, p) :: A, B, i, hp, h => by
    have ho : 0 < o := hp (a, o, p) (by simp -dsimp)
    have hp' : Pos A := fun y hy => hp y (by simp -dsimp [hy])
    have := Pos.nn hp'
    simp -dsimp only [rsum_cons] at h
    rw [List.cons_append, splitR, if_neg (by lia), if_neg (by lia), splitR_app f hp' (by lia), List.cons_append]
    simp -dsimp only [rsum_cons]
    rw [show i - o - rsum A = i - (o + rsum A) by lia]
theorem splitR_le (f : Nat) {B : List Row} {i : Int} (h : i ≤ 0) : splitR f i B = B := by
  cases B with
  | nil => rfl
  | cons x B => obtain ⟨a, o, p⟩ := x; rw [splitR, if_pos h]
theorem splitR_cut (f : Nat) {A B : List Row} {i : Int} (hp : Pos A) (h : rsum A = i) : splitR f i (A ++ B) = A ++ B := by
  rw [splitR_app f hp (by lia), splitR_le f (by lia)]
theorem splitR_ge (f : Nat) {A : List Row} {i : Int} (hp : Pos A) (h : rsum A ≤ i) : splitR f i A = A := by
  have := splitR_app (B := []) f hp h
  simpa -dsimp [splitR] using this
theorem splitR_mid (f : Nat) {A B : List Row} {x : Row} {i : Int} (hp : Pos A) (h : rsum A < i) (h2 : i < rsum A + x.2.1) : splitR f i (A ++ x :: B) = A ++ (x.1, i - rsum A, x.2.2) :: (f, rsum A + x.2.1 - i, x.2.2) :: B := by
  obtain ⟨a, o, p⟩ := x
  simp -dsimp only at h2
  rw [splitR_app f hp (by lia), splitR, if_neg (by lia), if_pos (by lia)]
  simp -dsimp only
  rw [show o - (i - rsum A) = rsum A + o - i by lia]
/-- behind a split there is a boundary -/
theorem splitR_bd (f : Nat) : ∀ {B : List Row} {i : Int}, Pos B → 0 ≤ i → i ≤ rsum B → ∃ C D, splitR f i B = C ++ D ∧ rsum C = i ∧ Pos (C ++ D) ∧ rsum (C ++ D) = rsum B
  | [], i, _, h0, h1 => ⟨[], [], rfl, by simp -dsimp at h1 ⊢; lia, fun _ h => (nomatch h), rfl⟩
  | (a, o, p) :: B, i, hp, h0, h1 => by
    have ho : 0 < o := hp (a, o, p) (by simp -dsimp)
    have hp' : Pos B := fun y hy => hp y (by simp -dsimp [hy])
    simp -dsimp only [rsum_cons] at h1
    by_cases c1 : i ≤ 0
    · rw [splitR, if_pos c1]
      exact ⟨[], (a, o, p) :: B, rfl, by simp -dsimp; lia, hp, rfl⟩
    · by_cases c2 : i < o
      · rw [splitR, if_neg c1, if_pos c2]
        refine ⟨[(a, i, p)], (f, o - i, p) :: B, rfl, by simp -dsimp, fun y hy => ?_, by simp -dsimp; lia⟩
        simp -dsimp only [List.cons_append, List.nil_append, List.mem_cons] at hy
        rcases hy with rfl | rfl | hy
        · show 0 < i; lia
        · show 0 < o - i; lia
        · exact hp' y hy
      · rw [splitR, if_neg c1, if_neg c2]
        refine e2_4 (splitR_bd f (B := B) (i := i - o) hp' (by lia) (by lia)) fun C D e1 e2 e3 e4 => ?_
        refine ⟨(a, o, p) :: C, D, by rw [e1]; rfl, by simp -dsimp; lia, fun y hy => ?_, by simp -dsimp at e4 ⊢; omega⟩
        rcases List.mem_cons.mp hy with rfl | hy
        · exact ho
        · exact e3 y hy

theorem split_spec {n tr : Nat} {rows : List Row} {i : Int} {h : H} {Q : V → H → Prop} (t : Tree h tr rows) (hp : Pos rows) (hb : rsum rows ≤ big)
    (k : ∀ f h', Tree h' tr (splitR f i rows) → Step h tr rows h' (splitR f i rows) → Q .none h') : CC (n + 6) 20 [.ref tr, .int i] h Q := by
  refine callI (fd := ⟨[58, 67], b_split_at⟩) rfl rfl ?_
  have stay : ∀ {h'}, Tree h' tr rows → Step h tr rows h' rows → splitR 0 i rows = rows → Q .none h' := fun t' s e => k 0 _ (by rw [e]; exact t') (by rw [e]; exact s)
  simp -dsimp [b_split_at]
  by_cases h0 : 0 < i
  · simp -dsimp [h0]
    refine len_spec t ?_
    by_cases h1 : i < rsum rows
    · simp -dsimp [h1]
      refine find_row t (by lia) h1 fun A x B c e e1 e2 hc => ?_
      subst e
      have hA : Pos A := hp.app_l
      have t1 := t.setOff (notIn_none hc) (.tup [.ref x.1, .int (rsum A)])
      have s1 := Step.fresh t hc (.tup [.ref x.1, .int (rsum A)])
      simp -dsimp
      by_cases c1 : rsum A = i
      · simp -dsimp [c1]
        rw [c1] at t1 s1
        exact stay t1 s1 (splitR_cut 0 hA c1)
      · simp -dsimp [c1]
        refine own_row t1 ?_
        simp -dsimp
        refine add_row t1 fun h2 t2 s2 => ?_
        simp -dsimp
        rw [plist_row t2]
        simp -dsimp [iniT]
        intro f hf
        refine init_spec hs_self ?_
        simp -dsimp
        have hh : ∀ (h : H) (o1 o2 : O), (h.set f o1).set f o2 = h.set f o2 := fun h o1 o2 => by funext d; by_cases hd : d = f <;> simp -dsimp [H.set, hd]
        rw [hh]
        have hx : 0 < x.2.1 := hp x (by simp -dsimp)
        have hBp : Pos B := fun y hy => hp y (by simp -dsimp [hy])
        have t3 := t2.setOff (notIn_none hf) (nd (x.2.1 - (i - rsum A)) x.2.2 .none .none .none)
        have hnf : f ∉ adr (A ++ (x.1, x.2.1 + -(x.2.1 - (i - rsum A)), x.2.2) :: B) := fun q => by
          obtain ⟨_, _, e⟩ := t2.isIn f (.inr q); rw [e] at hf; cases hf
        refine put_behind_spec (x := (x.1, x.2.1 + -(x.2.1 - (i - rsum A)), x.2.2)) t3 hs_self hnf (fun y hy => ?_) (by lia) (by simp -dsimp at hb ⊢; lia) fun h4 t4 f4 => ?_
        · simp -dsimp only [List.mem_append, List.mem_cons] at hy
          rcases hy with hy | rfl | hy
          · exact hA y hy
          · show 0 < x.2.1 + -(x.2.1 - (i - rsum A)); lia
          · exact hBp y hy
        · simp -dsimp
          have e9 : splitR f i (A ++ x :: B) = A ++ (x.1, x.2.1 + -(x.2.1 - (i - rsum A)), x.2.2) :: (f, x.2.1 - (i - rsum A), x.2.2) :: B := by
            rw [splitR_mid f hA (by lia) e2]
            rw [show x.2.1 + -(x.2.1 - (i - rsum A)) = i - rsum A by lia, show x.2.1 - (i - rsum A) = rsum A + x.2.1 - i by lia]
          refine k f h4 (by rw [e9]; exact t4) ?_
          rw [e9]
          exact (s1.trans s2).trans (Step.ins t4 hf (fun d d1 d2 d3 d4 => f4 d d1 d2 d3 d4) fun d hd => by simp -dsimp at hd ⊢; grind)
    · simp -dsimp [h1]
      exact stay t (.refl t) (splitR_ge 0 hp (by lia))
  · simp -dsimp [h0]
    exact stay t (.refl t) (splitR_le 0 (by lia))

theorem leftmost_row {n tr : Nat} {h : H} {rows B : List Row} {x : Row} (t : Tree h tr rows) (e9 : rows = x :: B) : ∃ a, getF h (.ref tr) 57 = some (.ref a) ∧ ∀ Q : V → H → Prop, Q (.ref x.1) h → CC (n + 1) 14 [.ref a] h Q := by
  obtain ⟨t, z, rfl⟩ := t
  have e : h tr = some (tr0 t.val) := z.rc
  cases t with
  | leaf => simp -dsimp [T.rows] at e9
  | node a l o p r =>
    refine ⟨a, get_root e, fun Q q => ?_⟩
    refine leftmost_spec (t := .node a l o p r) z.rt (by simp -dsimp) fun c' a' o' p' r' hc he => ?_
    rw [he, plug_rows, rowsL_allL hc] at e9
    simp -dsimp only [T.rows, List.nil_append, List.cons_append, List.cons.injEq] at e9
    rw [← e9.1] at q; exact q
theorem rightmost_row {n tr : Nat} {h : H} {rows A : List Row} {x : Row} (t : Tree h tr rows) (e9 : rows = A ++ [x]) : ∃ a, getF h (.ref tr) 57 = some (.ref a) ∧ ∀ Q : V → H → Prop, Q (.ref x.1) h → CC (n + 1) 15 [.ref a] h Q := by
  obtain ⟨t, z, rfl⟩ := t
  have e : h tr = some (tr0 t.val) := z.rc
  cases t with
  | leaf => simp -dsimp [T.rows] at e9
  | node a l o p r =>
    refine ⟨a, get_root e, fun Q q => ?_⟩
    refine rightmost_spec (t := .node a l o p r) z.rt (by simp -dsimp) fun c' a' l' o' p' hc he => ?_
    rw [he, plug_rows, rowsR_allR hc] at e9
    simp -dsimp only [T.rows, List.append_nil] at e9
    have := congrArg List.getLast? e9
    simp -dsimp at this
    rw [← this] at q; exact q

theorem insert_spec {n tr : Nat} {rows : List Row} {i m : Int} {p : V} {h : H} {Q : V → H → Prop} (t : Tree h tr rows) (hp : Pos rows) (h0 : 0 ≤ i) (h1 : i ≤ rsum rows) (hm : 0 ≤ m) (hb : rsum rows + m ≤ big)
    (k0 : m = 0 → Q .none h)
    (k : 0 < m → ∀ f g h' A B, splitR f i rows = A ++ B → rsum A = i → Tree h' tr (A ++ (g, m, p) :: B) → Step h tr rows h' (A ++ (g, m, p) :: B) → Q .none h') : CC (n + 7) 22 [.ref tr, .int i, .int m, p] h Q := by
  refine callI (fd := ⟨[58, 67, 66, 52], b_insert_interval⟩) rfl rfl ?_
  simp -dsimp [b_insert_interval]
  by_cases c0 : m = 0
  · simp -dsimp [c0]; exact k0 c0
  · have hm' : 0 < m := by lia
    simp -dsimp [c0, iniT]
    intro g hg
    refine init_spec hs_self ?_
    simp -dsimp
    have hh : ∀ (h : H) (o1 o2 : O), (h.set g o1).set g o2 = h.set g o2 := fun h o1 o2 => by funext d; by_cases hd : d = g <;> simp -dsimp [H.set, hd]
    rw [hh]
    have t1 := t.setOff (notIn_none hg) (nd m p .none .none .none)
    have hng := t.fresh_off hg
    by_cases hr : rows = []
    · subst hr
      refine e1_2 t1 fun T9 z e9 => ?_
      clear t1
      have : T9 = .leaf := by cases T9 with
        | leaf => rfl
        | node _ _ _ _ _ => simp -dsimp [T.rows] at e9
      subst this
      have e : (h.set g (nd m p .none .none .none)) tr = some (tr0 .none) := z.rc
      simp -dsimp [get_root e, set_root e]
      have h1' : i = 0 := by simp -dsimp at h1; lia
      have hgt : g ≠ tr := hng.1
      have z' : Z ((h.set g (nd m p .none .none .none)).set tr (tr0 (.ref g))) tr [] (.node g .leaf m p .leaf) := ⟨hs_self, ⟨m, by rw [H.set_ne hgt]; exact hs_self, by simp -dsimp [T.sum], trivial, trivial⟩, by simp -dsimp [cads, T.ads]⟩
      have t' : Tree ((h.set g (nd m p .none .none .none)).set tr (tr0 (.ref g))) tr ([] ++ (g, m, p) :: []) := ⟨_, z', by simp -dsimp [T.rows]⟩
      refine k hm' 0 g _ [] [] (by simp -dsimp [splitR]) (by simp -dsimp [h1']) t' (Step.ins (o := nd m p .none .none .none) t' hg (fun d d1 d2 d3 d4 => H.set_ne d2) fun d hd => by simpa -dsimp using hd)
    · refine e1_3 (root_row t1) fun v ev _ hv => ?_
      obtain ⟨a, rfl⟩ := hv hr
      simp -dsimp [ev]
      refine split_spec t1 hp (by lia) fun f h2 t2 s2 => ?_
      simp -dsimp
      refine len_spec t2 ?_
      refine e2_4 (splitR_bd f (i := i) hp h0 h1) fun C D e1 e2 e3 e4 => ?_
      rw [e1] at t2 s2
      have eg2 : h2 g = some (nd m p .none .none .none) := by rw [s2.keep g (by simp -dsimp) hng.1 hng.2]; exact hs_self
      have hng2 : g ∉ adr (C ++ D) := fun q => by
        rcases s2.new g q with q | q
        · exact hng.2 q
        · simp -dsimp at q
      rw [e1, e4]
      -- the whole step
      have whole : ∀ h4, Tree h4 tr (C ++ (g, m, p) :: D) → (∀ d, h2 d ≠ none → d ≠ tr → d ≠ g → d ∉ adr (C ++ D) → h4 d = h2 d) → Q .none h4 := fun h4 t4 f4 => by
        have alive : h4 tr ≠ none := by obtain ⟨_, _, e⟩ := t4.isIn tr (.inl rfl); rw [e]; simp -dsimp
        refine k hm' f g h4 C D e1 e2 t4 ⟨fun d d1 d2 d4 => ?_, fun d hd => ?_, alive⟩
        · have d3 : d ≠ g := by first | exact ne_kept d1 hg | (rintro rfl; exact d1 hg)
          have a0 : (h.set g (nd m p .none .none .none)) d = h d := H.set_ne d3
          have a1 := s2.keep d (by rw [a0]; exact d1) d2 d4
          have a2 : d ∉ adr (C ++ D) := fun q => by
            rcases s2.new d q with q | q
            · exact d4 q
            · rw [a0] at q; exact d1 q
          rw [f4 d (by rw [a1, a0]; exact d1) d2 d3 a2, a1, a0]
        · have : d = g ∨ d ∈ adr (C ++ D) := by simp -dsimp at hd ⊢; grind
          rcases this with rfl | q
          · exact .inr hg
          · rcases s2.new d q with q | q
            · exact .inl q
            · by_cases hd9 : d = g
              · rw [hd9]; exact .inr hg
              · rw [H.set_ne hd9] at q; exact .inr q
      have hpD : Pos D := e3.app_r
      rw [rsum_app] at e4
      by_cases c1 : i = rsum rows
      · have hD : D = [] := hpD.zero (by lia)
        subst hD
        simp -dsimp [c1]
        rcases List.eq_nil_or_concat C with rfl | ⟨C', y, rfl⟩
        · simp -dsimp at e2
          simp -dsimp at e4
          have := hp.zero (by lia)
          exact absurd this hr
        · simp -dsimp only [List.concat_eq_append] at *
          refine e1_2 (rightmost_row (n := n + 5) t2 (A := C') (x := y) (by simp -dsimp)) fun a' ea' ka' => ?_
          simp -dsimp [ea']
          refine ka' _ ?_
          have t3 : Tree h2 tr (C' ++ y :: []) := by simpa -dsimp using t2
          refine put_behind_spec t3 eg2 (by simpa -dsimp using hng2) (by simpa -dsimp using e3) hm' (by simp -dsimp at hb e4 ⊢; lia) fun h4 t4 f4 => ?_
          simp -dsimp
          exact whole h4 (by simpa -dsimp using t4) fun d d1 d2 d3 d4 => f4 d d1 d2 d3 (by simpa -dsimp using d4)
      · simp -dsimp [c1]
        refine find_row t2 h0 (by rw [rsum_app]; lia) fun A x B cc e5 e6 e7 hcc => ?_
        cases D with
        | nil => simp -dsimp at e4; lia
        | cons y D =>
          have hy : 0 < y.2.1 := hpD y (by simp -dsimp)
          refine e0_3 (uniq_at (i := i) e5 e3 (by lia) (by lia) e6 e7) fun e90 e91 e92 => ?_
          obtain rfl := e90
          obtain rfl := e91
          obtain rfl := e92
          simp -dsimp [io_tup hs_self]
          refine ⟨by unfold lim; lia, ?_⟩
          have t3 := t2.setOff (notIn_none hcc) (.tup [.ref y.1, .int (rsum C)])
          have hgc : g ≠ cc := by first | exact ne_new hcc eg2 | exact ne_new' hcc eg2 | exact ne_obj hcc eg2 nofun | exact ne_obj eg2 hcc nofun | (rintro rfl; rw [eg2] at hcc; cases hcc)
          refine put_ahead_spec t3 (by rw [H.set_ne hgc]; exact eg2) hng2 e3 hm' (by rw [rsum_app]; lia) fun h4 t4 f4 => ?_
          simp -dsimp
          refine whole h4 t4 fun d d1 d2 d3 d4 => ?_
          have hdc : d ≠ cc := by first | exact ne_kept d1 hcc | (rintro rfl; exact d1 hcc)
          rw [f4 d (by rw [H.set_ne hdc]; exact d1) d2 d3 d4, H.set_ne hdc]
end Mine

namespace Mine
open PySem

noncomputable def dr_t : Ex := .cmp .gt (.var 55) (.int 0)
noncomputable def dr_b : Sts := (.cons (.assign 59 (.idx (.call 13 (.cons (.var 58) (.cons (.var 68) .nil))) (.int 0)))
    (.cons (.assign 55 (.bin .sub (.var 55) (.call 1 (.cons (.var 59) .nil))))
    (.cons (.expr (.call 21 (.cons (.var 58) (.cons (.var 59) .nil))))
    .nil)))
theorem delete_loop {n tr : Nat} {Qn : R → H → Prop} {Qr : V → H → Prop} (I : R → H → Prop)
    (hI : ∀ ρ h, vT (CC (n + 5)) iniT dr_t ρ h (fun b h => if b = true then vB (CC (n + 5)) iniT dr_b ρ h I Qr else Qn ρ h) → I ρ h) :
    ∀ (M A B : List Row) (ρ : R) (h : H), Tree h tr (A ++ (M ++ B)) → Pos (A ++ (M ++ B)) → rsum (A ++ (M ++ B)) ≤ big → ρ 58 = some (.ref tr) → ρ 68 = some (.int (rsum A)) → ρ 55 = some (.int (rsum M)) →
      (∀ ρ' h', Tree h' tr (A ++ B) → Step h tr (A ++ (M ++ B)) h' (A ++ B) → Qn ρ' h') → I ρ h := by
  intro M
  induction M with
  | nil =>
    intro A B ρ h t hp hb r58 r68 r55 k
    refine hI ρ h ?_
    simp -dsimp [dr_t, r55]
    exact k ρ h t (.refl t)
  | cons x M ih =>
    intro A B ρ h t hp hb r58 r68 r55 k
    refine hI ρ h ?_
    have hx : 0 < x.2.1 := hp x (by simp -dsimp)
    have hM : 0 ≤ rsum M := Pos.nn fun y hy => hp y (by simp -dsimp [hy])
    have hA := (Pos.app_l hp).nn
    have hB : 0 ≤ rsum B := Pos.nn fun y hy => hp y (by simp -dsimp [hy])
    simp -dsimp only [rsum_cons] at r55
    simp -dsimp [dr_t, r55, dr_b, r58, r68]
    rw [if_pos (by lia)]
    refine find_row t hA (by simp -dsimp; lia) fun A' x' B' c e e1 e2 hc => ?_
    refine e0_3 (uniq_at (i := rsum A) e hp (by lia) (by lia) e1 e2) fun e90 e91 e92 => ?_
    obtain rfl := e90
    obtain rfl := e91
    obtain rfl := e92
    simp -dsimp [io_tup hs_self]
    refine ⟨by unfold lim; lia, ?_⟩
    have t1 := t.setOff (notIn_none hc) (.tup [.ref x.1, .int (rsum A)])
    have s1 := Step.fresh t hc (.tup [.ref x.1, .int (rsum A)])
    simp -dsimp [r55]
    refine own_row t1 ?_
    simp -dsimp [r58]
    refine drop_spec t1 hp hb fun h2 t2 f2 => ?_
    simp -dsimp
    have s2 : Step (h.set c (.tup [.ref x.1, .int (rsum A)])) tr (A ++ (x :: M ++ B)) h2 (A ++ (M ++ B)) := ⟨fun d d1 d2 d3 => f2 d d1 d2 d3, fun d hd => .inl (by simp -dsimp at hd ⊢; grind), by obtain ⟨_, _, e⟩ := t2.isIn tr (.inl rfl); rw [e]; simp -dsimp⟩
    refine ih A B _ h2 t2 (fun y hy => hp y (by simp -dsimp at hy ⊢; grind)) (by simp -dsimp at hb ⊢; lia) (by simp -dsimp [r58]) (by simp -dsimp [r68]) (by simp -dsimp; lia) fun ρ' h' t' s' => k ρ' h' t' ((s1.trans s2).trans s')
theorem delete_spec {n tr : Nat} {rows : List Row} {i j : Int} {h : H} {Q : V → H → Prop} (t : Tree h tr rows) (hp : Pos rows) (hb : rsum rows ≤ big) (h0 : 0 ≤ i) (h2 : j ≤ rsum rows)
    (k0 : j ≤ i → Q .none h)
    (k : i < j → ∀ f f2 h' A M B, splitR f2 j (splitR f i rows) = A ++ (M ++ B) → rsum A = i → rsum M = j - i → Tree h' tr (A ++ B) → Step h tr rows h' (A ++ B) → Q .none h') : CC (n + 7) 23 [.ref tr, .int i, .int j] h Q := by
  refine callI (fd := ⟨[58, 68, 76], b_delete_range⟩) rfl rfl ?_
  have hb0 : b_delete_range = (.cons (.ite (.cmp .ge (.var 68) (.var 76)) (.cons .retN .nil) .nil) (.cons (.expr (.call 20 (.cons (.var 58) (.cons (.var 68) .nil)))) (.cons (.expr (.call 20 (.cons (.var 58) (.cons (.var 76) .nil)))) (.cons (.assign 55 (.bin .sub (.var 76) (.var 68))) (.cons (.while dr_t dr_b) .nil))))) := rfl
  simp -dsimp [hb0]
  by_cases c : j ≤ i
  · simp -dsimp [c]; exact k0 c
  · simp -dsimp [c]
    refine e2_4 (splitR_bd 0 (i := i) hp h0 (by lia)) fun C D e1 e2 e3 e4 => ?_
    refine split_spec t hp hb fun f h1 t1 s1 => ?_
    refine e2_4 (splitR_bd f (i := i) hp h0 (by lia)) fun C D e1 e2 e3 e4 => ?_
    rw [e1] at t1 s1
    simp -dsimp
    refine split_spec t1 e3 (by lia) fun f2 h3 t3 s3 => ?_
    rw [rsum_app] at e4
    refine e2_4 (splitR_bd f2 (i := j - rsum C) (B := D) e3.app_r (by lia) (by lia)) fun M B g1 g2 g3 g4 => ?_
    have e9 : splitR f2 j (C ++ D) = C ++ (M ++ B) := by rw [splitR_app f2 e3.app_l (by lia), g1]
    rw [e9] at t3 s3
    simp -dsimp
    first | with_reducible refine b_whl fun I hI => ?_ | with_reducible refine s_whl fun I hI => ?_ | (simp -dsimp; first | with_reducible refine b_whl fun I hI => ?_ | with_reducible refine s_whl fun I hI => ?_)
    have hpos : Pos (C ++ (M ++ B)) := fun y hy => by
      rcases List.mem_append.mp hy with hy | hy
      · exact e3 y (by simp -dsimp [hy])
      · exact g3 y hy
    refine delete_loop (n := n + 1) I hI M C B _ h3 t3 hpos (by rw [rsum_app, g4]; lia) (by simp -dsimp) (by simp -dsimp [e2]) (by simp -dsimp; lia) fun ρ' h' t' s' => ?_
    exact k (by lia) f f2 h' C M B (by rw [e1, e9]) e2 (by lia) t' ((s1.trans s3).trans s')

/-- tuples at refs -/
noncomputable def TupsAt (h : H) : List V → List (List V) → Prop
  | [], [] => True
  | v :: vs, x :: xs => (∃ c, v = .ref c ∧ h c = some (.tup x)) ∧ TupsAt h vs xs
  | _, _ => False
theorem TupsAt.mono {h h' : H} : ∀ {vs : List V} {xs : List (List V)}, TupsAt h vs xs → (∀ c x, h c = some (.tup x) → h' c = some (.tup x)) → TupsAt h' vs xs
  | [], [], _, _ => trivial
  | _ :: _, _ :: _, ⟨⟨c, e, g⟩, r⟩, k => ⟨⟨c, e, k _ _ g⟩, r.mono k⟩
  | [], _ :: _, h, _ => h.elim
  | _ :: _, [], h, _ => h.elim
theorem TupsAt.app {h : H} : ∀ {vs us : List V} {xs ys : List (List V)}, TupsAt h vs xs → TupsAt h us ys → TupsAt h (vs ++ us) (xs ++ ys)
  | [], _, [], _, _, b => b
  | _ :: _, _, _ :: _, _, ⟨a, r⟩, b => ⟨a, TupsAt.app r b⟩
  | [], _, _ :: _, _, h, _ => h.elim
  | _ :: _, _, [], _, h, _ => h.elim
theorem TupsAt.len {h : H} : ∀ {vs : List V} {xs : List (List V)}, TupsAt h vs xs → vs.length = xs.length
  | [], [], _ => rfl
  | _ :: _, _ :: _, ⟨_, r⟩ => congrArg (· + 1) r.len
  | [], _ :: _, h => h.elim
  | _ :: _, [], h => h.elim

noncomputable def rowTups : Int → List Row → List (List V)
  | _, [] => []
  | b, (_, o, p) :: r => [.int b, .int (b + o), p] :: rowTups (b + o) r
theorem rowTups_app : ∀ {A B : List Row} {b : Int}, rowTups b (A ++ B) = rowTups b A ++ rowTups (b + rsum A) B
  | [], B, b => by simp -dsimp [rowTups]
  | (a, o, p) :: A, B, b => by
    simp -dsimp only [List.cons_append, rowTups, rowTups_app (A := A), rsum_cons]
    rw [show b + o + rsum A = b + (o + rsum A) by lia]
theorem len_le : ∀ {A : List Row}, Pos A → (A.length : Int) ≤ rsum A
  | [], _ => Int.le_refl _
  | x :: A, h => by
    have := len_le (A := A) fun y hy => h y (by simp -dsimp [hy])
    have := h x (by simp -dsimp)
    simp -dsimp; lia

noncomputable def ir_t : Ex := .cmp .isNot (.var 59) .none
noncomputable def ir_b : Sts := (.cons (.assign 76 (.bin .add (.var 68) (.call 1 (.cons (.var 59) .nil))))
    (.cons (.expr (.append 77 (.tup (.cons (.var 68) (.cons (.var 76) (.cons (.attr (.var 59) 52) .nil))))))
    (.cons (.assign 68 (.var 76))
    (.cons (.assign 59 (.call 16 (.cons (.var 59) .nil)))
    .nil))))
theorem rows_loop {n tr l : Nat} {Qn : R → H → Prop} {Qr : V → H → Prop} (I : R → H → Prop)
    (hI : ∀ ρ h, vT (CC (n + 2)) iniT ir_t ρ h (fun b h => if b = true then vB (CC (n + 2)) iniT ir_b ρ h I Qr else Qn ρ h) → I ρ h) :
    ∀ (B A : List Row) (ρ : R) (h : H) (vs : List V), Tree h tr (A ++ B) → Pos (A ++ B) → rsum (A ++ B) ≤ big → ρ 59 = some (hdv B) → ρ 68 = some (.int (rsum A)) → ρ 77 = some (.ref l) → h l = some (.list vs) → TupsAt h vs (rowTups 0 A) →
      (∀ ρ' h' vs, Tree h' tr (A ++ B) → (∀ d, h d ≠ none → d ≠ l → h' d = h d) → ρ' 77 = some (.ref l) → h' l = some (.list vs) → TupsAt h' vs (rowTups 0 (A ++ B)) → Qn ρ' h') → I ρ h := by
  intro B
  induction B with
  | nil =>
    intro A ρ h vs t hp hb r59 r68 r77 hl tu k
    refine hI ρ h ?_
    simp -dsimp [ir_t, r59, hdv]
    exact k ρ h vs t (fun _ _ _ => rfl) r77 hl (by simpa -dsimp using tu)
  | cons x B ih =>
    intro A ρ h vs t hp hb r59 r68 r77 hl tu k
    refine hI ρ h ?_
    simp -dsimp [ir_t, r59, hdv, ir_b, r68, r77]
    refine own_row t ?_
    have hlen : vs.length = (rowTups 0 A).length := tu.len
    have hrl : ∀ (A : List Row) (b : Int), (rowTups b A).length = A.length := by
      intro A; induction A with
      | nil => intro b; rfl
      | cons y A ih => intro b; obtain ⟨_, _, _⟩ := y; simp -dsimp [rowTups, ih]
    have hA := len_le hp.app_l
    have hBp : Pos B := fun y hy => hp y (by simp -dsimp [hy])
    have hx : 0 < x.2.1 := hp x (by simp -dsimp)
    have hBn := hBp.nn
    simp -dsimp only [rsum_app, rsum_cons] at hb
    simp -dsimp [r59, r68, r77, hdv, la_list hl, plist_row t]
    refine ⟨by unfold lim; lia, fun c hc => ?_⟩
    have hcl : c ≠ l := by first | exact ne_new hc hl | exact ne_new' hc hl | exact ne_obj hc hl nofun | exact ne_obj hl hc nofun | (rintro rfl; rw [hl] at hc; cases hc)
    have el : (h.set c (.tup [.int (rsum A), .int (rsum A + x.2.1), x.2.2])) l = some (.list vs) := by rw [H.set_ne (Ne.symm hcl)]; exact hl
    simp -dsimp [la_list el]
    refine ⟨by rw [hlen, hrl]; unfold lim; unfold big at hb; lia, ?_⟩
    have t1 := t.setOff (notIn_none hc) (.tup [.int (rsum A), .int (rsum A + x.2.1), x.2.2])
    have t2 := t1.setOff (notIn_list el) (.list (vs ++ [.ref c]))
    simp -dsimp [r59, hdv]
    refine foll_row t2 ?_
    obtain ⟨xa, xo, xp⟩ := x
    refine ih (A ++ [(xa, xo, xp)]) _ _ (vs ++ [.ref c]) (by simpa -dsimp using t2) (by simpa -dsimp using hp) (by simp -dsimp; omega) (by simp -dsimp) (by simp -dsimp) (by simp -dsimp [r77]) hs_self ?_ ?_
    · rw [rowTups_app]
      refine TupsAt.app (tu.mono fun d y e => ?_) ⟨⟨c, rfl, ?_⟩, trivial⟩
      · have d1 : d ≠ l := by first | exact ne_new e hl | exact ne_new' e hl | exact ne_obj e hl nofun | exact ne_obj hl e nofun | (rintro rfl; rw [hl] at e; cases e)
        have d2 : d ≠ c := by first | exact ne_new e hc | exact ne_new' e hc | exact ne_obj e hc nofun | exact ne_obj hc e nofun | (rintro rfl; rw [hc] at e; cases e)
        rw [H.set_ne d1, H.set_ne d2]; exact e
      · rw [H.set_ne hcl, hs_self]; simp -dsimp
    · intro ρ' h' vs' t' f' r77' hl' tu'
      refine k ρ' h' vs' (by simpa -dsimp using t') (fun d d1 d2 => ?_) r77' hl' (by simpa -dsimp using tu')
      have d3 : d ≠ c := by first | exact ne_kept d1 hc | (rintro rfl; exact d1 hc)
      rw [f' d (by rw [H.set_ne d2, H.set_ne d3]; exact d1) d2, H.set_ne d2, H.set_ne d3]
theorem rows_spec {n tr : Nat} {rows : List Row} {h : H} {Q : V → H → Prop} (t : Tree h tr rows) (hp : Pos rows) (hb : rsum rows ≤ big)
    (k : ∀ l vs h', h l = none → Tree h' tr rows → (∀ d, h d ≠ none → h' d = h d) → h' l = some (.list vs) → TupsAt h' vs (rowTups 0 rows) → Q (.ref l) h') : CC (n + 3) 24 [.ref tr] h Q := by
  refine callI (fd := ⟨[58], b_interval_rows⟩) rfl rfl ?_
  have hb0 : b_interval_rows = (.cons (.assign 77 (.list .nil)) (.cons (.assign 68 (.int 0)) (.cons (.assign 59 (.ite (.cmp .is (.attr (.var 58) 57) .none) .none (.call 14 (.cons (.attr (.var 58) 57) .nil)))) (.cons (.while ir_t ir_b) (.cons (.ret (.var 77)) .nil))))) := rfl
  simp -dsimp [hb0]
  intro l hl
  have t1 := t.setOff (notIn_none hl) (.list [])
  have fin : ∀ (ρ : R), ρ 77 = some (.ref l) → ρ 68 = some (.int 0) → ρ 59 = some (hdv rows) → ∀ I : R → H → Prop,
      (∀ ρ h, vT (CC (n + 2)) iniT ir_t ρ h (fun b h => if b = true then vB (CC (n + 2)) iniT ir_b ρ h I Q else (ned (ρ 77) fun v => Q v h)) → I ρ h) → I ρ (h.set l (.list [])) := by
    intro ρ r77 r68 r59 I hI
    refine rows_loop I hI rows [] ρ _ [] t1 hp hb r59 (by simpa -dsimp using r68) r77 hs_self trivial fun ρ' h' vs t' f' r77' hl' tu' => ?_
    simp -dsimp [r77']
    refine k l vs h' hl t' (fun d d1 => ?_) hl' tu'
    have d3 : d ≠ l := by first | exact ne_kept d1 hl | (rintro rfl; exact d1 hl)
    rw [f' d (by rw [H.set_ne d3]; exact d1) d3, H.set_ne d3]
  refine e1_3 (root_row t1) fun v ev v1 v2 => ?_
  cases rows with
  | nil =>
    have := v1 rfl
    subst this
    simp -dsimp [ev]
    exact fin _ (by simp -dsimp) (by simp -dsimp) (by simp -dsimp [hdv])
  | cons x B =>
    refine e1_2 (leftmost_row (n := n + 1) t1 rfl) fun a ea ka => ?_
    simp -dsimp [ea]
    refine ka _ ?_
    exact fin _ (by simp -dsimp) (by simp -dsimp) (by simp -dsimp [hdv])
end Mine

namespace Mine
open PySem

noncomputable def pO (tr : Nat) : O := .inst 2 [(58, .ref tr)]
theorem get_tree {h : H} {pr tr : Nat} (e : h pr = some (pO tr)) : getF h (.ref pr) 58 = some (.ref tr) := by simp -dsimp [getF, e, pO, getFs]
theorem RepT.isNd {h : H} : ∀ {t : T} {par : V}, RepT h par t → ∀ d ∈ t.ads, ∃ tot p l r q, h d = some (nd tot p l r q)
  | .leaf, _, _, _, hd => by cases hd
  | .node a l o p r, par, ⟨tot, e, es, hl, hr⟩, d, hd => by
    simp -dsimp only [T.ads, List.mem_append, List.mem_cons] at hd
    rcases hd with hd | rfl | hd
    · exact hl.isNd d hd
    · exact ⟨_, _, _, _, _, e⟩
    · exact hr.isNd d hd
theorem Tree.pr_off {h : H} {tr pr tr' : Nat} {rows : List Row} (t : Tree h tr rows) (e : h pr = some (pO tr')) : pr ≠ tr ∧ pr ∉ adr rows := by
  obtain ⟨t, z, rfl⟩ := t
  obtain ⟨v, ev⟩ := z.rc.tree
  refine ⟨?_, fun q => ?_⟩
  · rintro rfl
    rw [ev] at e; simp -dsimp [tr0, pO] at e
  · rw [← mem_ads_rows] at q
    refine e5_1 (z.rt.isNd pr q) fun _ _ _ _ _ en => ?_
    rw [en] at e; simp -dsimp [nd, pO] at e
theorem Step.props {h h' : H} {tr pr tr' : Nat} {rows rows' : List Row} (s : Step h tr rows h' rows') (t : Tree h tr rows) (e : h pr = some (pO tr')) : h' pr = some (pO tr') := by
  obtain ⟨a, b⟩ := t.pr_off e
  rw [s.keep pr (by rw [e]; simp -dsimp) a b]; exact e

noncomputable def rn_t : Ex := .cmp .gt (.var 55) (.int 0)
noncomputable def rn_b : Sts := (.cons (.expr (.append 77 (.var 59)))
    (.cons (.assign 55 (.bin .sub (.var 55) (.call 1 (.cons (.var 59) .nil))))
    (.cons (.assign 59 (.call 16 (.cons (.var 59) .nil)))
    .nil)))
theorem range_loop {n tr l : Nat} {Qn : R → H → Prop} {Qr : V → H → Prop} (I : R → H → Prop)
    (hI : ∀ ρ h, vT (CC (n + 2)) iniT rn_t ρ h (fun b h => if b = true then vB (CC (n + 2)) iniT rn_b ρ h I Qr else Qn ρ h) → I ρ h) :
    ∀ (M A B : List Row) (ρ : R) (h : H) (vs : List V), Tree h tr (A ++ (M ++ B)) → Pos (A ++ (M ++ B)) → vs.length + rsum M < lim → ρ 59 = some (hdv (M ++ B)) → ρ 55 = some (.int (rsum M)) → ρ 77 = some (.ref l) → h l = some (.list vs) →
      (∀ ρ' h', Tree h' tr (A ++ (M ++ B)) → (∀ d, d ≠ l → h' d = h d) → ρ' 77 = some (.ref l) → h' l = some (.list (vs ++ M.map fun x => .ref x.1)) → Qn ρ' h') → I ρ h := by
  intro M
  induction M with
  | nil =>
    intro A B ρ h vs t hp hb r59 r55 r77 hl k
    refine hI ρ h ?_
    simp -dsimp [rn_t, r55]
    exact k ρ h t (fun _ _ => rfl) r77 (by simpa -dsimp using hl)
  | cons x M ih =>
    intro A B ρ h vs t hp hb r59 r55 r77 hl k
    refine hI ρ h ?_
    have hx : 0 < x.2.1 := hp x (by simp -dsimp)
    have hM : 0 ≤ rsum M := Pos.nn fun y hy => hp y (by simp -dsimp [hy])
    simp -dsimp only [rsum_cons] at r55 hb
    simp -dsimp [rn_t, r55, r59, hdv, rn_b, r77, la_list hl]
    rw [if_pos (by lia)]
    refine ⟨by lia, ?_⟩
    have t1 := t.setOff (notIn_list hl) (.list (vs ++ [.ref x.1]))
    refine own_row (A := A) (x := x) (B := M ++ B) t1 ?_
    simp -dsimp [r59, hdv]
    refine foll_row (A := A) (x := x) (B := M ++ B) t1 ?_
    refine ih (A ++ [x]) B _ _ (vs ++ [.ref x.1]) (by simpa -dsimp using t1) (by simpa -dsimp using hp) (by simp -dsimp only [List.length_append, List.length_cons, List.length_nil]; unfold lim at *; lia) (by simp -dsimp) (by simp -dsimp; lia) (by simp -dsimp [r77]) hs_self fun ρ' h' t' f' r77' hl' => ?_
    refine k ρ' h' (by simpa -dsimp using t') (fun d d1 => ?_) r77' (by simpa -dsimp using hl')
    rw [f' d d1, H.set_ne d1]
theorem range_spec {n tr pr : Nat} {rows : List Row} {i j : Int} {h : H} {Q : V → H → Prop} (hpr : h pr = some (pO tr)) (t : Tree h tr rows) (hp : Pos rows) (hb : rsum rows ≤ big) (h0 : 0 ≤ i) (h2 : j ≤ rsum rows)
    (k0 : j ≤ i → ∀ l, h l = none → Q (.ref l) (h.set l (.list [])))
    (k : i < j → ∀ f f2 l h' A M B, splitR f2 j (splitR f i rows) = A ++ (M ++ B) → rsum A = i → rsum M = j - i → Pos (A ++ (M ++ B)) → Tree h' tr (A ++ (M ++ B)) → Step h tr rows h' (A ++ (M ++ B)) → h' l = some (.list (M.map fun x => .ref x.1)) → Q (.ref l) h') : CC (n + 7) 34 [.ref pr, .int i, .int j] h Q := by
  refine callI (fd := ⟨[85, 68, 76], b_range_nodes⟩) rfl rfl ?_
  have hb0 : b_range_nodes = (.cons (.ite (.cmp .ge (.var 68) (.var 76)) (.cons (.ret (.list .nil)) .nil) .nil) (.cons (.expr (.call 20 (.cons (.attr (.var 85) 58) (.cons (.var 68) .nil)))) (.cons (.expr (.call 20 (.cons (.attr (.var 85) 58) (.cons (.var 76) .nil)))) (.cons (.assign 59 (.idx (.call 13 (.cons (.attr (.var 85) 58) (.cons (.var 68) .nil))) (.int 0))) (.cons (.assign 77 (.list .nil)) (.cons (.assign 55 (.bin .sub (.var 76) (.var 68))) (.cons (.while rn_t rn_b) (.cons (.ret (.var 77)) .nil)))))))) := rfl
  simp -dsimp [hb0]
  by_cases c : j ≤ i
  · simp -dsimp [c]; exact fun l hl => k0 c l hl
  · simp -dsimp [c, get_tree hpr]
    refine split_spec t hp hb fun f h1 t1 s1 => ?_
    refine e2_4 (splitR_bd f (i := i) hp h0 (by lia)) fun C D e1 e2 e3 e4 => ?_
    rw [e1] at t1 s1
    have hpr1 := s1.props t hpr
    simp -dsimp [get_tree hpr1]
    refine split_spec t1 e3 (by lia) fun f2 h3 t3 s3 => ?_
    rw [rsum_app] at e4
    refine e2_4 (splitR_bd f2 (i := j - rsum C) (B := D) e3.app_r (by lia) (by lia)) fun M B g1 g2 g3 g4 => ?_
    have e9 : splitR f2 j (C ++ D) = C ++ (M ++ B) := by rw [splitR_app f2 e3.app_l (by lia), g1]
    rw [e9] at t3 s3
    have hpr3 := s3.props t1 hpr1
    have hpos : Pos (C ++ (M ++ B)) := fun y hy => by
      rcases List.mem_append.mp hy with hy | hy
      · exact e3 y (by simp -dsimp [hy])
      · exact g3 y hy
    simp -dsimp [get_tree hpr3]
    refine find_row t3 h0 (by rw [rsum_app, g4]; lia) fun A' x' B' cc e5 e6 e7 hcc => ?_
    cases M with
    | nil => simp -dsimp at g2; lia
    | cons x M =>
      obtain ⟨rfl, rfl, rfl⟩ := uniq_at (i := i) e5 hpos (by lia) (by have := hpos x (by simp -dsimp); lia) e6 e7
      simp -dsimp [io_tup hs_self]
      refine ⟨by unfold lim; lia, fun l hl => ?_⟩
      have t4 := t3.setOff (notIn_none hcc) (.tup [.ref x.1, .int (rsum C)])
      have s4 := Step.fresh t3 hcc (.tup [.ref x.1, .int (rsum C)])
      have t5 := t4.setOff (notIn_none hl) (.list [])
      first | with_reducible refine b_whl fun I hI => ?_ | with_reducible refine s_whl fun I hI => ?_ | (simp -dsimp; first | with_reducible refine b_whl fun I hI => ?_ | with_reducible refine s_whl fun I hI => ?_)
      refine range_loop (n := n + 4) I hI (x :: M) C B _ _ [] t5 hpos (by simp -dsimp only [List.length_nil]; unfold lim; simp -dsimp only [List.cons_append] at g4; simp -dsimp at g4 g2 ⊢; have := (hpos.app_r.app_r (A := x :: M) (B := B)).nn; have := hpos.app_l.nn; unfold big at hb; lia) (by simp -dsimp [hdv]) (by simp -dsimp [g2]; simp -dsimp at g2; lia) (by simp -dsimp) hs_self fun ρ' h' t' f' r77' hl' => ?_
      simp -dsimp [r77']
      have s6 : Step (h3.set cc (.tup [.ref x.1, .int (rsum C)])) tr (C ++ (x :: M ++ B)) h' (C ++ (x :: M ++ B)) := by
        refine ⟨fun d d1 d2 d3 => ?_, fun d hd => .inl hd, by obtain ⟨_, _, e⟩ := t'.isIn tr (.inl rfl); rw [e]; simp -dsimp⟩
        have hdl : d ≠ l := by first | exact ne_kept d1 hl | (rintro rfl; exact d1 hl)
        rw [f' d hdl, H.set_ne hdl]
      exact k (by lia) f f2 l h' C (x :: M) B (by rw [e1, e9]) e2 (by lia) hpos t' (((s1.trans s3).trans s4).trans s6) (by simpa -dsimp using hl')

/-! tree_error -/
noncomputable def te_f : Sts := (.cons (.ite (.cmp .isNot (.var 61) .none) (.cons (.ite (.cmp .isNot (.attr (.var 61) 53) (.var 59)) (.cons (.ret (.str (Str.ofString "parent")))
          .nil) .nil)
        (.cons (.expr (.append 64 (.var 61)))
        .nil)) .nil)
      .nil)
noncomputable def te_b : Sts := (.cons (.assign 59 (.pop 64))
    (.cons (.ite (.cmp .le (.call 1 (.cons (.var 59) .nil)) (.int 0)) (.cons (.ret (.str (Str.ofString "length")))
      .nil) .nil)
    (.cons (.for [61] false false (.tup (.cons (.attr (.var 59) 55) (.cons (.attr (.var 59) 54) .nil))) te_f)
    .nil)))
@[simp] theorem s_for {Φ : CallT} {ini : Nat → Nat} {ρ : R} {h : H} {Qn : R → H → Prop} {Qr : V → H → Prop} {tgts : List Nat} {tup rng : Bool} {src : Ex} {b : Sts} : vS Φ ini (.for tgts tup rng src b) ρ h Qn Qr = vE Φ ini src ρ h fun v h => ned (srcItems rng h v) fun xs => xs.length ≤ lim ∧
      forL (sameAt v h) (fun x ρ h k => bindT tgts tup x ρ h fun ρ' => vB Φ ini b ρ' h k Qr) xs ρ h Qn := rfl

/-- one son -/
theorem son_step {n w a : Nat} {s : T} {ρ : R} {h : H} {W : List V} {kk : R → H → Prop} {Qr : V → H → Prop} (hs : RepT h (.ref a) s) (r61 : ρ 61 = some s.val) (r59 : ρ 59 = some (.ref a)) (r64 : ρ 64 = some (.ref w)) (hw : h w = some (.list W)) (hl : W.length < lim)
    (k : ∀ h', (∀ d, d ≠ w → h' d = h d) → h' w = some (.list (W ++ if s.val = .none then [] else [s.val])) → kk ρ h') : vB (CC n) iniT te_f ρ h kk Qr := by
  cases s with
  | leaf =>
    simp -dsimp [te_f, r61]
    exact k h (fun _ _ => rfl) (by simpa -dsimp using hw)
  | node b x o p y =>
    refine e1_2 hs fun tot e _ => ?_
    clear hs
    simp -dsimp [te_f, r61, get_par e, r59, r64, la_list hw]
    exact ⟨hl, k _ (fun d hd => H.set_ne hd) (by simp -dsimp)⟩
theorem err_claim {n tr w : Nat} {Qn : R → H → Prop} {Qr : V → H → Prop} (I : R → H → Prop) (hI : ∀ ρ h, vT (CC (n + 2)) iniT st_t ρ h (fun b h => if b = true then vB (CC (n + 2)) iniT te_b ρ h I Qr else Qn ρ h) → I ρ h) :
    ∀ (t : T) (par : V) (W : List V) (ρ : R) (h : H), t.pos → t ≠ .leaf → ρ 64 = some (.ref w) → h w = some (.list (W ++ [t.val])) → RepT h par t → W.length + 2 * t.sum.toNat + 2 < lim →
      (∀ ρ' h', ρ' 64 = some (.ref w) → h' w = some (.list W) → (∀ d, h d ≠ none → d ≠ w → h' d = h d) → I ρ' h') → I ρ h := by
  intro t
  induction t with
  | leaf => intro _ _ _ _ _ h; exact absurd rfl h
  | node a l o p r ihl ihr =>
    intro par W ρ h hp _ r64 hw ht hb k
    refine hI ρ h ?_
    have hll : (W ++ [(T.node a l o p r).val]).length = W.length + 1 := by simp -dsimp
    simp -dsimp only [st_t, t_cmp, x_len, x_var, r64, ned_some, io_list hw, x_int, c_gt]
    refine ⟨by lia, ?_⟩
    rw [if_pos (by rw [hll]; simp -dsimp)]
    have hpl := T.pos_l hp
    have hpr := T.pos_r hp
    have ho := T.pos_o hp
    have hsl := T.sum_nn hpl
    have hsr := T.sum_nn hpr
    simp -dsimp only [T.sum] at hb
    -- the object at w is no node
    have offw : ∀ {h : H} {s : T} {q : V} {xs : List V} (o9 : O), RepT h q s → h w = some (.list xs) → RepT (h.set w o9) q s := fun {h s q xs} o9 hs hw => hs.frame fun d hd => H.set_ne (by
      rintro rfl
      exact notIn_list hw (hs.isIn d hd))
    have ht1 : RepT (h.set w (.list W)) par (.node a l o p r) := offw _ ht hw
    have hwin : ¬ isIn h w := notIn_list hw
    simp -dsimp [te_b, r64, la_list hw]
    refine ⟨by lia, own_spec ht1 ?_⟩
    have ho' : ¬ o ≤ 0 := by lia
    refine e1_4 ht1 fun tot e es hl1 hr1 => ?_
    clear ht1
    simp -dsimp [ho', get_lf e, get_rt e]
    refine ⟨by unfold lim; lia, fun c hc => ?_⟩
    have hcw : c ≠ w := by rintro rfl; simp -dsimp at hc
    have hl2 : RepT ((h.set w (.list W)).set c (.tup [l.val, r.val])) (.ref a) l := hl1.frame fun d hd => H.set_ne (by rintro rfl; exact notIn_none hc (hl1.isIn d hd))
    have hr2 : RepT ((h.set w (.list W)).set c (.tup [l.val, r.val])) (.ref a) r := hr1.frame fun d hd => H.set_ne (by rintro rfl; exact notIn_none hc (hr1.isIn d hd))
    have hw2 : ((h.set w (.list W)).set c (.tup [l.val, r.val])) w = some (.list W) := by rw [H.set_ne (Ne.symm hcw)]; exact hs_self
    simp -dsimp [srcItems]
    refine ⟨by unfold lim; lia, ?_⟩
    simp -dsimp only [forL, bindT, sameAt]
    refine ⟨trivial, ?_⟩
    refine son_step (a := a) (w := w) (W := W) hl2 (by simp -dsimp) (by simp -dsimp) (by simp -dsimp [r64]) hw2 (by lia) fun h3 f3 hw3 => ?_
    have hr3 : RepT h3 (.ref a) r := hr2.frame fun d hd => f3 d (by rintro rfl; exact notIn_list hw2 (hr2.isIn d hd))
    have hl3 : RepT h3 (.ref a) l := hl2.frame fun d hd => f3 d (by rintro rfl; exact notIn_list hw2 (hl2.isIn d hd))
    refine ⟨f3 c hcw, ?_⟩
    have hlen3 : (W ++ if l.val = .none then [] else [l.val]).length ≤ W.length + 1 := by split <;> simp -dsimp
    refine son_step (a := a) (w := w) hr3 (by simp -dsimp) (by simp -dsimp) (by simp -dsimp [r64]) hw3 (by lia) fun h4 f4 hw4 => ?_
    have hr4 : RepT h4 (.ref a) r := hr3.frame fun d hd => f4 d (by rintro rfl; exact notIn_list hw3 (hr3.isIn d hd))
    have hl4 : RepT h4 (.ref a) l := hl3.frame fun d hd => f4 d (by rintro rfl; exact notIn_list hw3 (hl3.isIn d hd))
    refine ⟨by show h4 c = _; rw [f4 c hcw, f3 c hcw], ?_⟩
    have f04 : ∀ d, h d ≠ none → d ≠ w → h4 d = h d := fun d d1 d2 => by
      have d3 : d ≠ c := by rintro rfl; rw [H.set_ne d2] at hc; exact d1 hc
      rw [f4 d d2, f3 d d2, H.set_ne d3, H.set_ne d2]
    -- the left one, last
    have left : ∀ (ρ5 : R) (h5 : H), ρ5 64 = some (.ref w) → h5 w = some (.list (W ++ if l.val = .none then [] else [l.val])) → (∀ d, h4 d ≠ none → d ≠ w → h5 d = h4 d) → I ρ5 h5 := by
      intro ρ5 h5 q64 hw5 f5
      have f05 : ∀ d, h d ≠ none → d ≠ w → h5 d = h d := fun d d1 d2 => by
        rw [f5 d (by rw [f04 d d1 d2]; exact d1) d2, f04 d d1 d2]
      cases l with
      | leaf => exact k ρ5 h5 q64 (by simpa -dsimp using hw5) f05
      | node lb lx lo lp ly =>
        have hl5 : RepT h5 (.ref a) (.node lb lx lo lp ly) := hl4.frame fun d hd => f5 d (by obtain ⟨_, _, e⟩ := hl4.isIn d hd; rw [e]; simp -dsimp) (by rintro rfl; exact notIn_list hw4 (hl4.isIn d hd))
        refine ihl (.ref a) W ρ5 h5 hpl (by simp -dsimp) q64 (by simpa -dsimp using hw5) hl5 (by lia) fun ρ6 h6 q64' hw6 f6 => ?_
        refine k ρ6 h6 q64' hw6 fun d d1 d2 => ?_
        rw [f6 d (by rw [f05 d d1 d2]; exact d1) d2, f05 d d1 d2]
    cases r with
    | leaf => exact left _ h4 (by simp -dsimp [r64]) (by simpa -dsimp using hw4) fun _ _ _ => rfl
    | node rb rx ro rp ry =>
      refine ihr (.ref a) (W ++ if l.val = .none then [] else [l.val]) _ h4 hpr (by simp -dsimp) (by simp -dsimp [r64]) (by simpa -dsimp using hw4) hr4 (by lia) fun ρ5 h5 q64 hw5 f5 => ?_
      exact left ρ5 h5 q64 hw5 f5
theorem err_spec {n tr : Nat} {rows : List Row} {h : H} {Q : V → H → Prop} (t : Tree h tr rows) (hp : Pos rows) (hb : rsum rows ≤ big)
    (k : ∀ h', (∀ d, h d ≠ none → h' d = h d) → Q .none h') : CC (n + 3) 25 [.ref tr] h Q := by
  refine callI (fd := ⟨[58], b_tree_error⟩) rfl rfl ?_
  have hb0 : b_tree_error = (.cons (.ite (.cmp .is (.attr (.var 58) 57) .none) (.cons (.ret .none) .nil) .nil) (.cons (.ite (.cmp .isNot (.attr (.attr (.var 58) 57) 53) .none) (.cons (.ret (.str (Str.ofString "parent"))) .nil) .nil) (.cons (.assign 64 (.list (.cons (.attr (.var 58) 57) .nil))) (.cons (.while st_t te_b) (.cons (.ret .none) .nil))))) := rfl
  obtain ⟨t, z, rfl⟩ := t
  have e : h tr = some (tr0 t.val) := z.rc
  rw [← T.sum_rows] at hb
  cases t with
  | leaf =>
    simp -dsimp [hb0, get_root e]
    exact k h fun _ _ => rfl
  | node a l o p r =>
    have zr := z.rt
    refine e1_2 z.rt fun tot ea _ => ?_
    simp -dsimp [hb0, get_root e, get_par ea]
    refine ⟨by unfold lim; lia, fun w hw => ?_⟩
    first | with_reducible refine b_whl fun I hI => ?_ | with_reducible refine s_whl fun I hI => ?_ | (simp -dsimp; first | with_reducible refine b_whl fun I hI => ?_ | with_reducible refine s_whl fun I hI => ?_)
    refine err_claim (tr := tr) (w := w) I hI (.node a l o p r) .none [] _ _ hp (by simp -dsimp) (by simp -dsimp) (by simp -dsimp) (zr.frame fun d hd => H.set_ne (by rintro rfl; exact notIn_none hw (zr.isIn d hd))) (by simp -dsimp only [List.length_nil]; unfold lim; unfold big at hb; lia) fun ρ' h' r64 hw' f' => ?_
    refine hI _ _ ?_
    simp -dsimp only [st_t, t_cmp, x_len, x_var, r64, ned_some, io_list hw', x_int, c_gt]
    simp -dsimp
    refine k h' fun d d1 => ?_
    have d3 : d ≠ w := by first | exact ne_kept d1 hw | (rintro rfl; exact d1 hw)
    rw [f' d (by rw [H.set_ne d3]; exact d1) d3, H.set_ne d3]
end Mine

namespace Mine
open PySem

noncomputable abbrev KV := List (Int × V)
noncomputable def PL (h : H) (p : V) (kvs : KV) : Prop := ∃ a xs, p = .ref a ∧ h a = some (.list xs) ∧ TupsAt h xs (kvs.map fun kv => [.int kv.1, kv.2])
/-- objects stay -/
noncomputable def Ext (h h' : H) : Prop := ∀ d, h d ≠ none → h' d = h d
theorem Ext.refl (h : H) : Ext h h := fun _ _ => rfl
theorem Ext.trans {a b c : H} (x : Ext a b) (y : Ext b c) : Ext a c := fun d hd => by rw [y d (by rw [x d hd]; exact hd), x d hd]
theorem Ext.set {h : H} {c : Nat} (hc : h c = none) (o : O) : Ext h (h.set c o) := fun d hd => H.set_ne (by first | exact ne_kept hd hc | (rintro rfl; exact hd hc))
theorem Ext.at {h h' : H} (x : Ext h h') {a : Nat} {o : O} (e : h a = some o) : h' a = some o := by rw [x a (by rw [e]; simp -dsimp)]; exact e
theorem PL.ext {h h' : H} {p : V} {kvs : KV} (P : PL h p kvs) (x : Ext h h') : PL h' p kvs := by
  refine e2_3 P fun a xs e ha ht => ?_
  clear P
  exact ⟨a, xs, e, x.at ha, ht.mono fun c y e => x.at e⟩
theorem Tree.ext {h h' : H} {tr : Nat} {rows : List Row} (t : Tree h tr rows) (x : Ext h h') : Tree h' tr rows :=
  t.frame fun d hd => by obtain ⟨_, _, e⟩ := t.isIn d hd; exact x d (by rw [e]; simp -dsimp)
theorem Ext.step {h h' : H} {tr : Nat} {rows : List Row} (x : Ext h h') (t : Tree h tr rows) : Step h tr rows h' rows :=
  ⟨fun d d1 _ _ => x d d1, fun _ hd => .inl hd, by obtain ⟨_, _, e⟩ := t.isIn tr (.inl rfl); rw [x.at e]; simp -dsimp⟩
/-- lists and tuples stay through a step -/
theorem PL.step {h h' : H} {tr : Nat} {rows rows' : List Row} {p : V} {kvs : KV} (P : PL h p kvs) (s : Step h tr rows h' rows') (t : Tree h tr rows) : PL h' p kvs := by
  refine e2_3 P fun a xs e ha ht => ?_
  clear P
  refine ⟨a, xs, e, ?_, ht.mono fun c y e => ?_⟩
  · rw [s.data t (by rw [ha]; simp -dsimp) (notIn_list ha)]; exact ha
  · rw [s.data t (by rw [e]; simp -dsimp) (notIn_tup e)]; exact e

@[simp] theorem isB_bool {b : Bool} {k : Bool → Prop} : isB (.bool b) k = k true := rfl
@[simp] theorem isB_int {i : Int} {k : Bool → Prop} : isB (.int i) k = k false := rfl
@[simp] theorem isB_str {s : Str} {k : Bool → Prop} : isB (.str s) k = k false := rfl
@[simp ↓] theorem t_isBool {Φ : CallT} {ini : Nat → Nat} {e : Ex} {ρ : R} {h : H} {Q : Bool → H → Prop} : vT Φ ini (.isBool e) ρ h Q = vE Φ ini e ρ h fun v h => isB v fun b => Q b h := rfl
@[simp ↓] theorem x_isBool {Φ : CallT} {ini : Nat → Nat} {e : Ex} {ρ : R} {h : H} {Q : V → H → Prop} : vE Φ ini (.isBool e) ρ h Q = vE Φ ini e ρ h fun v h => isB v fun b => Q (.bool b) h := rfl

/-- values that may be compared -/
noncomputable def flat (v : V) : Prop := (∃ i, v = .int i) ∨ ∃ b, v = .bool b
noncomputable def okP (a b : V) : Prop := (flat a ∧ flat b) ∨ ((∃ s, a = .str s) ∧ ∃ s, b = .str s)
theorem eq_spec {n : Nat} {a b : V} {h : H} {Q : V → H → Prop} (ok : okP a b) (q : Q (.bool (decide (a = b))) h) : CC (n + 1) 26 [a, b] h Q := by
  refine callI (fd := ⟨[78, 60], b_eq⟩) rfl rfl ?_
  rcases ok with ⟨⟨i, rfl⟩ | ⟨i, rfl⟩, ⟨j, rfl⟩ | ⟨j, rfl⟩⟩ | ⟨⟨i, rfl⟩, ⟨j, rfl⟩⟩
  · simpa -dsimp [b_eq, pyEq] using q
  · simpa -dsimp [b_eq, pyEq] using q
  · simpa -dsimp [b_eq, pyEq] using q
  · simpa -dsimp [b_eq, pyEq] using q
  · simpa -dsimp [b_eq, pyEq] using q

noncomputable def findK (k : Int) : KV → Int
  | [] => -1
  | (k', _) :: r => if k' = k then 0 else if findK k r < 0 then -1 else findK k r + 1
noncomputable def lookK (k : Int) : KV → Option V
  | [] => none
  | (k', v) :: r => if k' = k then some v else lookK k r
noncomputable def withK (k : Int) (v : V) : KV → KV
  | [] => [(k, v)]
  | (k', v') :: r => if k' = k then (k, v) :: r else (k', v') :: withK k v r
theorem findK_none {k : Int} : ∀ {kvs : KV}, (∀ kv ∈ kvs, kv.1 ≠ k) → findK k kvs = -1 ∧ lookK k kvs = none ∧ ∀ v, withK k v kvs = kvs ++ [(k, v)]
  | [], _ => ⟨rfl, rfl, fun _ => rfl⟩
  | (k', v') :: r, h => by
    refine e0_3 (findK_none (kvs := r) fun kv hkv => h kv (by simp -dsimp [hkv])) fun a b c => ?_
    have : k' ≠ k := h (k', v') (by simp -dsimp)
    refine ⟨?_, ?_, fun v => ?_⟩
    · simp -dsimp [findK, this, a]
    · simp -dsimp [lookK, this, b]
    · simp -dsimp [withK, this, c v]
theorem findK_some {k : Int} : ∀ {A B : KV} {v : V}, (∀ kv ∈ A, kv.1 ≠ k) → findK k (A ++ (k, v) :: B) = A.length ∧ lookK k (A ++ (k, v) :: B) = some v ∧ ∀ v', withK k v' (A ++ (k, v) :: B) = A ++ (k, v') :: B
  | [], B, v, _ => ⟨by simp -dsimp [findK], by simp -dsimp [lookK], fun v' => by simp -dsimp [withK]⟩
  | (k', v') :: A, B, v, h => by
    refine e0_3 (findK_some (A := A) (B := B) (v := v) fun kv hkv => h kv (by simp -dsimp [hkv])) fun a b c => ?_
    have : k' ≠ k := h (k', v') (by simp -dsimp)
    refine ⟨?_, ?_, fun v => ?_⟩
    · simp -dsimp only [List.cons_append, findK, this, if_false, a]
      rw [if_neg (by lia)]; simp -dsimp
    · simp -dsimp [lookK, this, b]
    · simp -dsimp [withK, this, c v]
theorem keySplit (k : Int) : ∀ kvs : KV, (∀ kv ∈ kvs, kv.1 ≠ k) ∨ ∃ A v B, kvs = A ++ (k, v) :: B ∧ ∀ kv ∈ A, kv.1 ≠ k
  | [] => .inl fun _ h => nomatch h
  | (k', v) :: r => by
    by_cases e : k' = k
    · subst e; exact .inr ⟨[], v, r, rfl, fun _ h => nomatch h⟩
    · rcases keySplit k r with h | ⟨A, v', B, rfl, h⟩
      · refine .inl fun kv hkv => ?_
        rcases List.mem_cons.mp hkv with rfl | q
        · exact e
        · exact h kv q
      · refine .inr ⟨(k', v) :: A, v', B, rfl, fun kv hkv => ?_⟩
        rcases List.mem_cons.mp hkv with rfl | q
        · exact e
        · exact h kv q
theorem TupsAt.get {h : H} : ∀ {vs : List V} {xs : List (List V)} {i : Nat} {x : List V}, TupsAt h vs xs → xs[i]? = some x → ∃ c, vs[i]? = some (.ref c) ∧ h c = some (.tup x)
  | v :: vs, x :: xs, 0, y, ⟨⟨c, e, g⟩, _⟩, q => by simp -dsimp at q; subst q; exact ⟨c, by simp -dsimp [e], g⟩
  | v :: vs, x :: xs, i + 1, y, ⟨_, r⟩, q => by simpa -dsimp using r.get (i := i) (by simpa -dsimp using q)
  | [], [], _, _, _, q => by simp -dsimp at q
  | [], _ :: _, _, _, h, _ => h.elim
  | _ :: _, [], _, _, h, _ => h.elim

noncomputable def pf_b : Sts := (.cons (.ite (.cmp .eq (.idx (.idx (.var 52) (.var 67)) (.int 0)) (.var 79)) (.cons (.ret (.var 67)) .nil) .nil) .nil)
theorem find_go {Φ : CallT} {p : V} {kvs : KV} {k : Int} {h : H} {Qn : R → H → Prop} {Qr : V → H → Prop} (P : PL h p kvs) (hl : kvs.length ≤ 1000) {live : H → Prop} {step : V → R → H → (R → H → Prop) → Prop} (lv : live h) (hs : ∀ x ρ h k, (bindT [67] false x ρ h fun ρ' => vB Φ iniT pf_b ρ' h k Qr) → step x ρ h k) :
    ∀ (B A : KV) (ρ : R), kvs = A ++ B → (∀ kv ∈ A, kv.1 ≠ k) → ρ 52 = some p → ρ 79 = some (.int k) → (∀ A' v B', kvs = A' ++ (k, v) :: B' → (∀ kv ∈ A', kv.1 ≠ k) → Qr (.int A'.length) h) → ((∀ kv ∈ kvs, kv.1 ≠ k) → ∀ ρ, Qn ρ h) →
      forL live step ((List.range' A.length B.length).map fun i => V.int (i : Nat)) ρ h Qn := by
  intro B
  induction B with
  | nil =>
    intro A ρ e hA r52 r79 k1 k2
    simp -dsimp only [List.length_nil, List.range'_zero, List.map_nil, forL]
    exact ⟨lv, k2 (by rw [e]; simpa -dsimp using hA) ρ⟩
  | cons kv B ih =>
    intro A ρ e hA r52 r79 k1 k2
    obtain ⟨k', v⟩ := kv
    simp -dsimp only [List.length_cons, List.range'_succ, List.map_cons, forL]
    refine ⟨lv, hs _ _ _ _ ?_⟩
    simp -dsimp only [bindT]
    refine e2_3 P fun a xs e92 ha ht => ?_
    clear P
    obtain rfl := e92
    obtain ⟨c, hc, hc2⟩ := ht.get (i := A.length) (x := [.int k', v]) (by rw [e]; simp -dsimp)
    have hxl : xs.length ≤ lim := by rw [ht.len, List.length_map]; unfold lim; lia
    simp -dsimp [pf_b, r52, r79, io_list ha, hxl, hc, io_tup hc2]
    refine ⟨by unfold lim; lia, ?_⟩
    by_cases ek : k' = k
    · subst ek
      simp -dsimp
      exact k1 A v B e hA
    · simp -dsimp [ek]
      have := ih (A ++ [(k', v)]) (ρ.set 67 (.int A.length)) (by rw [e]; simp -dsimp) (fun kv hkv => by
        rcases List.mem_append.mp hkv with q | q
        · exact hA kv q
        · rw [List.mem_singleton.mp q]; exact ek) (by simp -dsimp [r52]) (by simp -dsimp [r79]) k1 k2
      simpa -dsimp using this
theorem find_plist {n : Nat} {p : V} {kvs : KV} {k : Int} {h : H} {Q : V → H → Prop} (P : PL h p kvs) (hl : kvs.length ≤ 1000) (q : Q (.int (findK k kvs)) h) : CC (n + 1) 27 [p, .int k] h Q := by
  refine callI (fd := ⟨[52, 79], b_plist_find⟩) rfl rfl ?_
  have hb0 : b_plist_find = (.cons (.for [67] false true (.len (.var 52)) pf_b) (.cons (.ret (.neg 1)) .nil)) := rfl
  have P' := P
  refine e2_3 P' fun a xs e92 ha ht => ?_
  clear P'
  obtain rfl := e92
  have hxl : xs.length = kvs.length := by rw [ht.len, List.length_map]
  simp -dsimp [hb0, io_list ha]
  refine ⟨by unfold lim; lia, ?_⟩
  simp -dsimp [srcItems]
  refine ⟨by unfold lim; lia, ?_⟩
  have := find_go (Φ := CC n) (k := k) (Qr := Q) (Qn := fun _ h => Q (.int (-1)) h) P hl (live := sameAt (.int (kvs.length : Nat)) h) trivial (fun x ρ h k q => q) kvs [] ((R.empty.set 52 (.ref a)).set 79 (.int k)) rfl (fun _ h => nomatch h) (by simp -dsimp) (by simp -dsimp) (fun A' v B' e hA => ?_) fun hk ρ => ?_
  · simp -dsimp only [List.length_nil] at this
    rw [List.range_eq_range', hxl]
    exact this
  · rw [e, (findK_some hA).1] at q; exact q
  · rw [(findK_none hk).1] at q; exact q
end Mine

namespace Mine
open PySem

noncomputable def okKV (kv : Int × V) : Prop := (kv.1 = 9 ∧ ∃ s, kv.2 = .str s) ∨ (kv.1 ≠ 9 ∧ flat kv.2)
noncomputable def okK (kvs : KV) : Prop := kvs.length ≤ 1000 ∧ ∀ kv ∈ kvs, okKV kv
theorem okKV.p {k : Int} {v w : V} (a : okKV (k, v)) (b : okKV (k, w)) : okP v w := by
  rcases a with ⟨a1, a2⟩ | ⟨a1, a2⟩ <;> rcases b with ⟨b1, b2⟩ | ⟨b1, b2⟩
  · exact .inr ⟨a2, b2⟩
  · exact absurd a1 b1
  · exact absurd b1 a1
  · exact .inl ⟨a2, b2⟩

theorem with_spec {n : Nat} {p v : V} {kvs : KV} {k : Int} {h : H} {Q : V → H → Prop} (P : PL h p kvs) (ok : okK kvs)
    (q : ∀ p' h', PL h' p' (withK k v kvs) → Ext h h' → Q p' h') : CC (n + 2) 28 [p, .int k, v] h Q := by
  refine callI (fd := ⟨[52, 79, 80], b_plist_with⟩) rfl rfl ?_
  simp -dsimp [b_plist_with]
  refine find_plist P ok.1 ?_
  refine e2_3 (id P) fun a xs e92 ha ht => ?_
  obtain rfl := e92
  have hxl : xs.length = kvs.length := by rw [ht.len, List.length_map]
  have hk := ok.1
  rcases keySplit k kvs with h1 | ⟨A, w, B, rfl, hA⟩
  · refine e0_3 (findK_none h1) fun e1 _ e2 => ?_
    simp -dsimp [e1, la_list ha]
    refine ⟨by first | lia | (unfold lim; lia) | exact of_decide_eq_true rfl, fun c hc => ⟨by first | lia | (unfold lim; lia) | exact of_decide_eq_true rfl, fun d hd => ?_⟩⟩
    have hca : c ≠ a := by first | exact ne_new hc ha | exact ne_new' hc ha | exact ne_obj hc ha nofun | exact ne_obj ha hc nofun | (rintro rfl; rw [ha] at hc; cases hc)
    have hda : d ≠ a := by rintro rfl; rw [H.set_ne (Ne.symm hca)] at hd; rw [ha] at hd; cases hd
    have hdc : d ≠ c := by first | exact ne_new hd hs_self | exact ne_new' hd hs_self | exact ne_obj hd hs_self nofun | exact ne_obj hs_self hd nofun | (rintro rfl; rw [hs_self] at hd; cases hd)
    have ea : ((h.set c (.tup [.int k, v])).set d (.list [.ref c])) a = some (.list xs) := by rw [H.set_ne (Ne.symm hda), H.set_ne (Ne.symm hca)]; exact ha
    simp -dsimp [la_list ea]
    refine ⟨by first | lia | (unfold lim; lia) | exact of_decide_eq_true rfl, fun f hf => ?_⟩
    have x1 : Ext h (h.set c (.tup [.int k, v])) := Ext.set hc _
    have x2 := x1.trans (Ext.set hd (.list [.ref c]))
    have x3 := x2.trans (Ext.set hf (.list (xs ++ [.ref c])))
    refine q (.ref f) _ ⟨f, xs ++ [.ref c], rfl, hs_self, ?_⟩ x3
    rw [e2, List.map_append]
    refine (ht.mono fun c y e => x3.at e).app ⟨⟨c, rfl, ?_⟩, trivial⟩
    exact ((Ext.set hd (.list [.ref c])).trans (Ext.set hf (.list (xs ++ [.ref c])))).at hs_self
  · refine e0_3 (findK_some (B := B) (v := w) hA) fun e1 _ e2 => ?_
    have hlen : A.length + (B.length + 1) = xs.length := by rw [hxl]; simp -dsimp
    rw [e1]
    have hneg : ¬ ((A.length : Int) < 0) := by lia
    simp -dsimp [hneg, la_list ha]
    have hsmall : xs.length ≤ 1000 := by lia
    refine ⟨by first | lia | (unfold lim; lia) | exact of_decide_eq_true rfl, by first | lia | (unfold lim; lia) | exact of_decide_eq_true rfl, fun b hb => ?_⟩
    refine ⟨by first | lia | (unfold lim; lia) | exact of_decide_eq_true rfl, fun c hc => ?_⟩
    refine ⟨by first | lia | (unfold lim; lia) | exact of_decide_eq_true rfl, fun d hd => ?_⟩
    have hba : b ≠ a := by first | exact ne_new hb ha | exact ne_new' hb ha | exact ne_obj hb ha nofun | exact ne_obj ha hb nofun | (rintro rfl; rw [ha] at hb; cases hb)
    have x1 : Ext h (h.set b (.list (xs.take A.length))) := Ext.set hb _
    have x2 := x1.trans (Ext.set hc (.tup [.int k, v]))
    have x3 := x2.trans (Ext.set hd (.list [.ref c]))
    have hcb : c ≠ b := by first | exact ne_new hc hs_self | exact ne_new' hc hs_self | exact ne_obj hc hs_self nofun | exact ne_obj hs_self hc nofun | (rintro rfl; rw [hs_self] at hc; cases hc)
    have hdc : d ≠ c := by first | exact ne_new hd hs_self | exact ne_new' hd hs_self | exact ne_obj hd hs_self nofun | exact ne_obj hs_self hd nofun | (rintro rfl; rw [hs_self] at hd; cases hd)
    have hdb : d ≠ b := by rintro rfl; rw [H.set_ne (Ne.symm hcb), hs_self] at hd; cases hd
    have eb : (((h.set b (.list (xs.take A.length))).set c (.tup [.int k, v])).set d (.list [.ref c])) b = some (.list (xs.take A.length)) := by rw [H.set_ne (Ne.symm hdb), H.set_ne (Ne.symm hcb), hs_self]
    simp -dsimp [la_list eb]
    refine ⟨by first | lia | (unfold lim; lia) | exact of_decide_eq_true rfl, fun f hf => ?_⟩
    have x4 := x3.trans (Ext.set hf (.list (xs.take A.length ++ [.ref c])))
    have hfa : listAt ((((h.set b (.list (xs.take A.length))).set c (.tup [.int k, v])).set d (.list [.ref c])).set f (.list (xs.take A.length ++ [.ref c]))) (.ref a) = some xs := la_list (x4.at ha)
    simp -dsimp [hfa]
    refine ⟨by first | lia | (unfold lim; lia) | exact of_decide_eq_true rfl, by first | lia | (unfold lim; lia) | exact of_decide_eq_true rfl, by first | lia | (unfold lim; lia) | exact of_decide_eq_true rfl, fun g hg => ?_⟩
    have x5 := x4.trans (Ext.set hg (.list (xs.drop (A.length + 1))))
    have hgf : g ≠ f := by first | exact ne_new hg hs_self | exact ne_new' hg hs_self | exact ne_obj hg hs_self nofun | exact ne_obj hs_self hg nofun | (rintro rfl; rw [hs_self] at hg; cases hg)
    have ef : (((((h.set b (.list (xs.take A.length))).set c (.tup [.int k, v])).set d (.list [.ref c])).set f (.list (xs.take A.length ++ [.ref c]))).set g (.list (xs.drop (A.length + 1)))) f = some (.list (xs.take A.length ++ [.ref c])) := by rw [H.set_ne (Ne.symm hgf), hs_self]
    simp -dsimp [la_list ef]
    refine ⟨by first | lia | (unfold lim; lia) | exact of_decide_eq_true rfl, fun i hi => ?_⟩
    simp -dsimp only [List.append_assoc, List.cons_append, List.nil_append]
    have x6 := x5.trans (Ext.set hi (.list (xs.take A.length ++ .ref c :: xs.drop (A.length + 1))))
    have htup : (((h.set b (.list (xs.take A.length))).set c (.tup [.int k, v]))) c = some (.tup [.int k, v]) := hs_self
    refine q (.ref i) _ ⟨i, xs.take A.length ++ .ref c :: xs.drop (A.length + 1), rfl, hs_self, ?_⟩ x6
    rw [e2, List.map_append, List.map_cons]
    have ht6 := ht.mono (h' := ((((((h.set b (.list (xs.take A.length))).set c (.tup [.int k, v])).set d (.list [.ref c])).set f (.list (xs.take A.length ++ [.ref c]))).set g (.list (xs.drop (A.length + 1)))).set i (.list (xs.take A.length ++ .ref c :: xs.drop (A.length + 1))))) fun c y e => x6.at e
    have tk : ∀ (m : Nat) (vs : List V) (ys : List (List V)) (h : H), TupsAt h vs ys → TupsAt h (vs.take m) (ys.take m) ∧ TupsAt h (vs.drop m) (ys.drop m) := by
      intro m
      induction m with
      | zero => intro vs ys h t; exact ⟨by simp -dsimp [TupsAt], by simpa -dsimp using t⟩
      | succ m ih =>
        intro vs ys h t
        cases vs with
        | nil => cases ys with
          | nil => exact ⟨trivial, trivial⟩
          | cons _ _ => exact t.elim
        | cons v vs => cases ys with
          | nil => exact t.elim
          | cons y ys => exact ⟨⟨t.1, (ih vs ys h t.2).1⟩, (ih vs ys h t.2).2⟩
    have t1 := tk A.length _ _ _ ht6
    have t2 := tk (A.length + 1) _ _ _ ht6
    have f1 : List.take A.length (List.map (fun kv : Int × V => [V.int kv.1, kv.2]) (A ++ (k, w) :: B)) = A.map fun kv => [.int kv.1, kv.2] := by simp -dsimp
    have f2 : List.drop (A.length + 1) (List.map (fun kv : Int × V => [V.int kv.1, kv.2]) (A ++ (k, w) :: B)) = B.map fun kv => [.int kv.1, kv.2] := by
      rw [List.map_append, List.map_cons, List.drop_append]; simp -dsimp
    rw [f1] at t1
    rw [f2] at t2
    refine t1.1.app ⟨⟨c, rfl, ?_⟩, t2.2⟩
    have y4 := (((Ext.set hd (.list [.ref c])).trans (Ext.set hf (.list (xs.take A.length ++ [.ref c])))).trans (Ext.set hg (.list (xs.drop (A.length + 1))))).trans (Ext.set hi (.list (xs.take A.length ++ .ref c :: xs.drop (A.length + 1))))
    exact y4.at htup

theorem holds_spec {n : Nat} {p v : V} {kvs : KV} {k : Int} {h : H} {Q : V → H → Prop} (P : PL h p kvs) (ok : okK kvs) (okv : okKV (k, v)) (q : Q (.bool (decide (lookK k kvs = some v))) h) : CC (n + 2) 29 [p, .int k, v] h Q := by
  refine callI (fd := ⟨[52, 79, 80], b_holds_pair⟩) rfl rfl ?_
  simp -dsimp [b_holds_pair]
  refine find_plist P ok.1 ?_
  refine e2_3 (id P) fun a xs e92 ha ht => ?_
  obtain rfl := e92
  have hxl : xs.length = kvs.length := by rw [ht.len, List.length_map]
  have hk := ok.1
  rcases keySplit k kvs with h1 | ⟨A, w, B, rfl, hA⟩
  · refine e0_3 (findK_none h1) fun e1 e2 _ => ?_
    rw [e2] at q
    simpa -dsimp [e1] using q
  · refine e0_3 (findK_some (B := B) (v := w) hA) fun e1 e2 _ => ?_
    rw [e2] at q
    refine e1_2 (ht.get (i := A.length) (x := [.int k, w]) (by simp -dsimp)) fun c hc hc2 => ?_
    have hlen : A.length + (B.length + 1) = xs.length := by rw [hxl]; simp -dsimp
    have hsmall : xs.length ≤ 1000 := by lia
    simp -dsimp [e1, io_list ha, hc, io_tup hc2]
    refine ⟨by first | lia | (unfold lim; lia) | exact of_decide_eq_true rfl, by first | lia | (unfold lim; lia) | exact of_decide_eq_true rfl, ?_⟩
    refine eq_spec (okKV.p (ok.2 (k, w) (by simp -dsimp)) okv) ?_
    simpa -dsimp using q
end Mine

namespace Mine
open PySem

noncomputable def sameK (k1 k2 : KV) : Bool := decide (k1.length = k2.length) && k1.all fun kv => decide (lookK kv.1 k2 = some kv.2)
noncomputable def sp_b : Sts := (.cons (.ite (.not (.call 29 (.cons (.var 60) (.cons (.var 79) (.cons (.var 80) .nil))))) (.cons (.ret (.bool false))
      .nil) .nil)
    .nil)
theorem same_go {n : Nat} {p2 : V} {k2 : KV} {h : H} {Qn : R → H → Prop} {Qr : V → H → Prop} (P : PL h p2 k2) (ok2 : okK k2) {live : H → Prop} {step : V → R → H → (R → H → Prop) → Prop} (lv : live h) (hs : ∀ x ρ h k, (bindT [79, 80] true x ρ h fun ρ' => vB (CC (n + 2)) iniT sp_b ρ' h k Qr) → step x ρ h k) :
    ∀ (B : KV) (us : List V) (ρ : R), TupsAt h us (B.map fun kv => [.int kv.1, kv.2]) → (∀ kv ∈ B, okKV kv) → ρ 60 = some p2 → ((B.all fun kv => decide (lookK kv.1 k2 = some kv.2)) = false → Qr (.bool false) h) → ((B.all fun kv => decide (lookK kv.1 k2 = some kv.2)) = true → ∀ ρ, Qn ρ h) →
      forL live step us ρ h Qn := by
  intro B
  induction B with
  | nil =>
    intro us ρ t _ r60 k1 k2
    cases us with
    | nil => exact ⟨lv, k2 rfl ρ⟩
    | cons _ _ => exact t.elim
  | cons kv B ih =>
    intro us ρ t ok r60 k1 k3
    cases us with
    | nil => exact t.elim
    | cons u us =>
      obtain ⟨⟨c, rfl, hc⟩, t⟩ := t
      refine ⟨lv, hs _ _ _ _ ?_⟩
      simp -dsimp only [bindT, ta_tup hc, ned_some]
      refine ⟨rfl, ?_⟩
      simp -dsimp [sp_b, r60]
      refine holds_spec P ok2 (ok kv (by simp -dsimp)) ?_
      by_cases e : lookK kv.1 k2 = some kv.2
      · simp -dsimp [e]
        simp -dsimp only [List.all_cons, e, decide_true, Bool.true_and] at k1 k3
        exact ih us _ t (fun kv hkv => ok kv (by simp -dsimp [hkv])) (by simp -dsimp [r60]) k1 k3
      · simp -dsimp [e]
        exact k1 (by simp -dsimp [e])
theorem same_spec {n : Nat} {p1 p2 : V} {k1 k2 : KV} {h : H} {Q : V → H → Prop} (P1 : PL h p1 k1) (P2 : PL h p2 k2) (ok1 : okK k1) (ok2 : okK k2) (q : Q (.bool (sameK k1 k2)) h) : CC (n + 3) 30 [p1, p2] h Q := by
  refine callI (fd := ⟨[78, 60], b_same_plist⟩) rfl rfl ?_
  have hb0 : b_same_plist = (.cons (.ite (.cmp .ne (.len (.var 78)) (.len (.var 60))) (.cons (.ret (.bool false)) .nil) .nil) (.cons (.for [79, 80] true false (.var 78) sp_b) (.cons (.ret (.bool true)) .nil))) := rfl
  refine e2_3 (id P1) fun a xs e92 ha ht => ?_
  obtain rfl := e92
  refine e2_3 (id P2) fun b ys e92 hb ht2 => ?_
  obtain rfl := e92
  have hxl : xs.length = k1.length := by rw [ht.len, List.length_map]
  have hyl : ys.length = k2.length := by rw [ht2.len, List.length_map]
  have h1 := ok1.1
  have h2 := ok2.1
  simp -dsimp [hb0, io_list ha, io_list hb]
  refine ⟨by first | lia | (unfold lim; lia), by first | lia | (unfold lim; lia), ?_⟩
  by_cases e : (xs.length : Int) = ys.length
  · have ek : k1.length = k2.length := by lia
    rw [if_pos e]
    simp -dsimp [srcItems, io_list ha]
    refine ⟨by first | lia | (unfold lim; lia), ?_⟩
    refine same_go (n := n) (Qr := Q) (live := sameAt (.ref a) h) P2 ok2 rfl (fun x ρ h k q => q) k1 xs _ ht ok1.2 (by simp -dsimp) (fun ea => ?_) fun ea ρ => ?_
    · rw [sameK, ea, Bool.and_false] at q; exact q
    · rw [sameK, ea, Bool.and_true, decide_eq_true ek] at q; exact q
  · have ek : ¬ k1.length = k2.length := by lia
    rw [sameK, decide_eq_false ek, Bool.false_and] at q
    rw [if_neg e]
    exact q

noncomputable def addK1 (f : KV) (kv : Int × V) : KV := if lookK kv.1 f = some kv.2 then f else withK kv.1 kv.2 f
noncomputable def addK (f : KV) (B : KV) : KV := B.foldl addK1 f
theorem withK_ok {k : Int} {v : V} (hv : okKV (k, v)) : ∀ {f : KV}, (∀ kv ∈ f, okKV kv) → (∀ kv ∈ withK k v f, okKV kv) ∧ (withK k v f).length ≤ f.length + 1
  | [], _ => ⟨fun kv hkv => by rw [List.mem_singleton.mp hkv]; exact hv, Nat.le_refl _⟩
  | (k', v') :: r, h => by
    by_cases e : k' = k
    · simp -dsimp only [withK, if_pos e]
      refine ⟨fun kv hkv => ?_, Nat.le_succ _⟩
      rcases List.mem_cons.mp hkv with rfl | q
      · exact hv
      · exact h kv (by simp -dsimp [q])
    · obtain ⟨a, b⟩ := withK_ok hv (f := r) fun kv hkv => h kv (by simp -dsimp [hkv])
      simp -dsimp only [withK, if_neg e]
      refine ⟨fun kv hkv => ?_, by simp -dsimp; omega⟩
      rcases List.mem_cons.mp hkv with rfl | q
      · exact h _ (by simp -dsimp)
      · exact a kv q
theorem addK1_ok {kv : Int × V} (hv : okKV kv) {f : KV} (h : ∀ kv ∈ f, okKV kv) : (∀ x ∈ addK1 f kv, okKV x) ∧ (addK1 f kv).length ≤ f.length + 1 := by
  unfold addK1
  split
  · exact ⟨h, Nat.le_succ _⟩
  · exact withK_ok hv h

noncomputable def pa_b : Sts := (.cons (.ite (.not (.call 29 (.cons (.var 77) (.cons (.var 79) (.cons (.var 80) .nil))))) (.cons (.assign 77 (.call 28 (.cons (.var 77) (.cons (.var 79) (.cons (.var 80) .nil)))))
      .nil) .nil)
    .nil)
theorem add_go {n : Nat} {h0 : H} {Qn : R → H → Prop} {Qr : V → H → Prop} {live : H → Prop} {step : V → R → H → (R → H → Prop) → Prop} (lv : ∀ h, Ext h0 h → live h) (hs : ∀ x ρ h k, (bindT [79, 80] true x ρ h fun ρ' => vB (CC (n + 2)) iniT pa_b ρ' h k Qr) → step x ρ h k) :
    ∀ (B : KV) (us : List V) (f : KV) (p : V) (ρ : R) (h : H), Ext h0 h → TupsAt h us (B.map fun kv => [.int kv.1, kv.2]) → (∀ kv ∈ B, okKV kv) → PL h p f → (∀ kv ∈ f, okKV kv) → f.length + B.length ≤ 1000 → ρ 77 = some p →
      (∀ ρ' p' h', Ext h0 h' → PL h' p' (addK f B) → ρ' 77 = some p' → Qn ρ' h') → forL live step us ρ h Qn := by
  intro B
  induction B with
  | nil =>
    intro us f p ρ h x t _ P _ _ r77 k
    cases us with
    | nil => exact ⟨lv h x, k ρ p h x P r77⟩
    | cons _ _ => exact t.elim
  | cons kv B ih =>
    intro us f p ρ h x t ok P okf hl r77 k
    cases us with
    | nil => exact t.elim
    | cons u us =>
      obtain ⟨⟨c, rfl, hc⟩, t⟩ := t
      refine ⟨lv h x, hs _ _ _ _ ?_⟩
      simp -dsimp only [bindT, ta_tup hc, ned_some]
      refine ⟨rfl, ?_⟩
      simp -dsimp only [List.length_cons] at hl
      have hok : okK f := ⟨by lia, okf⟩
      simp -dsimp [pa_b, r77]
      refine holds_spec P hok (ok kv (by simp -dsimp)) ?_
      obtain ⟨o1, o2⟩ := addK1_ok (ok kv (by simp -dsimp)) okf
      by_cases e : lookK kv.1 f = some kv.2
      · simp -dsimp [e]
        have e1 : addK1 f kv = f := by rw [addK1, if_pos e]
        exact ih us f p _ h x t (fun kv hkv => ok kv (by simp -dsimp [hkv])) P okf (by lia) (by simp -dsimp [r77]) (by simpa -dsimp only [addK, List.foldl_cons, e1] using k)
      · simp -dsimp [e, r77]
        have e1 : addK1 f kv = withK kv.1 kv.2 f := by rw [addK1, if_neg e]
        rw [e1] at o1 o2
        refine with_spec P hok fun p' h' P' x' => ?_
        exact ih us _ p' _ h' (x.trans x') (t.mono fun c y e => x'.at e) (fun kv hkv => ok kv (by simp -dsimp [hkv])) P' o1 (by lia) (by simp -dsimp) (by simpa -dsimp only [addK, List.foldl_cons, e1] using k)
theorem added_spec {n : Nat} {p m : V} {f B : KV} {h : H} {Q : V → H → Prop} (P : PL h p f) (M : PL h m B) (okf : ∀ kv ∈ f, okKV kv) (okB : ∀ kv ∈ B, okKV kv) (hl : f.length + B.length ≤ 1000)
    (q : ∀ p' h', PL h' p' (addK f B) → Ext h h' → Q p' h') : CC (n + 3) 31 [p, m] h Q := by
  refine callI (fd := ⟨[52, 81], b_plist_added⟩) rfl rfl ?_
  have hb0 : b_plist_added = (.cons (.assign 77 (.var 52)) (.cons (.for [79, 80] true false (.var 81) pa_b) (.cons (.ret (.var 77)) .nil))) := rfl
  refine e2_3 (id M) fun b ys e92 hb ht2 => ?_
  obtain rfl := e92
  have hyl : ys.length = B.length := by rw [ht2.len, List.length_map]
  simp -dsimp [hb0, srcItems, io_list hb]
  refine ⟨by first | lia | (unfold lim; lia), ?_⟩
  refine add_go (n := n) (h0 := h) (Qr := Q) (fun h' x => x b (by rw [hb]; simp -dsimp)) (fun x ρ h k q => q) B ys f p _ h (.refl h) ht2 okB P okf hl (by simp -dsimp) fun ρ' p' h' x P' r77 => ?_
  simp -dsimp [r77]
  exact q p' h' P' x

theorem rm_go {h : H} {nums : Nat} {ws : List V} {ns : List Int} {ρ0 : R} {Φ : CallT} {fin : List V → H → Prop} (hn : h nums = some (.list ws)) (hi : intsOf ws = some ns) (r82 : ρ0 82 = some (.ref nums)) {live : H → Prop} {step : V → H → (Option V → H → Prop) → Prop} (lv : live h)
    (hs : ∀ x k, (bindT [83] false x (ρ0.only [82]) h fun ρ' => vT Φ iniT (.cmp .notIn (.idx (.var 83) (.int 0)) (.var 82)) ρ' h fun c h => if c = true then vE Φ iniT (.var 83) ρ' h (fun y h => k (some y) h) else k none h) → step x h k) :
    ∀ (B : KV) (us acc : List V) (A : KV), TupsAt h us (B.map fun kv => [.int kv.1, kv.2]) → TupsAt h acc (A.map fun kv => [.int kv.1, kv.2]) → (∀ acc, TupsAt h acc ((A ++ B.filter fun kv => !ns.contains kv.1).map fun kv => [.int kv.1, kv.2]) → fin acc h) → compL live step us acc h fin := by
  intro B
  induction B with
  | nil =>
    intro us acc A t ta k
    cases us with
    | nil => exact ⟨lv, k acc (by simpa -dsimp using ta)⟩
    | cons _ _ => exact t.elim
  | cons kv B ih =>
    intro us acc A t ta k
    cases us with
    | nil => exact t.elim
    | cons u us =>
      obtain ⟨⟨c, rfl, hc⟩, t⟩ := t
      refine ⟨lv, hs _ _ ?_⟩
      simp -dsimp only [bindT]
      have r82' : (ρ0.only [82]) 82 = some (.ref nums) := by simp -dsimp [R.only, r82]
      simp -dsimp [io_tup hc, r82', cmpop, la_list hn, hi]
      refine ⟨by unfold lim; lia, ?_⟩
      by_cases e : kv.1 ∈ ns
      · simp -dsimp [e]
        refine ih us acc A t ta fun acc' ta' => k acc' ?_
        simpa -dsimp [e] using ta'
      · simp -dsimp [e]
        refine ih us (acc ++ [.ref c]) (A ++ [kv]) t ?_ fun acc' ta' => k acc' ?_
        · rw [List.map_append]; exact ta.app ⟨⟨c, rfl, hc⟩, trivial⟩
        · simpa -dsimp [e] using ta'
@[simp ↓] theorem x_comp {Φ : CallT} {ini : Nat → Nat} {ρ : R} {h : H} {Q : V → H → Prop} {elt src cond : Ex} {tgts frees : List Nat} {tup rng : Bool} : vE Φ ini (.comp elt tgts tup frees rng src cond) ρ h Q = ((∀ x, x ∈ frees → (ρ x).isSome = true) ∧ vE Φ ini src ρ h fun v h => ned (srcItems rng h v) fun xs => xs.length ≤ lim ∧
      compL (sameAt v h) (fun x h k => bindT tgts tup x (ρ.only frees) h fun ρ' =>
        vT Φ ini cond ρ' h fun c h => if c = true then vE Φ ini elt ρ' h (fun y h => k (some y) h) else k .none h) xs [] h fun acc h => nwO h (.list acc) Q) := rfl
theorem removed_spec {n : Nat} {p : V} {kvs : KV} {h : H} {nums : Nat} {ws : List V} {ns : List Int} {Q : V → H → Prop} (P : PL h p kvs) (hl : kvs.length ≤ 1000) (hn : h nums = some (.list ws)) (hi : intsOf ws = some ns)
    (q : ∀ p' h', PL h' p' (kvs.filter fun kv => !ns.contains kv.1) → Ext h h' → Q p' h') : CC (n + 1) 32 [p, .ref nums] h Q := by
  refine callI (fd := ⟨[52, 82], b_plist_removed⟩) rfl rfl ?_
  refine e2_3 (id P) fun a xs e92 ha ht => ?_
  obtain rfl := e92
  have hxl : xs.length = kvs.length := by rw [ht.len, List.length_map]
  simp -dsimp only [b_plist_removed, b_cons, b_nil, s_ret, x_comp]
  refine ⟨by simp -dsimp, ?_⟩
  simp -dsimp only [x_var]
  simp -dsimp [srcItems, io_list ha, -x_var, -t_cmp, -x_idx]
  refine ⟨by first | lia | (unfold lim; lia), ?_⟩
  refine rm_go (Φ := CC n) (ρ0 := (R.empty.set 52 (.ref a)).set 82 (.ref nums)) hn hi (by simp -dsimp) (live := sameAt (.ref a) h) rfl (fun x k q => q) kvs xs [] [] ht trivial fun acc ta => ?_
  intro c hc
  exact q _ _ ⟨c, acc, rfl, hs_self, (by simpa -dsimp using ta : TupsAt h acc _).mono fun d y e => (Ext.set hc _).at e⟩ (Ext.set hc _)
end Mine

namespace Mine
open PySem

theorem nodup_len {α : Type} [DecidableEq α] : ∀ {l1 l2 : List α}, l1.Nodup → (∀ x ∈ l1, x ∈ l2) → l1.length ≤ l2.length
  | [], _, _, _ => Nat.zero_le _
  | x :: l1, l2, hn, hs => by
    rw [List.nodup_cons] at hn
    have hx : x ∈ l2 := hs x (by simp -dsimp)
    have h1 : ∀ y ∈ l1, y ∈ l2.erase x := fun y hy => (List.mem_erase_of_ne (by rintro rfl; exact hn.1 hy)).mpr (hs y (by simp -dsimp [hy]))
    have := nodup_len hn.2 h1
    rw [List.length_erase_of_mem hx] at this
    have : 0 < l2.length := List.length_pos_of_mem hx
    simp -dsimp; lia
theorem nodup_sub {α : Type} [DecidableEq α] {l1 l2 : List α} (hn : l1.Nodup) (hs : ∀ x ∈ l1, x ∈ l2) (hl : l2.length ≤ l1.length) : ∀ y ∈ l2, y ∈ l1 := fun y hy => by
  by_cases h : y ∈ l1
  · exact h
  · have := nodup_len (l1 := y :: l1) (l2 := l2) (List.nodup_cons.mpr ⟨h, hn⟩) fun x hx => by
      rcases List.mem_cons.mp hx with rfl | q
      · exact hy
      · exact hs x q
    simp -dsimp at this; lia

/-- what a property list says -/
noncomputable abbrev PM := Int → Option V
noncomputable def pm (kvs : KV) : PM := fun k => lookK k kvs
noncomputable def okV (kv : Int × V) : Prop := (kv.1 = 9 ∧ ∃ s : Str, kv.2 = .str s ∧ s.cps.all (· < 0x110000) = true) ∨ (kv.1 ∈ ([1, 2, 3, 4] : List Int) ∧ ((∃ i : Int, kv.2 = .int i ∧ -1000000 ≤ i ∧ i ≤ 1000000) ∨ ∃ b, kv.2 = .bool b))
noncomputable def okKs (kvs : KV) : Prop := (kvs.map (·.1)).Nodup ∧ ∀ kv ∈ kvs, okV kv
theorem okV.kv {kv : Int × V} (h : okV kv) : okKV kv := by
  rcases h with ⟨a, s, b, _⟩ | ⟨a, ⟨i, b, _⟩ | ⟨c, b⟩⟩
  · exact .inl ⟨a, s, b⟩
  · exact .inr ⟨by rintro e; rw [e] at a; simp -dsimp at a, .inl ⟨i, b⟩⟩
  · exact .inr ⟨by rintro e; rw [e] at a; simp -dsimp at a, .inr ⟨c, b⟩⟩
theorem okKs.len {kvs : KV} (h : okKs kvs) : kvs.length ≤ 5 := by
  have := nodup_len (l2 := ([1, 2, 3, 4, 9] : List Int)) h.1 fun k hk => by
    refine e1_2 (List.mem_map.mp hk) fun kv hkv e92 => ?_
    obtain rfl := e92
    rcases h.2 kv hkv with ⟨a, _⟩ | ⟨a, _⟩
    · rw [a]; simp -dsimp
    · simp -dsimp at a ⊢; lia
  simpa -dsimp using this
theorem okKs.k {kvs : KV} (h : okKs kvs) : okK kvs := ⟨by have := h.len; lia, fun kv hkv => (h.2 kv hkv).kv⟩
theorem look_mem {k : Int} {v : V} : ∀ {kvs : KV}, lookK k kvs = some v → (k, v) ∈ kvs
  | (k', v') :: r, h => by
    unfold lookK at h
    by_cases e : k' = k
    · subst e; rw [if_pos rfl] at h; cases h; simp -dsimp
    · rw [if_neg e] at h; exact List.mem_cons_of_mem _ (look_mem h)
theorem mem_look {k : Int} {v : V} : ∀ {kvs : KV}, (kvs.map (·.1)).Nodup → (k, v) ∈ kvs → lookK k kvs = some v
  | (k', v') :: r, hn, h => by
    rw [List.map_cons, List.nodup_cons] at hn
    rcases List.mem_cons.mp h with e | h
    · cases e; simp -dsimp [lookK]
    · have : k' ≠ k := by rintro rfl; exact hn.1 (List.mem_map_of_mem (f := (·.1)) h)
      simp -dsimp only [lookK, if_neg this]; exact mem_look hn.2 h
theorem look_none {k : Int} : ∀ {kvs : KV}, lookK k kvs = none ↔ k ∉ kvs.map (·.1)
  | [] => by simp -dsimp [lookK]
  | (k', v') :: r => by
    by_cases e : k' = k
    · subst e; simp -dsimp [lookK]
    · simp -dsimp only [lookK, if_neg e, List.map_cons, List.mem_cons, look_none (kvs := r), not_or]
      exact ⟨fun h => ⟨fun q => e q.symm, h⟩, fun h => h.2⟩
theorem same_iff {a b : KV} (ha : okKs a) (hb : okKs b) : sameK a b = true ↔ pm a = pm b := by
  unfold sameK
  simp -dsimp only [Bool.and_eq_true, decide_eq_true_eq, List.all_eq_true]
  constructor
  · rintro ⟨hl, h⟩
    have hs : ∀ k ∈ a.map (·.1), k ∈ b.map (·.1) := fun k hk => by
      refine e1_2 (List.mem_map.mp hk) fun kv hkv e92 => ?_
      obtain rfl := e92
      exact List.mem_map_of_mem (f := (·.1)) (look_mem (h kv hkv))
    have hr := nodup_sub ha.1 hs (by simp -dsimp [hl])
    funext k
    show lookK k a = lookK k b
    cases e : lookK k a with
    | some v => exact (h (k, v) (look_mem e)).symm
    | none =>
      have h1 := look_none.mp e
      exact (look_none.mpr fun q => h1 (hr k q)).symm
  · intro e
    have e' : ∀ k, lookK k a = lookK k b := fun k => congrFun e k
    have hs : ∀ k ∈ a.map (·.1), k ∈ b.map (·.1) := fun k hk => by
      set_option tactic.hygienic true in false_or_by_contra
      rename_i hc
      rw [← look_none, ← e', look_none] at hc
      exact hc hk
    have hs' : ∀ k ∈ b.map (·.1), k ∈ a.map (·.1) := fun k hk => by
      set_option tactic.hygienic true in false_or_by_contra
      rename_i hc
      rw [← look_none, e', look_none] at hc
      exact hc hk
    have l1 := nodup_len ha.1 hs
    have l2 := nodup_len hb.1 hs'
    refine ⟨by simp -dsimp at l1 l2; lia, fun kv hkv => ?_⟩
    rw [← e']
    exact mem_look ha.1 hkv

/-- rows with what their lists say -/
noncomputable abbrev AR := Row × KV
noncomputable abbrev AR.o (x : AR) : Int := x.1.2.1
noncomputable abbrev rws (X : List AR) : List Row := X.map (·.1)
noncomputable def asum (X : List AR) : Int := rsum (rws X)
@[simp] theorem asum_app {A B : List AR} : asum (A ++ B) = asum A + asum B := by simp -dsimp [asum]
@[simp] theorem asum_cons {x : AR} {B : List AR} : asum (x :: B) = x.1.2.1 + asum B := by simp -dsimp [asum]
@[simp] theorem asum_nil : asum [] = 0 := rfl
noncomputable def chars : List AR → List PM
  | [] => []
  | x :: X => List.replicate x.1.2.1.toNat (pm x.2) ++ chars X
@[simp] theorem chars_nil : chars [] = [] := rfl
@[simp] theorem chars_cons {x : AR} {X : List AR} : chars (x :: X) = List.replicate x.1.2.1.toNat (pm x.2) ++ chars X := rfl
@[simp] theorem chars_app : ∀ {A B : List AR}, chars (A ++ B) = chars A ++ chars B
  | [], _ => rfl
  | x :: A, B => by simp -dsimp [chars_app (A := A)]
noncomputable def chain : List AR → Prop
  | [] => True
  | [_] => True
  | x :: y :: X => pm x.2 ≠ pm y.2 ∧ chain (y :: X)
structure Good (X : List AR) : Prop where
  pos : ∀ x ∈ X, 0 < x.1.2.1
  ok : ∀ x ∈ X, okKs x.2
theorem Good.app {A B : List AR} : Good (A ++ B) ↔ Good A ∧ Good B :=
  ⟨fun h => ⟨⟨fun x hx => h.pos x (by simp -dsimp [hx]), fun x hx => h.ok x (by simp -dsimp [hx])⟩, fun x hx => h.pos x (by simp -dsimp [hx]), fun x hx => h.ok x (by simp -dsimp [hx])⟩,
   fun ⟨a, b⟩ => ⟨fun x hx => (List.mem_append.mp hx).elim (a.pos x) (b.pos x), fun x hx => (List.mem_append.mp hx).elim (a.ok x) (b.ok x)⟩⟩
theorem Good.cons {x : AR} {B : List AR} : Good (x :: B) ↔ (0 < x.1.2.1 ∧ okKs x.2) ∧ Good B :=
  ⟨fun h => ⟨⟨h.pos x (by simp -dsimp), h.ok x (by simp -dsimp)⟩, fun y hy => h.pos y (by simp -dsimp [hy]), fun y hy => h.ok y (by simp -dsimp [hy])⟩,
   fun ⟨a, b⟩ => ⟨fun y hy => (List.mem_cons.mp hy).elim (fun e => e ▸ a.1) (b.pos y), fun y hy => (List.mem_cons.mp hy).elim (fun e => e ▸ a.2) (b.ok y)⟩⟩
theorem Good.nil : Good [] := ⟨fun _ h => (nomatch h), fun _ h => (nomatch h)⟩
theorem Good.rows {X : List AR} (h : Good X) : Pos (rws X) := fun r hr => by obtain ⟨x, hx, rfl⟩ := List.mem_map.mp hr; exact h.pos x hx
theorem Good.nn {X : List AR} (h : Good X) : 0 ≤ asum X := h.rows.nn
theorem chars_len : ∀ {X : List AR}, Good X → ((chars X).length : Int) = asum X
  | [], _ => rfl
  | x :: X, h => by
    obtain ⟨⟨a, _⟩, b⟩ := Good.cons.mp h
    have := chars_len b
    simp -dsimp; lia
theorem chain_tail {x : AR} {X : List AR} (h : chain (x :: X)) : chain X := by
  cases X with
  | nil => trivial
  | cons y X => exact h.2
theorem chain_app_l : ∀ {A B : List AR}, chain (A ++ B) → chain A
  | [], _, _ => trivial
  | [_], _, _ => trivial
  | x :: y :: A, B, h => ⟨h.1, chain_app_l (A := y :: A) h.2⟩
theorem chain_app_r : ∀ {A B : List AR}, chain (A ++ B) → chain B
  | [], _, h => h
  | x :: A, B, h => chain_app_r (A := A) (chain_tail h)
/-- chains are put together at a boundary where both sides differ -/
theorem chain_join : ∀ {A : List AR} {x : AR} {B : List AR}, chain (A ++ [x]) → chain (x :: B) → chain (A ++ x :: B)
  | [], _, _, _, h => h
  | [y], x, B, a, h => ⟨a.1, h⟩
  | y :: z :: A, x, B, a, h => ⟨a.1, chain_join (A := z :: A) a.2 h⟩
theorem chain_like : ∀ {A : List AR} {x x' : AR}, pm x'.2 = pm x.2 → chain (A ++ [x]) → chain (A ++ [x'])
  | [], _, _, _, _ => trivial
  | [y], x, x', e, h => ⟨by rw [e]; exact h.1, trivial⟩
  | y :: z :: A, x, x', e, h => ⟨h.1, chain_like (A := z :: A) e h.2⟩
theorem chain_like' {x x' : AR} {B : List AR} (e : pm x'.2 = pm x.2) (h : chain (x :: B)) : chain (x' :: B) := by
  cases B with
  | nil => trivial
  | cons y B => exact ⟨by rw [e]; exact h.1, h.2⟩
theorem chain_snoc : ∀ {A : List AR} {x y : AR}, chain (A ++ [x]) → pm x.2 ≠ pm y.2 → chain (A ++ [x, y])
  | [], _, _, _, h => ⟨h, trivial⟩
  | [z], x, y, a, h => ⟨a.1, h, trivial⟩
  | z :: w :: A, x, y, a, h => ⟨a.1, chain_snoc (A := w :: A) a.2 h⟩

/-- the split, with what the lists say -/
noncomputable def splitX (f : Nat) : Int → List AR → List AR
  | _, [] => []
  | i, ((a, o, p), c) :: B => if i ≤ 0 then ((a, o, p), c) :: B else if i < o then ((a, i, p), c) :: ((f, o - i, p), c) :: B else ((a, o, p), c) :: splitX f (i - o) B
theorem splitX_rws (f : Nat) : ∀ {X : List AR} {i : Int}, rws (splitX f i X) = splitR f i (rws X)
  | [], _ => rfl
  | ((a, o, p), c) :: B, i => by
    unfold splitX
    simp -dsimp only [rws, List.map_cons, splitR]
    split
    · rfl
    · split
      · rfl
      · have := splitX_rws f (X := B) (i := i - o)
        simp -dsimp only [rws] at this
        simp -dsimp only [List.map_cons, this]
theorem splitX_bd (f : Nat) : ∀ {X : List AR} {i : Int}, Good X → chain X → 0 ≤ i → i ≤ asum X →
    ∃ A B, splitX f i X = A ++ B ∧ asum A = i ∧ Good A ∧ Good B ∧ chain A ∧ chain B ∧ chars X = chars A ++ chars B ∧ (A ++ B = X ∨ ∃ A' x B' x1 x2, X = A' ++ x :: B' ∧ A = A' ++ [x1] ∧ B = x2 :: B' ∧ x1.2 = x.2 ∧ x2.2 = x.2)
  | [], i, g, _, h0, h1 => ⟨[], [], rfl, by simp -dsimp at h1 ⊢; lia, g, g, trivial, trivial, rfl, .inl rfl⟩
  | ((a, o, p), c) :: X, i, g, hc, h0, h1 => by
    obtain ⟨⟨ho, hk⟩, g'⟩ := Good.cons.mp g
    simp -dsimp only at ho
    simp -dsimp only [asum_cons] at h1
    by_cases c1 : i ≤ 0
    · rw [splitX, if_pos c1]
      exact ⟨[], _, rfl, by simp -dsimp; lia, .nil, g, trivial, hc, rfl, .inl rfl⟩
    · by_cases c2 : i < o
      · rw [splitX, if_neg c1, if_pos c2]
        refine ⟨[((a, i, p), c)], ((f, o - i, p), c) :: X, rfl, by simp -dsimp, Good.cons.mpr ⟨⟨by show 0 < i; lia, hk⟩, .nil⟩, Good.cons.mpr ⟨⟨by show 0 < o - i; lia, hk⟩, g'⟩, trivial, chain_like' (x := ((a, o, p), c)) rfl hc, ?_, .inr ⟨[], _, X, _, _, rfl, rfl, rfl, rfl, rfl⟩⟩
        simp -dsimp only [chars_cons, chars_nil, List.append_nil]
        rw [← List.append_assoc, List.replicate_append_replicate]
        congr 2
        lia
      · rw [splitX, if_neg c1, if_neg c2]
        refine e2_8 (splitX_bd f (X := X) (i := i - o) g' (chain_tail hc) (by lia) (by lia)) fun A B e1 e2 gA gB cA cB ec hh => ?_
        refine ⟨((a, o, p), c) :: A, B, by rw [e1]; rfl, by simp -dsimp; lia, Good.cons.mpr ⟨⟨ho, hk⟩, gA⟩, gB, ?_, cB, by simp -dsimp [ec], ?_⟩
        · rcases hh with hh | ⟨A', x, B', x1, x2, rfl, rfl, rfl, q1, q2⟩
          · rw [← hh] at hc
            exact chain_app_l (A := ((a, o, p), c) :: A) hc
          · refine chain_like (A := ((a, o, p), c) :: A') (x := x) (by rw [q1]) ?_
            have : ((a, o, p), c) :: (A' ++ x :: B') = (((a, o, p), c) :: A' ++ [x]) ++ B' := by simp -dsimp
            rw [this] at hc
            exact chain_app_l hc
        · rcases hh with hh | ⟨A', x, B', x1, x2, rfl, rfl, rfl, q1, q2⟩
          · exact .inl (by rw [List.cons_append, hh])
          · exact .inr ⟨((a, o, p), c) :: A', x, B', x1, x2, rfl, rfl, rfl, q1, q2⟩
end Mine

namespace Mine
open PySem

theorem settle_row {n tr : Nat} {h : H} {A B : List Row} {x : Row} {Q : V → H → Prop} (t : Tree h tr (A ++ x :: B)) (hp : Pos (A ++ x :: B)) (hb : rsum (A ++ x :: B) ≤ big)
    (k : ∀ h', Tree h' tr (A ++ x :: B) → Step h tr (A ++ x :: B) h' (A ++ x :: B) → Q .none h') : CC (n + 4) 11 [.ref tr, .ref x.1] h Q := by
  refine e3_3 t.at fun c l r z eA eB => ?_
  obtain ⟨a, o, p⟩ := x
  dsimp only at z
  have e9 : (plug c (.node a l o p r)).rows = A ++ (a, o, p) :: B := by rw [plug_rows, ← eA, ← eB]; simp -dsimp [T.rows]
  refine settle_up_spec (t := .node a l o p r) z (fun y hy => hp y (by rw [← e9]; exact hy)) (by simp -dsimp) (by rw [T.sum_rows, e9]; exact hb) fun h' t' z' hr f => ?_
  have T' : Tree h' tr (A ++ (a, o, p) :: B) := ⟨t', z', hr.trans e9⟩
  exact k h' T' (step_of T' rfl fun d d1 d2 d3 => f d d1 d2 (by rw [mem_ads_rows, e9]; exact d3))

structure TX (h : H) (pr tr : Nat) (X : List AR) : Prop where
  pr : h pr = some (pO tr)
  t : Tree h tr (rws X)
  g : Good X
  pl : ∀ x ∈ X, PL h x.1.2.2 x.2
  b : asum X ≤ 1000
noncomputable abbrev SX' (h : H) (tr : Nat) (X : List AR) (h' : H) (X' : List AR) : Prop := Step h tr (rws X) h' (rws X')
theorem TX.big {h : H} {pr tr : Nat} {X : List AR} (x : TX h pr tr X) : rsum (rws X) ≤ big := by have := x.b; unfold asum at this; unfold Mine.big; lia
theorem TX.ext {h h' : H} {pr tr : Nat} {X : List AR} (x : TX h pr tr X) (e : Ext h h') : TX h' pr tr X := ⟨e.at x.pr, x.t.ext e, x.g, fun y hy => (x.pl y hy).ext e, x.b⟩
theorem TX.to {h h' : H} {pr tr : Nat} {X X' : List AR} (x : TX h pr tr X) (t' : Tree h' tr (rws X')) (s : SX' h tr X h' X') (g : Good X') (pl : ∀ y ∈ X', PL h y.1.2.2 y.2) (b : asum X' ≤ 1000) : TX h' pr tr X' :=
  ⟨s.props x.t x.pr, t', g, fun y hy => (pl y hy).step s x.t, b⟩

theorem rws_split {X : List AR} {A B : List Row} {x : Row} (e : rws X = A ++ x :: B) : ∃ A' x' B', X = A' ++ x' :: B' ∧ rws A' = A ∧ x'.1 = x ∧ rws B' = B := by
  refine e2_3 (List.map_eq_append_iff.mp e) fun A' Y e92 h1 h2 => ?_
  obtain rfl := e92
  refine e2_3 (List.map_eq_cons_iff.mp h2) fun x' B' e92 h3 h4 => ?_
  obtain rfl := e92
  exact ⟨A', x', B', rfl, h1, h3, h4⟩
/-- the joined row -/
noncomputable def mrg (z x : AR) : AR := ((z.1.1, z.1.2.1 + x.1.2.1, z.1.2.2), z.2)
noncomputable def Joined (i : Int) (X X' : List AR) : Prop :=
  (X' = X ∧ ∀ P z x R, X = P ++ z :: x :: R → asum (P ++ [z]) = i → pm z.2 ≠ pm x.2) ∨ ∃ P z x R, X = P ++ z :: x :: R ∧ asum (P ++ [z]) = i ∧ pm z.2 = pm x.2 ∧ X' = P ++ mrg z x :: R
theorem asum_rows {X : List AR} : asum X = rsum (rws X) := rfl

theorem join_spec {n pr tr : Nat} {X : List AR} {i : Int} {h : H} {Q : V → H → Prop} (T0 : TX h pr tr X)
    (k : ∀ h' X', Joined i X X' → TX h' pr tr X' → SX' h tr X h' X' → Q .none h') : CC (n + 7) 35 [.ref pr, .int i] h Q := by
  refine callI (fd := ⟨[85, 67], b_join_at⟩) rfl rfl ?_
  have g := T0.g
  have out : (¬ 0 < i ∨ ¬ i < rsum (rws X)) → Q .none h := fun hi => k h X (.inl ⟨rfl, fun P z x R e es => by
    subst e
    have g1 := Good.app.mp g
    have g2 := Good.cons.mp g1.2
    have g3 := Good.cons.mp g2.2
    have a1 := g1.1.nn
    have a2 := g3.2.nn
    have e1 : rsum (rws (P ++ z :: x :: R)) = asum P + (z.1.2.1 + (x.1.2.1 + asum R)) := by rw [← asum_rows]; simp -dsimp
    rw [e1] at hi
    simp -dsimp at es
    lia⟩) T0 (.refl T0.t)
  simp -dsimp [b_join_at]
  by_cases h0 : 0 < i
  · simp -dsimp [h0, get_tree T0.pr]
    refine len_spec T0.t ?_
    by_cases h1 : i < rsum (rws X)
    · simp -dsimp [h1, get_tree T0.pr]
      refine find_row T0.t (by lia) h1 fun A x B c e e1 e2 hc => ?_
      have x1 := Ext.set hc (.tup [.ref x.1, .int (rsum A)])
      have T1 := T0.ext x1
      have s1 := x1.step T0.t
      simp -dsimp
      by_cases c1 : rsum A = i
      · simp -dsimp [c1]
        rw [c1] at T1 s1 x1
        refine e3_4 (rws_split e) fun A' y B' e93 eA ex eB => ?_
        obtain rfl := e93
        subst eA ex eB
        rcases List.eq_nil_or_concat A' with rfl | ⟨P, z, rfl⟩
        · simp -dsimp at c1; lia
        · simp -dsimp only [List.concat_eq_append] at *
          have er : rws (P ++ [z] ++ y :: B') = rws P ++ z.1 :: (y.1 :: rws B') := by simp -dsimp [rws]
          have er2 : rws (P ++ [z] ++ y :: B') = (rws P ++ [z.1]) ++ y.1 :: rws B' := by simp -dsimp [rws]
          have t1 := T1.t
          have g1 := Good.app.mp g
          have g2 := Good.cons.mp g1.2
          have g3 := (Good.app.mp g1.1)
          have g4 := Good.cons.mp g3.2
          refine prec_row (A := rws P ++ [z.1]) (x := y.1) (B := rws B') (by rw [← er2]; exact t1) ?_
          rw [lsv_concat]
          have p1 : getF (h.set c (.tup [.ref y.1.1, .int i])) (.ref z.1.1) 52 = some z.1.2.2 := plist_row (A := rws P) (x := z.1) (B := y.1 :: rws B') (by rw [← er]; exact t1)
          have p2 : getF (h.set c (.tup [.ref y.1.1, .int i])) (.ref y.1.1) 52 = some y.1.2.2 := plist_row (A := rws P ++ [z.1]) (x := y.1) (B := rws B') (by rw [← er2]; exact t1)
          simp -dsimp [p1, p2]
          refine same_spec (T1.pl z (by simp -dsimp)) (T1.pl y (by simp -dsimp)) g4.1.2.k g2.1.2.k ?_
          have ei : asum (P ++ [z]) = i := by rw [asum_rows]; exact c1
          by_cases sm : sameK z.2 y.2 = true
          · have hpm := (same_iff g4.1.2 g2.1.2).mp sm
            simp -dsimp [sm]
            refine own_row (A := rws P ++ [z.1]) (x := y.1) (B := rws B') (by rw [← er2]; exact t1) ?_
            simp -dsimp [get_tree T1.pr]
            refine drop_spec (A := rws P ++ [z.1]) (x := y.1) (B := rws B') (by rw [← er2]; exact t1) (by rw [← er2]; exact T1.g.rows) (by rw [← er2]; exact T1.big) fun h2 t2 f2 => ?_
            have t2' : Tree h2 tr (rws P ++ z.1 :: rws B') := by simpa -dsimp using t2
            have s2 : Step (h.set c (.tup [.ref y.1.1, .int i])) tr (rws (P ++ [z] ++ y :: B')) h2 (rws P ++ z.1 :: rws B') := by
              refine ⟨fun d d1 d2 d3 => f2 d d1 d2 (by rw [er2] at d3; exact d3), fun d hd => .inl (by simp -dsimp at hd ⊢; grind), ?_⟩
              obtain ⟨_, _, e⟩ := t2.isIn tr (.inl rfl); rw [e]; simp -dsimp
            simp -dsimp
            refine add_row t2' fun h3 t3 s3 => ?_
            have pr3 := s3.props t2' (s2.props t1 T1.pr)
            simp -dsimp [get_tree pr3]
            have hz := g4.1.1
            have hy := g2.1.1
            have posM : Pos (rws P ++ (z.1.1, z.1.2.1 + y.1.2.1, z.1.2.2) :: rws B') := fun w hw => by
              rcases List.mem_append.mp hw with q | q
              · exact g3.1.rows w q
              · rcases List.mem_cons.mp q with rfl | q
                · show 0 < z.1.2.1 + y.1.2.1; lia
                · exact g2.2.rows w q
            have sumM : rsum (rws P ++ (z.1.1, z.1.2.1 + y.1.2.1, z.1.2.2) :: rws B') = asum (P ++ [z] ++ y :: B') := by simp -dsimp [asum, rws]; lia
            have hb := T0.b
            refine settle_row (x := (z.1.1, z.1.2.1 + y.1.2.1, z.1.2.2)) t3 posM (by rw [sumM]; unfold Mine.big; lia) fun h4 t4 s4 => ?_
            simp -dsimp
            have eX : rws (P ++ mrg z y :: B') = rws P ++ (z.1.1, z.1.2.1 + y.1.2.1, z.1.2.2) :: rws B' := by simp -dsimp [rws, mrg]
            have sall : SX' h tr (P ++ [z] ++ y :: B') h4 (P ++ mrg z y :: B') := by
              show Step _ _ _ _ _
              rw [eX]
              exact ((s1.trans s2).trans s3).trans s4
            refine k h4 (P ++ mrg z y :: B') (.inr ⟨P, z, y, B', by simp -dsimp, ei, hpm, rfl⟩) (T0.to (by rw [eX]; exact t4) sall ?_ ?_ ?_) sall
            · exact Good.app.mpr ⟨g3.1, Good.cons.mpr ⟨⟨by show 0 < z.1.2.1 + y.1.2.1; lia, g4.1.2⟩, g2.2⟩⟩
            · intro w hw
              rcases List.mem_append.mp hw with q | q
              · exact T0.pl w (by simp -dsimp [q])
              · rcases List.mem_cons.mp q with rfl | q
                · exact T0.pl z (by simp -dsimp)
                · exact T0.pl w (by simp -dsimp [q])
            · have : asum (P ++ mrg z y :: B') = asum (P ++ [z] ++ y :: B') := by simp -dsimp [mrg]; lia
              rw [this]; exact hb
          · have hpm : pm z.2 ≠ pm y.2 := fun q => sm ((same_iff g4.1.2 g2.1.2).mpr q)
            have sm' : sameK z.2 y.2 = false := by simpa -dsimp using sm
            simp -dsimp [sm']
            refine k _ _ (.inl ⟨rfl, fun P' z' x' R' e9 es => ?_⟩) T1 s1
            -- the place is one
            have u := uniq_at (i := i) (A := rws P ++ [z.1]) (x := y.1) (B := rws B') (A' := rws P' ++ [z'.1]) (x' := x'.1) (B' := rws R') (by
              have := congrArg rws e9
              simpa -dsimp [rws] using this) (by rw [← er2]; exact g.rows) (by rw [rsum_app, ← asum_rows]; simp -dsimp at ei ⊢; lia) (by rw [rsum_app, ← asum_rows]; have := g2.1.1; simp -dsimp at ei ⊢; lia) (by rw [rsum_app, ← asum_rows]; simp -dsimp at es ⊢; lia) (by rw [rsum_app, ← asum_rows]; have : 0 < x'.1.2.1 := g.pos x' (by rw [e9]; simp -dsimp); simp -dsimp at es ⊢; lia)
            have hl : P.length = P'.length := by have := congrArg List.length u.1; simpa -dsimp using this
            have e10 : P ++ (z :: y :: B') = P' ++ (z' :: x' :: R') := by simpa -dsimp using e9
            have := List.append_inj e10 hl
            simp -dsimp only [List.cons.injEq] at this
            refine e0_4 this fun _ e91 e92 _ => ?_
            clear this
            obtain rfl := e91
            obtain rfl := e92
            exact hpm
      · simp -dsimp [c1]
        refine k _ _ (.inl ⟨rfl, fun P' z' x' R' e9 es => ?_⟩) T1 s1
        exfalso
        subst e9
        have hx' : 0 < x'.1.2.1 := g.pos x' (by simp -dsimp)
        have e9 : A ++ x :: B = (rws P' ++ [z'.1]) ++ x'.1 :: rws R' := by rw [← e]; simp -dsimp [rws]
        have := uniq_at (i := i) e9 (by rw [← e]; exact g.rows) e1 e2 (by rw [rsum_app, ← asum_rows]; simp -dsimp at es ⊢; lia) (by rw [rsum_app, ← asum_rows]; simp -dsimp at es ⊢; lia)
        rw [this.1, rsum_app, ← asum_rows] at c1
        simp -dsimp at es c1
        lia
    · simp -dsimp [h1]
      exact out (.inr h1)
  · simp -dsimp [h0]
    exact out (.inl h0)
end Mine

namespace Mine
open PySem

theorem chain_mid : ∀ {P : List AR} {z x : AR} {R : List AR}, chain (P ++ z :: x :: R) → pm z.2 ≠ pm x.2
  | [], _, _, _, h => h.1
  | [_], _, _, _, h => h.2.1
  | _ :: w :: P, _, _, _, h => chain_mid (P := w :: P) h.2
theorem Joined.chain {i : Int} {X X' : List AR} (j : Joined i X X') (c : chain X) : X' = X := by
  rcases j with ⟨e, _⟩ | ⟨P, z, x, R, rfl, _, e, _⟩
  · exact e
  · exact absurd e (chain_mid c)
theorem pos_eq {P P' R R' : List AR} (e : P ++ R = P' ++ R') (g : Good (P ++ R)) (es : asum P = asum P') : P = P' ∧ R = R' := by
  rcases List.append_eq_append_iff.mp e with ⟨c, h1, h2⟩ | ⟨c, h1, h2⟩
  · subst h1
    have gc : Good c := by rw [h2] at g; exact (Good.app.mp (Good.app.mp g).2).1
    have : asum c = 0 := by simp -dsimp at es; lia
    have hc : rws c = [] := gc.rows.zero this
    have : c = [] := by simpa -dsimp using hc
    subst this
    exact ⟨by simp -dsimp, by simpa -dsimp using h2⟩
  · subst h1
    have gc : Good c := (Good.app.mp (Good.app.mp g).1).2
    have : asum c = 0 := by simp -dsimp at es; lia
    have hc : rws c = [] := gc.rows.zero this
    have : c = [] := by simpa -dsimp using hc
    subst this
    exact ⟨by simp -dsimp, by simpa -dsimp using h2.symm⟩
theorem Joined.at {i : Int} {P R X' : List AR} (j : Joined i (P ++ R) X') (g : Good (P ++ R)) (es : asum P = i) :
    (X' = P ++ R ∧ ∀ P0 z x R', P = P0 ++ [z] → R = x :: R' → pm z.2 ≠ pm x.2) ∨ ∃ P0 z x R', P = P0 ++ [z] ∧ R = x :: R' ∧ pm z.2 = pm x.2 ∧ X' = P0 ++ mrg z x :: R' := by
  rcases j with ⟨e, h⟩ | ⟨P0, z, x, R', e, e2, e3, e4⟩
  · refine .inl ⟨e, fun P0 z x R' h1 h2 => h P0 z x R' (by rw [h1, h2]; simp -dsimp) (by rw [← h1]; exact es)⟩
  · have e' : P ++ R = (P0 ++ [z]) ++ (x :: R') := by rw [e]; simp -dsimp
    obtain ⟨h1, h2⟩ := pos_eq e' g (by rw [es, e2])
    exact .inr ⟨P0, z, x, R', h1, h2, e3, e4⟩
theorem chars_mrg {z x : AR} (hz : 0 < z.1.2.1) (hx : 0 < x.1.2.1) (e : pm z.2 = pm x.2) : chars [mrg z x] = chars [z, x] := by
  simp -dsimp only [chars_cons, chars_nil, mrg, List.append_nil, e]
  rw [List.replicate_append_replicate]
  congr 1
  lia

noncomputable def jr_t : Ex := .and (.cmp .le (.var 67) (.var 76)) (.cmp .lt (.var 67) (.call 2 (.cons (.attr (.var 85) 58) .nil)))
noncomputable def jr_b : Sts := (.cons (.assignT [59, 87] (.call 13 (.cons (.attr (.var 85) 58) (.cons (.var 67) .nil))))
    (.cons (.assign 86 (.bin .add (.var 87) (.call 1 (.cons (.var 59) .nil))))
    (.cons (.expr (.call 35 (.cons (.var 85) (.cons (.var 87) .nil))))
    (.cons (.assign 67 (.var 86))
    .nil))))
section
variable {n pr tr : Nat} {e9 : Int} {Qn : R → H → Prop} {Qr : V → H → Prop}
/-- one turn, inside -/
theorem jr_turn {I : R → H → Prop} (hI : ∀ ρ h, vT (CC (n + 7)) iniT jr_t ρ h (fun b h => if b = true then vB (CC (n + 7)) iniT jr_b ρ h I Qr else Qn ρ h) → I ρ h) {X : List AR} {at9 : Int} {ρ : R} {h : H} (T0 : TX h pr tr X) (r85 : ρ 85 = some (.ref pr)) (r76 : ρ 76 = some (.int e9)) (r67 : ρ 67 = some (.int at9)) (h0 : 0 ≤ at9)
    (kout : (e9 < at9 ∨ asum X ≤ at9) → Qn ρ h)
    (kin : at9 ≤ e9 → at9 < asum X → ∀ A x B h' X' ρ', X = A ++ x :: B → asum A ≤ at9 → at9 < asum A + x.1.2.1 → Joined (asum A) X X' → TX h' pr tr X' → SX' h tr X h' X' → ρ' 85 = some (.ref pr) → ρ' 76 = some (.int e9) → ρ' 67 = some (.int (asum A + x.1.2.1)) → I ρ' h') : I ρ h := by
  refine hI ρ h ?_
  simp -dsimp only [jr_t, t_and, t_cmp, x_var, r67, r76, ned_some, c_le]
  by_cases c1 : at9 ≤ e9
  · simp -dsimp [c1, r85, get_tree T0.pr]
    refine len_spec T0.t ?_
    rw [← asum_rows]
    by_cases c2 : at9 < asum X
    · simp -dsimp [c2, jr_b, r85, r67, get_tree T0.pr]
      refine find_row T0.t h0 (by rw [← asum_rows]; exact c2) fun A x B c e e1 e2 hc => ?_
      have x1 := Ext.set hc (.tup [.ref x.1, .int (rsum A)])
      have T1 := T0.ext x1
      have s1 := x1.step T0.t
      refine e3_4 (rws_split e) fun A' y B' e93 eA ex eB => ?_
      obtain rfl := e93
      subst eA ex eB
      simp -dsimp
      have er : rws (A' ++ y :: B') = rws A' ++ y.1 :: rws B' := by simp -dsimp [rws]
      refine own_row (A := rws A') (x := y.1) (B := rws B') (by rw [← er]; exact T1.t) ?_
      simp -dsimp [r85]
      refine join_spec T1 fun h2 X2 j2 T2 s2 => ?_
      simp -dsimp
      exact kin c1 c2 A' y B' h2 X2 _ rfl e1 e2 j2 T2 (s1.trans s2) (by simp -dsimp [r85]) (by simp -dsimp [r76]) (by simp -dsimp [asum_rows])
    · simp -dsimp [c2]
      exact kout (.inr (by lia))
  · simp -dsimp [c1]
    exact kout (.inl (by lia))
theorem jr_chain {I : R → H → Prop} (hI : ∀ ρ h, vT (CC (n + 7)) iniT jr_t ρ h (fun b h => if b = true then vB (CC (n + 7)) iniT jr_b ρ h I Qr else Qn ρ h) → I ρ h) {X : List AR} (c : chain X) :
    ∀ (N : Nat) (at9 : Int) (ρ : R) (h : H), (asum X - at9).toNat ≤ N → TX h pr tr X → ρ 85 = some (.ref pr) → ρ 76 = some (.int e9) → ρ 67 = some (.int at9) → 0 ≤ at9 → (∀ ρ' h', TX h' pr tr X → SX' h tr X h' X → ρ' 85 = some (.ref pr) → ρ' 76 = some (.int e9) → Qn ρ' h') → I ρ h := by
  intro N
  induction N with
  | zero =>
    intro at9 ρ h hN T0 r85 r76 r67 h0 k
    refine jr_turn hI T0 r85 r76 r67 h0 (fun _ => k ρ h T0 (.refl T0.t) r85 r76) fun c1 c2 => ?_
    omega
  | succ N ih =>
    intro at9 ρ h hN T0 r85 r76 r67 h0 k
    refine jr_turn hI T0 r85 r76 r67 h0 (fun _ => k ρ h T0 (.refl T0.t) r85 r76) fun c1 c2 A x B h' X' ρ' e e1 e2 j T' s q85 q76 q67 => ?_
    obtain rfl := j.chain c
    refine ih _ ρ' h' (by lia) T' q85 q76 q67 (by lia) fun ρ'' h'' T'' s'' g85 g76 => k ρ'' h'' T'' (s.trans s'') g85 g76
theorem jr_go {I : R → H → Prop} (hI : ∀ ρ h, vT (CC (n + 7)) iniT jr_t ρ h (fun b h => if b = true then vB (CC (n + 7)) iniT jr_b ρ h I Qr else Qn ρ h) → I ρ h) {B : List AR} (cB : chain B) :
    ∀ (R1 P : List AR) (ρ : R) (h : H), TX h pr tr (P ++ (R1 ++ B)) → chain P → asum P + asum R1 = e9 → ρ 85 = some (.ref pr) → ρ 76 = some (.int e9) → ρ 67 = some (.int (asum P)) →
      (∀ ρ' h' X', TX h' pr tr X' → chain X' → chars X' = chars (P ++ (R1 ++ B)) → SX' h tr (P ++ (R1 ++ B)) h' X' → ρ' 85 = some (.ref pr) → ρ' 76 = some (.int e9) → Qn ρ' h') → I ρ h := by
  intro R1
  induction R1 with
  | nil =>
    intro P ρ h T0 cP es r85 r76 r67 k
    have g := Good.app.mp T0.g
    have hP := g.1.nn
    simp -dsimp only [List.nil_append] at *
    refine jr_turn hI T0 r85 r76 r67 hP (fun hk => ?_) fun c1 c2 A x B' h' X' ρ' e e1 e2 j T' s q85 q76 q67 => ?_
    · have hB : B = [] := by
        have : asum B = 0 := by have := g.2.nn; simp -dsimp at es hk; lia
        have := g.2.rows.zero this
        simpa -dsimp using this
      subst hB
      exact k ρ h (P ++ []) T0 (by simpa -dsimp using cP) rfl (.refl T0.t) r85 r76
    · cases B with
      | nil => simp -dsimp at c2
      | cons y B =>
        have gy := Good.cons.mp g.2
        have hy := gy.1.1
        have eA : A = P ∧ x = y ∧ B' = B := by
          have h9 : asum A = asum P := by
            have := uniq_at (i := asum P) (A := rws P) (x := y.1) (B := rws B) (A' := rws A) (x' := x.1) (B' := rws B') (by have := congrArg rws e; simpa -dsimp [rws] using this) (by have := T0.g.rows; simpa -dsimp [rws] using this) (by rw [← asum_rows]; lia) (by rw [← asum_rows]; lia) (by rw [← asum_rows]; exact e1) (by rw [← asum_rows]; exact e2)
            rw [asum_rows, asum_rows, this.1]
          obtain ⟨a, b⟩ := pos_eq e T0.g h9.symm
          simp -dsimp only [List.cons.injEq] at b
          exact ⟨a.symm, b.1.symm, b.2.symm⟩
        refine e0_3 eA fun e90 e91 e92 => ?_
        clear eA
        obtain rfl := e90
        obtain rfl := e91
        obtain rfl := e92
        -- the turn behind is the last
        have last : chain X' → chars X' = chars (A ++ x :: B') → I ρ' h' := fun cX eX => by
          have := T'.g.nn
          refine jr_chain hI cX (asum X' - (asum A + x.1.2.1)).toNat _ ρ' h' (Nat.le_refl _) T' q85 q76 q67 (by lia) fun ρ'' h'' T'' s'' g85 g76 => k ρ'' h'' X' T'' cX eX (s.trans s'') g85 g76
        rcases j.at T0.g rfl with ⟨rfl, hne⟩ | ⟨P0, z, x', R', rfl, hx, hpm, rfl⟩
        · refine last ?_ rfl
          rcases List.eq_nil_or_concat A with rfl | ⟨P0, z, rfl⟩
          · simpa -dsimp using cB
          · simp -dsimp only [List.concat_eq_append] at *
            have := hne P0 z x B' rfl rfl
            have := chain_snoc cP this
            exact chain_join (A := P0 ++ [z]) (by simpa -dsimp using this) cB
        · simp -dsimp only [List.cons.injEq] at hx
          obtain ⟨rfl, rfl⟩ := hx
          have gz := (Good.cons.mp (Good.app.mp g.1).2).1.1
          refine last ?_ ?_
          · exact chain_join (chain_like (x := z) (by rfl) cP) (chain_like' (x := x) (show pm (mrg z x).2 = pm x.2 from hpm) cB)
          · have := chars_mrg gz hy hpm
            have e8 : chars (P0 ++ mrg z x :: B') = chars P0 ++ (chars [mrg z x] ++ chars B') := by simp -dsimp
            rw [e8, this]; simp -dsimp
  | cons x1 R1 ih =>
    intro P ρ h T0 cP es r85 r76 r67 k
    have g := Good.app.mp T0.g
    have gx := Good.cons.mp (show Good (x1 :: (R1 ++ B)) from g.2)
    have hx := gx.1.1
    have gR := (Good.app.mp gx.2).1.nn
    have gB := (Good.app.mp gx.2).2.nn
    have hP := g.1.nn
    simp -dsimp only [asum_cons] at es
    refine jr_turn hI T0 r85 r76 r67 hP (fun hk => ?_) fun c1 c2 A x B' h' X' ρ' e e1 e2 j T' s q85 q76 q67 => ?_
    · simp -dsimp at hk; lia
    · have eA : A = P ∧ x = x1 ∧ B' = R1 ++ B := by
        have h9 : asum A = asum P := by
          have := uniq_at (i := asum P) (A := rws P) (x := x1.1) (B := rws (R1 ++ B)) (A' := rws A) (x' := x.1) (B' := rws B') (by have := congrArg rws e; simpa -dsimp [rws] using this) (by have := T0.g.rows; simpa -dsimp [rws] using this) (by rw [← asum_rows]; lia) (by rw [← asum_rows]; lia) (by rw [← asum_rows]; exact e1) (by rw [← asum_rows]; exact e2)
          rw [asum_rows, asum_rows, this.1]
        obtain ⟨a, b⟩ := pos_eq e T0.g h9.symm
        simp -dsimp only [List.cons_append, List.cons.injEq] at b
        exact ⟨a.symm, b.1.symm, b.2.symm⟩
      refine e0_3 eA fun e90 e91 e92 => ?_
      clear eA
      obtain rfl := e90
      obtain rfl := e91
      obtain rfl := e92
      rcases j.at T0.g rfl with ⟨rfl, hne⟩ | ⟨P0, z, x', R', rfl, hx', hpm, rfl⟩
      · have e7 : A ++ (x :: R1 ++ B) = (A ++ [x]) ++ (R1 ++ B) := by simp -dsimp
        refine ih (A ++ [x]) ρ' h' (by rw [← e7]; exact T') ?_ (by simp -dsimp; lia) q85 q76 (by simpa -dsimp using q67) fun ρ'' h'' X'' T'' cX eX s'' g85 g76 => k ρ'' h'' X'' T'' cX (by rw [eX, e7]) (by rw [← e7] at s''; exact s.trans s'') g85 g76
        rcases List.eq_nil_or_concat A with rfl | ⟨P0, z, rfl⟩
        · trivial
        · simp -dsimp only [List.concat_eq_append] at *
          have := chain_snoc cP (hne P0 z x (R1 ++ B) rfl rfl)
          simpa -dsimp using this
      · simp -dsimp only [List.cons_append, List.cons.injEq] at hx'
        obtain ⟨rfl, rfl⟩ := hx'
        have gz := (Good.cons.mp (Good.app.mp g.1).2).1.1
        have e7 : P0 ++ mrg z x :: (R1 ++ B) = (P0 ++ [mrg z x]) ++ (R1 ++ B) := by simp -dsimp
        have e8 : chars ((P0 ++ [mrg z x]) ++ (R1 ++ B)) = chars (P0 ++ [z] ++ (x :: R1 ++ B)) := by
          have := chars_mrg gz hx hpm
          rw [chars_app, chars_app, this]; simp -dsimp
        refine ih (P0 ++ [mrg z x]) ρ' h' (by rw [← e7]; exact T') (chain_like (x := z) rfl cP) (by simp -dsimp [mrg] at es ⊢; lia) q85 q76 (by rw [q67]; simp -dsimp [mrg]; lia) fun ρ'' h'' X'' T'' cX eX s'' g85 g76 => k ρ'' h'' X'' T'' cX (by rw [eX, e8]) (by rw [← e7] at s''; exact s.trans s'') g85 g76
end

theorem jrange_chain {n pr tr : Nat} {X : List AR} {i j : Int} {h : H} {Q : V → H → Prop} (T0 : TX h pr tr X) (c : chain X) (h0 : 0 ≤ i) (k : ∀ h', TX h' pr tr X → SX' h tr X h' X → Q .none h') : CC (n + 8) 36 [.ref pr, .int i, .int j] h Q := by
  refine callI (fd := ⟨[85, 68, 76], b_join_range⟩) rfl rfl ?_
  have hb0 : b_join_range = (.cons (.assign 67 (.var 68)) (.cons (.while jr_t jr_b) (.cons (.expr (.call 35 (.cons (.var 85) (.cons (.var 76) .nil)))) .nil))) := rfl
  simp -dsimp [hb0]
  first | with_reducible refine b_whl fun I hI => ?_ | with_reducible refine s_whl fun I hI => ?_ | (simp -dsimp; first | with_reducible refine b_whl fun I hI => ?_ | with_reducible refine s_whl fun I hI => ?_)
  refine jr_chain (pr := pr) (tr := tr) (e9 := j) hI c (asum X - i).toNat i _ h (Nat.le_refl _) T0 (by simp -dsimp) (by simp -dsimp) (by simp -dsimp) h0 fun ρ' h' T' s' r85 r76 => ?_
  simp -dsimp [r85, r76]
  refine join_spec T' fun h2 X2 j2 T2 s2 => ?_
  obtain rfl := j2.chain c
  simp -dsimp
  exact k h2 T2 (s'.trans s2)
theorem jrange_spec {n pr tr : Nat} {P R1 B : List AR} {j : Int} {h : H} {Q : V → H → Prop} (T0 : TX h pr tr (P ++ (R1 ++ B))) (cP : chain P) (cB : chain B) (ej : asum P + asum R1 = j)
    (k : ∀ h' X', TX h' pr tr X' → chain X' → chars X' = chars (P ++ (R1 ++ B)) → SX' h tr (P ++ (R1 ++ B)) h' X' → Q .none h') : CC (n + 8) 36 [.ref pr, .int (asum P), .int j] h Q := by
  refine callI (fd := ⟨[85, 68, 76], b_join_range⟩) rfl rfl ?_
  have hb0 : b_join_range = (.cons (.assign 67 (.var 68)) (.cons (.while jr_t jr_b) (.cons (.expr (.call 35 (.cons (.var 85) (.cons (.var 76) .nil)))) .nil))) := rfl
  simp -dsimp [hb0]
  first | with_reducible refine b_whl fun I hI => ?_ | with_reducible refine s_whl fun I hI => ?_ | (simp -dsimp; first | with_reducible refine b_whl fun I hI => ?_ | with_reducible refine s_whl fun I hI => ?_)
  refine jr_go (pr := pr) (tr := tr) (e9 := j) hI cB R1 P _ h T0 cP ej (by simp -dsimp) (by simp -dsimp) (by simp -dsimp) fun ρ' h' X' T' cX eX s' r85 r76 => ?_
  simp -dsimp [r85, r76]
  refine join_spec T' fun h2 X2 j2 T2 s2 => ?_
  obtain rfl := j2.chain cX
  simp -dsimp
  exact k h2 X2 T2 cX eX (s'.trans s2)
end Mine

namespace Mine
open PySem

theorem pos_eqR {P P' R R' : List Row} (e : P ++ R = P' ++ R') (g : Pos (P ++ R)) (es : rsum P = rsum P') : P = P' ∧ R = R' := by
  rcases List.append_eq_append_iff.mp e with ⟨c, h1, h2⟩ | ⟨c, h1, h2⟩
  · subst h1
    have gc : Pos c := by rw [h2] at g; exact g.app_r.app_l
    have : c = [] := gc.zero (by simp -dsimp at es; lia)
    subst this
    exact ⟨by simp -dsimp, by simpa -dsimp using h2⟩
  · subst h1
    have gc : Pos c := g.app_l.app_r
    have : c = [] := gc.zero (by simp -dsimp at es; lia)
    subst this
    exact ⟨by simp -dsimp, by simpa -dsimp using h2.symm⟩
theorem splitX_mem (f : Nat) : ∀ {X : List AR} {i : Int}, ∀ y ∈ splitX f i X, ∃ x ∈ X, y.1.2.2 = x.1.2.2 ∧ y.2 = x.2
  | [], _, _, h => by simp -dsimp [splitX] at h
  | ((a, o, p), c) :: X, i, y, h => by
    unfold splitX at h
    split at h
    · exact ⟨y, h, rfl, rfl⟩
    · split at h
      · rcases List.mem_cons.mp h with rfl | h
        · exact ⟨_, List.mem_cons_self, rfl, rfl⟩
        · rcases List.mem_cons.mp h with rfl | h
          · exact ⟨_, List.mem_cons_self, rfl, rfl⟩
          · exact ⟨y, List.mem_cons_of_mem _ h, rfl, rfl⟩
      · rcases List.mem_cons.mp h with rfl | h
        · exact ⟨_, List.mem_cons_self, rfl, rfl⟩
        · refine e1_2 (splitX_mem f y h) fun x hx e => ?_
          exact ⟨x, List.mem_cons_of_mem _ hx, e⟩

theorem rangeX {n pr tr : Nat} {X : List AR} {i j : Int} {h : H} {Q : V → H → Prop} (T0 : TX h pr tr X) (c : chain X) (h0 : 0 ≤ i) (h1 : i < j) (h2 : j ≤ asum X)
    (k : ∀ l h' A M B, TX h' pr tr (A ++ (M ++ B)) → SX' h tr X h' (A ++ (M ++ B)) → asum A = i → asum M = j - i → chain A → chain B → chars X = chars A ++ (chars M ++ chars B) → h' l = some (.list (M.map fun x => .ref x.1.1)) → Q (.ref l) h') : CC (n + 7) 34 [.ref pr, .int i, .int j] h Q := by
  refine range_spec T0.pr T0.t T0.g.rows T0.big h0 (by rw [← asum_rows]; exact h2) (fun q => by lia) fun _ f f2 l h' A M B e eA eM hp t' s' hl => ?_
  refine e2_8 (splitX_bd f T0.g c h0 (by lia : i ≤ asum X)) fun A' D e1 e2 gA gD cA cD ec _ => ?_
  have eX : asum X = asum A' + asum D := by
    have a1 := chars_len T0.g
    have a2 := chars_len gA
    have a3 := chars_len gD
    rw [ec, List.length_append] at a1
    lia
  refine e2_8 (splitX_bd f2 gD cD (i := j - i) (by lia) (by lia)) fun M' B' g1 g2 gM gB cM cB ec2 _ => ?_
  have er : rws (A' ++ (M' ++ B')) = A ++ (M ++ B) := by
    rw [← e, ← splitX_rws, e1]
    simp -dsimp only [rws, List.map_append]
    rw [splitR_app f2 gA.rows (by rw [← asum_rows, e2]; lia), ← asum_rows, e2, ← splitX_rws, g1]
    simp -dsimp [rws]
  have q1 : rws A' ++ rws (M' ++ B') = A ++ (M ++ B) := by rw [← er]; simp -dsimp [rws]
  obtain ⟨rfl, q2⟩ := pos_eqR q1 (by rw [q1]; exact hp) (by rw [← asum_rows, e2, eA])
  have q3 : rws M' ++ rws B' = M ++ B := by rw [← q2]; simp -dsimp [rws]
  obtain ⟨rfl, rfl⟩ := pos_eqR q3 (by rw [q3]; exact hp.app_r) (by rw [← asum_rows, g2, eM])
  have s2 : SX' h tr X h' (A' ++ (M' ++ B')) := by show Step _ _ _ _ _; rw [er]; exact s'
  refine k l h' A' M' B' (T0.to (by rw [er]; exact t') s2 (Good.app.mpr ⟨gA, Good.app.mpr ⟨gM, gB⟩⟩) (fun y hy => ?_) ?_) s2 e2 g2 cA cB (by rw [ec, ec2]) (by rw [hl]; simp -dsimp [rws])
  · have : y ∈ splitX f i X ∨ y ∈ splitX f2 (j - i) D := by
      rw [e1, g1]
      simp -dsimp only [List.mem_append] at hy ⊢
      grind
    have key : ∀ y ∈ splitX f i X, PL h y.1.2.2 y.2 := fun y hy => by
      refine e1_3 (splitX_mem f y hy) fun x hx q1 q2 => ?_
      rw [q1, q2]; exact T0.pl x hx
    rcases this with q | q
    · exact key y q
    · refine e1_3 (splitX_mem f2 y q) fun x hx q1 q2 => ?_
      rw [q1, q2]; exact key x (by rw [e1]; simp -dsimp [hx])
  · have : asum (A' ++ (M' ++ B')) = asum X := by
      have a1 := chars_len gM
      have a2 := chars_len gB
      have a3 := chars_len gD
      rw [ec2, List.length_append] at a3
      simp -dsimp; lia
    rw [this]; exact T0.b

/-- what a node's body does -/
noncomputable def NodeOk (n pr tr : Nat) (F : PM → PM) (RI : R → Prop) (HI : H → Prop) (body : Sts) : Prop :=
  ∀ (A B : List AR) (x : AR) (ρ : R) (h : H) (K : R → H → Prop) (Qr : V → H → Prop), TX h pr tr (A ++ x :: B) → HI h → RI ρ → ρ 59 = some (.ref x.1.1) →
    (∀ h' x' ρ', TX h' pr tr (A ++ x' :: B) → SX' h tr (A ++ x :: B) h' (A ++ x' :: B) → HI h' → x'.1.2.1 = x.1.2.1 → pm x'.2 = F (pm x.2) → RI ρ' → K ρ' h') → vB (CC n) iniT body ρ h K Qr
theorem nodes_go {n pr tr l : Nat} {F : PM → PM} {RI : R → Prop} {HI : H → Prop} {body : Sts} {Qn : R → H → Prop} {Qr : V → H → Prop} {us : List V} (ok : NodeOk n pr tr F RI HI body) (r59 : ∀ ρ v, RI ρ → RI (ρ.set 59 v))
    {live : H → Prop} {step : V → R → H → (R → H → Prop) → Prop} (lv : ∀ h, h l = some (.list us) → live h) (hs : ∀ x ρ h k, (bindT [59] false x ρ h fun ρ' => vB (CC n) iniT body ρ' h k Qr) → step x ρ h k) {A B : List AR} :
    ∀ (M2 M1 : List AR) (ρ : R) (h : H), TX h pr tr (A ++ (M1 ++ (M2 ++ B))) → HI h → RI ρ → h l = some (.list us) →
      (∀ ρ' h' M', TX h' pr tr (A ++ (M1 ++ (M' ++ B))) → SX' h tr (A ++ (M1 ++ (M2 ++ B))) h' (A ++ (M1 ++ (M' ++ B))) → chars M' = (chars M2).map F → asum M' = asum M2 → RI ρ' → Qn ρ' h') → forL live step (M2.map fun x => .ref x.1.1) ρ h Qn := by
  intro M2
  induction M2 with
  | nil =>
    intro M1 ρ h T0 hi ri hl k
    exact ⟨lv h hl, k ρ h [] T0 (.refl T0.t) rfl rfl ri⟩
  | cons x M2 ih =>
    intro M1 ρ h T0 hi ri hl k
    refine ⟨lv h hl, hs _ _ _ _ ?_⟩
    have e : A ++ (M1 ++ (x :: M2 ++ B)) = (A ++ M1) ++ x :: (M2 ++ B) := by simp -dsimp
    have T1 := T0
    rw [e] at T1
    refine ok (A ++ M1) (M2 ++ B) x _ h _ Qr T1 hi (r59 ρ _ ri) (by simp -dsimp) fun h' x' ρ' T' s' hi' ho hpm ri' => ?_
    have e' : (A ++ M1) ++ x' :: (M2 ++ B) = A ++ ((M1 ++ [x']) ++ (M2 ++ B)) := by simp -dsimp
    have hl' : h' l = some (.list us) := by rw [s'.data T1.t (by rw [hl]; simp -dsimp) (notIn_list hl)]; exact hl
    have T'' := T'
    rw [e'] at T''
    refine ih (M1 ++ [x']) ρ' h' T'' hi' ri' hl' fun ρ2 h2 M' T2 s2 ec es ri2 => ?_
    have e2 : A ++ ((M1 ++ [x']) ++ (M' ++ B)) = A ++ (M1 ++ ((x' :: M') ++ B)) := by simp -dsimp
    rw [e2] at T2 s2
    rw [← e'] at s2
    rw [← e] at s'
    refine k ρ2 h2 (x' :: M') T2 (s'.trans s2) ?_ (by simp -dsimp [es, ho]) ri2
    simp -dsimp [ec, ho, hpm]

noncomputable def mapR (F : PM → PM) (i j : Int) (cs : List PM) : List PM := cs.take i.toNat ++ (((cs.drop i.toNat).take (j - i).toNat).map F ++ (cs.drop i.toNat).drop (j - i).toNat)
noncomputable def opB (body : Sts) : Sts := (.cons (.assign 88 (.bool false))
  (.cons (.for [59] false false (.call 34 (.cons (.var 85) (.cons (.var 68) (.cons (.var 76) .nil)))) body)
  (.cons (.expr (.call 36 (.cons (.var 85) (.cons (.var 68) (.cons (.var 76) .nil)))))
  (.cons (.ret (.var 88))
  .nil))))
theorem op_go {n pr tr : Nat} {F : PM → PM} {RI : R → Prop} {HI : H → Prop} {body : Sts} {Qn : R → H → Prop} {Qr : V → H → Prop} {i j : Int} {X : List AR} {ρ : R} {h : H}
    (ok : NodeOk (n + 8) pr tr F (fun ρ => ρ 85 = some (.ref pr) ∧ ρ 68 = some (.int i) ∧ ρ 76 = some (.int j) ∧ (∃ b, ρ 88 = some (.bool b)) ∧ RI ρ) HI body) (hri : ∀ ρ x v, (x = 59 ∨ x = 88) → RI ρ → RI (ρ.set x v))
    (hhi : ∀ h h' X X', TX h pr tr X → SX' h tr X h' X' → HI h → HI h') (T0 : TX h pr tr X) (hi : HI h) (c : chain X) (h0 : 0 ≤ i) (h1 : i ≤ j) (h2 : j ≤ asum X) (r85 : ρ 85 = some (.ref pr)) (r68 : ρ 68 = some (.int i)) (r76 : ρ 76 = some (.int j)) (ri : RI ρ)
    (k : ∀ b h' X', TX h' pr tr X' → chain X' → chars X' = mapR F i j (chars X) → SX' h tr X h' X' → Qr (.bool b) h') : vB (CC (n + 8)) iniT (opB body) ρ h Qn Qr := by
  simp -dsimp [opB, r85, r68, r76]
  by_cases hij : i < j
  · refine rangeX (n := n + 1) T0 c h0 hij h2 fun l h' A M B T' s' eA eM cA cB ec hl => ?_
    simp -dsimp [srcItems, io_list hl]
    have hM := (Good.app.mp (Good.app.mp T'.g).2).1
    have hb : M.length ≤ 1000 := by
      have a1 := len_le hM.rows
      have a2 := T0.b
      rw [← asum_rows] at a1
      simp -dsimp at a1; lia
    refine ⟨by first | lia | (unfold lim; lia), ?_⟩
    refine nodes_go (l := l) (us := M.map fun x => .ref x.1.1) (Qr := Qr) (live := sameAt (.ref l) h') ok (fun ρ v ⟨a, b, c, d, e⟩ => ⟨by simp -dsimp [a], by simp -dsimp [b], by simp -dsimp [c], by simpa -dsimp using d, hri ρ 59 v (.inl rfl) e⟩) (fun h'' e => by show h'' l = h' l; rw [e, hl]) (fun x ρ h k q => q) M [] _ h' (by simpa -dsimp using T') (hhi h h' X _ T0 s' hi) ⟨by simp -dsimp [r85], by simp -dsimp [r68], by simp -dsimp [r76], ⟨false, by simp -dsimp⟩, hri ρ 88 _ (.inr rfl) ri⟩ hl ?_
    rintro ρ2 h3 M' T3 s3 ec3 es3 ⟨q85, q68, q76, ⟨b, q88⟩, qri⟩
    simp -dsimp only [List.nil_append] at T3 s3
    simp -dsimp [q85, q68, q76, q88]
    have gg := Good.app.mp T3.g
    subst eA
    refine jrange_spec T3 cA cB (by rw [es3, eM]; lia) fun h4 X4 T4 c4 e4 s4 => ?_
    simp -dsimp [q88]
    refine k b h4 X4 T4 c4 ?_ ((s'.trans s3).trans s4)
    have l1 := chars_len gg.1
    have l2 := chars_len hM
    rw [e4, chars_app, chars_app, ec3, ec, mapR]
    have t1 : (asum A).toNat = (chars A).length := by lia
    have t2 : (j - asum A).toNat = (chars M).length := by lia
    rw [t1, t2]
    simp -dsimp
  · have e : i = j := by lia
    subst e
    refine range_spec (n := n + 1) T0.pr T0.t T0.g.rows T0.big h0 (by rw [← asum_rows]; exact h2) (fun _ l hl => ?_) fun q => by lia
    have x1 := Ext.set hl (.list [])
    have T1 := T0.ext x1
    have e1 : itemsOf (h.set l (.list [])) (.ref l) = some [] := io_list hs_self
    simp -dsimp [srcItems, forL, sameAt, r85, r68, r76]
    refine jrange_chain T1 c h0 fun h4 T4 s4 => ?_
    simp -dsimp
    refine k false h4 X T4 c ?_ ((x1.step T0.t).trans s4)
    simp -dsimp [mapR]
end Mine

namespace Mine
open PySem

noncomputable def putF (k : Int) (v : V) (p : PM) : PM := fun k' => if k' = k then some v else p k'
theorem pm_with {k : Int} {v : V} : ∀ {kvs : KV}, pm (withK k v kvs) = putF k v (pm kvs)
  | [] => by
    funext k'
    simp -dsimp only [pm, putF, withK, lookK]
    by_cases e : k = k'
    · subst e; simp -dsimp
    · simp -dsimp [e, Ne.symm e]
  | (a, b) :: r => by
    funext k'
    have ih := congrFun (pm_with (k := k) (v := v) (kvs := r)) k'
    simp -dsimp only [pm, putF] at ih ⊢
    by_cases e : a = k
    · subst e
      simp -dsimp only [withK, if_true, lookK]
      by_cases e2 : a = k'
      · subst e2; simp -dsimp
      · simp -dsimp [e2, Ne.symm e2]
    · simp -dsimp only [withK, if_neg e, lookK]
      by_cases e2 : a = k'
      · subst e2; simp -dsimp [e]
      · simp -dsimp only [if_neg e2]; exact ih
theorem withK_keys {k : Int} {v : V} : ∀ {kvs : KV}, ∀ k' ∈ (withK k v kvs).map (·.1), k' = k ∨ k' ∈ kvs.map (·.1)
  | [], k', h => by simp -dsimp [withK] at h; exact .inl h
  | (a, b) :: r, k', h => by
    by_cases e : a = k
    · subst e
      simp -dsimp only [withK, if_true, List.map_cons, List.mem_cons] at h ⊢
      exact .inr h
    · simp -dsimp only [withK, if_neg e, List.map_cons, List.mem_cons] at h ⊢
      rcases h with rfl | h
      · exact .inr (.inl rfl)
      · exact (withK_keys k' h).imp id .inr
theorem withK_okS {k : Int} {v : V} (hv : okV (k, v)) : ∀ {kvs : KV}, okKs kvs → okKs (withK k v kvs)
  | [], _ => ⟨by simp -dsimp [withK], fun kv hkv => by simp -dsimp [withK] at hkv; rw [hkv]; exact hv⟩
  | (a, b) :: r, h => by
    have hr : okKs r := ⟨by have := h.1; simp -dsimp at this; simpa -dsimp using this.2, fun kv hkv => h.2 kv (by simp -dsimp [hkv])⟩
    by_cases e : a = k
    · subst e
      simp -dsimp only [withK, if_true]
      refine ⟨by simpa -dsimp using h.1, fun kv hkv => ?_⟩
      rcases List.mem_cons.mp hkv with rfl | q
      · exact hv
      · exact h.2 kv (by simp -dsimp [q])
    · have ih := withK_okS hv hr
      simp -dsimp only [withK, if_neg e]
      refine ⟨?_, fun kv hkv => ?_⟩
      · rw [List.map_cons, List.nodup_cons]
        refine ⟨fun q => ?_, ih.1⟩
        rcases withK_keys a q with q | q
        · exact e q
        · have := h.1; simp -dsimp at this; simp -dsimp at q; obtain ⟨b', q⟩ := q; exact this.1 b' q
      · rcases List.mem_cons.mp hkv with rfl | q
        · exact h.2 _ (by simp -dsimp)
        · exact ih.2 kv q
noncomputable def addF (B : KV) (p : PM) : PM := B.foldl (fun p kv => putF kv.1 kv.2 p) p
theorem putF_id {k : Int} {v : V} {p : PM} (h : p k = some v) : putF k v p = p := by
  funext k'
  simp -dsimp only [putF]
  split
  · rename_i e; subst e; exact h.symm
  · rfl
theorem pm_add1 {f : KV} {kv : Int × V} : pm (addK1 f kv) = putF kv.1 kv.2 (pm f) := by
  unfold addK1
  split
  · rename_i h; exact (putF_id h).symm
  · exact pm_with
theorem pm_add : ∀ {B f : KV}, pm (addK f B) = addF B (pm f)
  | [], _ => rfl
  | kv :: B, f => by
    show pm (addK (addK1 f kv) B) = addF B (putF kv.1 kv.2 (pm f))
    rw [pm_add (B := B), pm_add1]
theorem add_okS : ∀ {B f : KV}, okKs f → (∀ kv ∈ B, okV kv) → okKs (addK f B)
  | [], _, h, _ => h
  | kv :: B, f, h, hB => by
    refine add_okS (B := B) (f := addK1 f kv) ?_ fun x hx => hB x (by simp -dsimp [hx])
    unfold addK1
    split
    · exact h
    · exact withK_okS (hB kv (by simp -dsimp)) h
noncomputable def rmF (ns : List Int) (p : PM) : PM := fun k => if k ∈ ns then none else p k
theorem pm_filter {ns : List Int} : ∀ {kvs : KV}, pm (kvs.filter fun kv => !ns.contains kv.1) = rmF ns (pm kvs)
  | [] => by funext k; simp -dsimp [pm, rmF, lookK]
  | (a, b) :: r => by
    funext k
    have ih := congrFun (pm_filter (ns := ns) (kvs := r)) k
    simp -dsimp only [pm, rmF] at ih ⊢
    by_cases e : a ∈ ns
    · simp -dsimp only [List.filter_cons, List.contains_iff_mem, e, decide_true, Bool.not_true, Bool.false_eq_true, if_false]
      simp -dsimp [e]
      simp -dsimp at ih
      rw [ih]
      by_cases e2 : a = k
      · subst e2; simp -dsimp [e]
      · simp -dsimp [lookK, e2]
    · simp -dsimp [e]
      simp -dsimp at ih
      simp -dsimp only [lookK]
      by_cases e2 : a = k
      · subst e2; simp -dsimp [e]
      · simp -dsimp only [if_neg e2]; exact ih
theorem filter_okS {ns : List Int} {kvs : KV} (h : okKs kvs) : okKs (kvs.filter fun kv => !ns.contains kv.1) :=
  ⟨(List.filter_sublist.map _).nodup h.1, fun kv hkv => h.2 kv (List.mem_filter.mp hkv).1⟩

theorem setX {pr tr : Nat} {A B : List AR} {x : AR} {h : H} {p' : V} {kvs' : KV} (T0 : TX h pr tr (A ++ x :: B)) (P : PL h p' kvs') (ok : okKs kvs') :
    ∃ h2, setF h (.ref x.1.1) 52 p' = some h2 ∧ TX h2 pr tr (A ++ ((x.1.1, x.1.2.1, p'), kvs') :: B) ∧ SX' h tr (A ++ x :: B) h2 (A ++ ((x.1.1, x.1.2.1, p'), kvs') :: B) := by
  have t := T0.t
  have er : rws (A ++ x :: B) = rws A ++ x.1 :: rws B := by simp -dsimp [rws]
  have er2 : rws (A ++ ((x.1.1, x.1.2.1, p'), kvs') :: B) = rws A ++ (x.1.1, x.1.2.1, p') :: rws B := by simp -dsimp [rws]
  rw [er] at t
  refine e1_3 (setPl_row t p') fun h2 e t2 s2 => ?_
  have s3 : SX' h tr (A ++ x :: B) h2 (A ++ ((x.1.1, x.1.2.1, p'), kvs') :: B) := by show Step _ _ _ _ _; rw [er, er2]; exact s2
  have g1 := Good.app.mp T0.g
  have g2 := Good.cons.mp g1.2
  refine ⟨h2, e, T0.to (by rw [er2]; exact t2) s3 (Good.app.mpr ⟨g1.1, Good.cons.mpr ⟨⟨g2.1.1, ok⟩, g2.2⟩⟩) (fun y hy => ?_) ?_, s3⟩
  · rcases List.mem_append.mp hy with q | q
    · exact T0.pl y (by simp -dsimp [q])
    · rcases List.mem_cons.mp q with rfl | q
      · exact P
      · exact T0.pl y (by simp -dsimp [q])
  · have := T0.b; simpa -dsimp using this
theorem plX {pr tr : Nat} {A B : List AR} {x : AR} {h : H} (T0 : TX h pr tr (A ++ x :: B)) : getF h (.ref x.1.1) 52 = some x.1.2.2 ∧ PL h x.1.2.2 x.2 ∧ okKs x.2 := by
  have t := T0.t
  rw [show rws (A ++ x :: B) = rws A ++ x.1 :: rws B by simp -dsimp [rws]] at t
  exact ⟨plist_row t, T0.pl x (by simp -dsimp), T0.g.ok x (by simp -dsimp)⟩

noncomputable def put_b : Sts := (.cons (.ite (.not (.call 29 (.cons (.attr (.var 59) 52) (.cons (.var 79) (.cons (.var 80) .nil))))) (.cons (.setAttr (.var 59) 52 (.call 28 (.cons (.attr (.var 59) 52) (.cons (.var 79) (.cons (.var 80) .nil)))))
      (.cons (.assign 88 (.bool true))
      .nil)) .nil)
    .nil)
noncomputable def add_b : Sts := (.cons (.assign 71 (.call 31 (.cons (.attr (.var 59) 52) (.cons (.var 52) .nil))))
    (.cons (.ite (.not (.call 30 (.cons (.var 71) (.cons (.attr (.var 59) 52) .nil)))) (.cons (.setAttr (.var 59) 52 (.var 71))
      (.cons (.assign 88 (.bool true))
      .nil)) .nil)
    .nil))
noncomputable def set_b : Sts := (.cons (.ite (.not (.call 30 (.cons (.var 52) (.cons (.attr (.var 59) 52) .nil)))) (.cons (.setAttr (.var 59) 52 (.listOf (.var 52)))
      (.cons (.assign 88 (.bool true))
      .nil)) .nil)
    .nil)
noncomputable def rem_b : Sts := (.cons (.assign 71 (.call 32 (.cons (.attr (.var 59) 52) (.cons (.var 82) .nil))))
    (.cons (.ite (.cmp .ne (.len (.var 71)) (.len (.attr (.var 59) 52))) (.cons (.setAttr (.var 59) 52 (.var 71))
      (.cons (.assign 88 (.bool true))
      .nil)) .nil)
    .nil))
noncomputable abbrev RB (pr : Nat) (i j : Int) (RI : R → Prop) (ρ : R) : Prop := ρ 85 = some (.ref pr) ∧ ρ 68 = some (.int i) ∧ ρ 76 = some (.int j) ∧ (∃ b, ρ 88 = some (.bool b)) ∧ RI ρ

theorem put_node {n pr tr : Nat} {i j k : Int} {v : V} (hv : okV (k, v)) : NodeOk (n + 8) pr tr (putF k v) (RB pr i j fun ρ => ρ 79 = some (.int k) ∧ ρ 80 = some v) (fun _ => True) put_b := by
  intro A B x ρ h K Qr T0 _ ri r59 kk
  refine e0_6 ri fun r85 r68 r76 z93 r79 r80 => ?_
  clear ri
  obtain ⟨b, r88⟩ := z93
  refine e0_3 (plX T0) fun e1 e2 e3 => ?_
  simp -dsimp [put_b, r59, r79, r80, e1]
  refine holds_spec (n := n + 6) e2 e3.k hv.kv ?_
  by_cases c : lookK k x.2 = some v
  · simp -dsimp [c]
    exact kk h x ρ T0 (.refl T0.t) trivial rfl (putF_id c).symm ⟨r85, r68, r76, ⟨b, r88⟩, r79, r80⟩
  · simp -dsimp [c, e1, r59, r79, r80]
    refine with_spec (n := n + 6) e2 e3.k fun p' h1 P' x1 => ?_
    have T1 := T0.ext x1
    refine e1_3 (setX T1 P' (withK_okS hv e3)) fun h2 e T2 s2 => ?_
    simp -dsimp [e, r59]
    exact kk h2 _ _ T2 ((x1.step T0.t).trans s2) trivial rfl pm_with ⟨by simp -dsimp [r85], by simp -dsimp [r68], by simp -dsimp [r76], ⟨true, by simp -dsimp⟩, by simp -dsimp [r79], by simp -dsimp [r80]⟩
theorem add_node {n pr tr : Nat} {i j : Int} {m : V} {B9 : KV} (ok : okKs B9) : NodeOk (n + 8) pr tr (addF B9) (RB pr i j fun ρ => ρ 52 = some m) (fun h => PL h m B9) add_b := by
  intro A B x ρ h K Qr T0 hi ri r59 kk
  refine e0_5 ri fun r85 r68 r76 z93 r52 => ?_
  clear ri
  obtain ⟨b, r88⟩ := z93
  refine e0_3 (plX T0) fun e1 e2 e3 => ?_
  simp -dsimp [add_b, r59, r52, e1]
  have l1 := e3.len
  have l2 := ok.len
  refine added_spec (n := n + 5) e2 hi e3.k.2 ok.k.2 (by lia) fun p' h1 P' x1 => ?_
  have T1 := T0.ext x1
  refine e0_3 (plX T1) fun g1 g2 g3 => ?_
  have ok' := add_okS e3 ok.2
  simp -dsimp [g1, r59]
  refine same_spec (n := n + 5) P' g2 ok'.k g3.k ?_
  by_cases c : sameK (addK x.2 B9) x.2 = true
  · simp -dsimp [c]
    have := (same_iff ok' g3).mp c
    rw [pm_add] at this
    exact kk h1 x _ T1 (x1.step T0.t) (hi.ext x1) rfl this.symm ⟨by simp -dsimp [r85], by simp -dsimp [r68], by simp -dsimp [r76], ⟨b, by simp -dsimp [r88]⟩, by simp -dsimp [r52]⟩
  · simp -dsimp [c]
    refine e1_3 (setX T1 P' ok') fun h2 e T2 s2 => ?_
    simp -dsimp [e, r59]
    exact kk h2 _ _ T2 ((x1.step T0.t).trans s2) ((hi.ext x1).step s2 T1.t) rfl pm_add ⟨by simp -dsimp [r85], by simp -dsimp [r68], by simp -dsimp [r76], ⟨true, by simp -dsimp⟩, by simp -dsimp [r52]⟩
theorem set_node {n pr tr : Nat} {i j : Int} {m : V} {B9 : KV} (ok : okKs B9) : NodeOk (n + 8) pr tr (fun _ => pm B9) (RB pr i j fun ρ => ρ 52 = some m) (fun h => PL h m B9) set_b := by
  intro A B x ρ h K Qr T0 hi ri r59 kk
  refine e0_5 ri fun r85 r68 r76 z93 r52 => ?_
  clear ri
  obtain ⟨b, r88⟩ := z93
  refine e0_3 (plX T0) fun e1 e2 e3 => ?_
  simp -dsimp [set_b, r59, r52, e1]
  refine same_spec (n := n + 5) hi e2 ok.k e3.k ?_
  by_cases c : sameK B9 x.2 = true
  · simp -dsimp [c]
    have := (same_iff ok e3).mp c
    exact kk h x _ T0 (.refl T0.t) hi rfl this.symm ⟨by simp -dsimp [r85], by simp -dsimp [r68], by simp -dsimp [r76], ⟨b, by simp -dsimp [r88]⟩, by simp -dsimp [r52]⟩
  · refine e2_3 (id hi) fun a xs e92 ha ht => ?_
    obtain rfl := e92
    have hl : xs.length = B9.length := by rw [ht.len, List.length_map]
    have l2 := ok.len
    simp -dsimp [c, r59, r52, la_list ha]
    refine ⟨by first | lia | (unfold lim; lia) | exact of_decide_eq_true rfl, fun p hp => ?_⟩
    have x1 := Ext.set hp (.list xs)
    have T1 := T0.ext x1
    have P' : PL (h.set p (.list xs)) (.ref p) B9 := ⟨p, xs, rfl, hs_self, ht.mono fun c y e => x1.at e⟩
    refine e1_3 (setX T1 P' ok) fun h2 e T2 s2 => ?_
    simp -dsimp [e, r59]
    exact kk h2 _ _ T2 ((x1.step T0.t).trans s2) ((hi.ext x1).step s2 T1.t) rfl rfl ⟨by simp -dsimp [r85], by simp -dsimp [r68], by simp -dsimp [r76], ⟨true, by simp -dsimp⟩, by simp -dsimp [r52]⟩
theorem rem_node {n pr tr : Nat} {i j : Int} {nums : Nat} {ws : List V} {ns : List Int} (hi9 : intsOf ws = some ns) : NodeOk (n + 8) pr tr (rmF ns) (RB pr i j fun ρ => ρ 82 = some (.ref nums)) (fun h => h nums = some (.list ws)) rem_b := by
  intro A B x ρ h K Qr T0 hi ri r59 kk
  refine e0_5 ri fun r85 r68 r76 z93 r82 => ?_
  clear ri
  obtain ⟨b, r88⟩ := z93
  refine e0_3 (plX T0) fun e1 e2 e3 => ?_
  simp -dsimp [rem_b, r59, r82, e1]
  have l1 := e3.len
  refine removed_spec (n := n + 7) e2 (by lia) hi hi9 fun p' h1 P' x1 => ?_
  have T1 := T0.ext x1
  refine e0_3 (plX T1) fun g1 g2 g3 => ?_
  have ok' := filter_okS (ns := ns) e3
  refine e2_3 (id P') fun a xs e92 ha ht => ?_
  obtain rfl := e92
  refine e2_3 (id g2) fun a2 xs2 ea2 ha2 ht2 => ?_
  have hl : xs.length = (x.2.filter fun kv => !ns.contains kv.1).length := by rw [ht.len, List.length_map]
  have hl2 : xs2.length = x.2.length := by rw [ht2.len, List.length_map]
  have hfl : (x.2.filter fun kv => !ns.contains kv.1).length ≤ x.2.length := List.length_filter_le _ _
  have i1 : itemsOf h1 x.1.2.2 = some xs2 := by rw [ea2]; exact io_list ha2
  simp -dsimp [r59, io_list ha, g1, i1]
  refine ⟨by first | lia | (unfold lim; lia) | exact of_decide_eq_true rfl, by first | lia | (unfold lim; lia) | exact of_decide_eq_true rfl, ?_⟩
  by_cases c : (xs.length : Int) = xs2.length
  · rw [if_pos c]
    have : x.2.filter (fun kv => !ns.contains kv.1) = x.2 := List.filter_sublist.eq_of_length (by lia)
    have hpm := pm_filter (ns := ns) (kvs := x.2)
    rw [this] at hpm
    exact kk h1 x _ T1 (x1.step T0.t) (x1.at hi) rfl hpm ⟨by simp -dsimp [r85], by simp -dsimp [r68], by simp -dsimp [r76], ⟨b, by simp -dsimp [r88]⟩, by simp -dsimp [r82]⟩
  · rw [if_neg c]
    refine e1_3 (setX T1 P' ok') fun h2 e T2 s2 => ?_
    simp -dsimp [e, r59]
    exact kk h2 _ _ T2 ((x1.step T0.t).trans s2) (by show h2 nums = _; rw [s2.data T1.t (by rw [x1.at hi]; simp -dsimp) (notIn_list (x1.at hi))]; exact x1.at hi) rfl pm_filter ⟨by simp -dsimp [r85], by simp -dsimp [r68], by simp -dsimp [r76], ⟨true, by simp -dsimp⟩, by simp -dsimp [r82]⟩

section
variable {n pr tr : Nat} {i j : Int} {X : List AR} {h : H} {Q : V → H → Prop}
theorem put_spec {k : Int} {v : V} (hv : okV (k, v)) (T0 : TX h pr tr X) (c : chain X) (h0 : 0 ≤ i) (h1 : i ≤ j) (h2 : j ≤ asum X)
    (kk : ∀ b h' X', TX h' pr tr X' → chain X' → chars X' = mapR (putF k v) i j (chars X) → SX' h tr X h' X' → Q (.bool b) h') : CC (n + 9) 37 [.ref pr, .int i, .int j, .int k, v] h Q := by
  refine callI (fd := ⟨[85, 68, 76, 79, 80], b_put_property⟩) rfl rfl ?_
  rw [show b_put_property = opB put_b from rfl]
  exact op_go (put_node hv) (fun ρ x v hx ⟨a, b⟩ => by rcases hx with rfl | rfl <;> exact ⟨by simp -dsimp [a], by simp -dsimp [b]⟩) (fun _ _ _ _ _ _ _ => trivial) T0 trivial c h0 h1 h2 (by simp -dsimp) (by simp -dsimp) (by simp -dsimp) ⟨by simp -dsimp, by simp -dsimp⟩ kk
theorem add_spec {m : V} {B9 : KV} (ok : okKs B9) (P : PL h m B9) (T0 : TX h pr tr X) (c : chain X) (h0 : 0 ≤ i) (h1 : i ≤ j) (h2 : j ≤ asum X)
    (kk : ∀ b h' X', TX h' pr tr X' → chain X' → chars X' = mapR (addF B9) i j (chars X) → SX' h tr X h' X' → Q (.bool b) h') : CC (n + 9) 38 [.ref pr, .int i, .int j, m] h Q := by
  refine callI (fd := ⟨[85, 68, 76, 52], b_add_properties⟩) rfl rfl ?_
  rw [show b_add_properties = opB add_b from rfl]
  exact op_go (add_node ok) (fun ρ x v hx a => by rcases hx with rfl | rfl <;> simp -dsimp [a]) (fun _ _ _ _ T s P => P.step s T.t) T0 P c h0 h1 h2 (by simp -dsimp) (by simp -dsimp) (by simp -dsimp) (by simp -dsimp) kk
theorem set_spec {m : V} {B9 : KV} (ok : okKs B9) (P : PL h m B9) (T0 : TX h pr tr X) (c : chain X) (h0 : 0 ≤ i) (h1 : i ≤ j) (h2 : j ≤ asum X)
    (kk : ∀ b h' X', TX h' pr tr X' → chain X' → chars X' = mapR (fun _ => pm B9) i j (chars X) → SX' h tr X h' X' → Q (.bool b) h') : CC (n + 9) 39 [.ref pr, .int i, .int j, m] h Q := by
  refine callI (fd := ⟨[85, 68, 76, 52], b_set_properties⟩) rfl rfl ?_
  rw [show b_set_properties = opB set_b from rfl]
  exact op_go (set_node ok) (fun ρ x v hx a => by rcases hx with rfl | rfl <;> simp -dsimp [a]) (fun _ _ _ _ T s P => P.step s T.t) T0 P c h0 h1 h2 (by simp -dsimp) (by simp -dsimp) (by simp -dsimp) (by simp -dsimp) kk
theorem rem_spec {nums : Nat} {ws : List V} {ns : List Int} (hi9 : intsOf ws = some ns) (hn : h nums = some (.list ws)) (T0 : TX h pr tr X) (c : chain X) (h0 : 0 ≤ i) (h1 : i ≤ j) (h2 : j ≤ asum X)
    (kk : ∀ b h' X', TX h' pr tr X' → chain X' → chars X' = mapR (rmF ns) i j (chars X) → SX' h tr X h' X' → Q (.bool b) h') : CC (n + 9) 40 [.ref pr, .int i, .int j, .ref nums] h Q := by
  refine callI (fd := ⟨[85, 68, 76, 82], b_remove_properties⟩) rfl rfl ?_
  rw [show b_remove_properties = opB rem_b from rfl]
  exact op_go (rem_node hi9) (fun ρ x v hx a => by rcases hx with rfl | rfl <;> simp -dsimp [a]) (fun h h' _ _ T s (e : h nums = some (.list ws)) => show h' nums = _ by rw [s.data T.t (by rw [e]; simp -dsimp) (notIn_list e)]; exact e) T0 hn c h0 h1 h2 (by simp -dsimp) (by simp -dsimp) (by simp -dsimp) (by simp -dsimp) kk
end
end Mine

namespace Mine
open PySem

theorem chars_split {X A B : List AR} {i : Int} (ec : chars X = chars A ++ chars B) (gA : Good A) (e : asum A = i) : chars A = (chars X).take i.toNat ∧ chars B = (chars X).drop i.toNat := by
  have := chars_len gA
  have t : i.toNat = (chars A).length := by lia
  rw [ec, t]; simp -dsimp
/-- put in and joined on both sides -/
theorem joined_chain {P R : List AR} {i : Int} {X' : List AR} (j : Joined i (P ++ R) X') (g : Good (P ++ R)) (es : asum P = i) (cP : chain P) (cR : chain R) : chain X' ∧ chars X' = chars (P ++ R) := by
  have gg := Good.app.mp g
  rcases j.at g es with ⟨rfl, hne⟩ | ⟨P0, z, x, R', rfl, rfl, hpm, rfl⟩
  · refine ⟨?_, rfl⟩
    rcases List.eq_nil_or_concat P with rfl | ⟨P0, z, rfl⟩
    · simpa -dsimp using cR
    · simp -dsimp only [List.concat_eq_append] at *
      cases R with
      | nil => simpa -dsimp using cP
      | cons x R =>
        have := chain_snoc cP (hne P0 z x R rfl rfl)
        exact chain_join (by simpa -dsimp using this) cR
  · have gz := (Good.cons.mp (Good.app.mp gg.1).2).1.1
    have gx := (Good.cons.mp gg.2).1.1
    refine ⟨chain_join (chain_like (x := z) rfl cP) (chain_like' (x := x) (show pm (mrg z x).2 = pm x.2 from hpm) cR), ?_⟩
    have := chars_mrg gz gx hpm
    have e8 : chars (P0 ++ mrg z x :: R') = chars P0 ++ (chars [mrg z x] ++ chars R') := by simp -dsimp
    rw [e8, this]; simp -dsimp

section
variable {n pr tr : Nat} {X : List AR} {h : H} {Q : V → H → Prop}
theorem joinS {i : Int} (T0 : TX h pr tr X) (c : chain X) (k : ∀ h', TX h' pr tr X → SX' h tr X h' X → Q .none h') : CC (n + 7) 35 [.ref pr, .int i] h Q :=
  join_spec T0 fun h' X' j T' s => by obtain rfl := j.chain c; exact k h' T' s
/-- the X of an insertion -/
theorem insX {i m : Int} {p : V} {kvs : KV} (P : PL h p kvs) (ok : okKs kvs) (T0 : TX h pr tr X) (c : chain X) (h0 : 0 ≤ i) (h1 : i ≤ asum X) (hm : 0 ≤ m) (hb : asum X + m ≤ 1000)
    (k0 : m = 0 → Q .none h)
    (k : 0 < m → ∀ h' A B y, TX h' pr tr (A ++ y :: B) → SX' h tr X h' (A ++ y :: B) → chain A → chain B → asum A = i → y.1.2.1 = m → y.2 = kvs → chars A = (chars X).take i.toNat → chars B = (chars X).drop i.toNat → Q .none h') : CC (n + 7) 22 [.ref tr, .int i, .int m, p] h Q := by
  refine insert_spec T0.t T0.g.rows h0 (by rw [← asum_rows]; exact h1) hm (by rw [← asum_rows]; unfold Mine.big; lia) k0 fun hm' f g h' A B e eA t' s' => ?_
  refine e2_8 (splitX_bd f T0.g c h0 h1) fun A' B' e1 e2 gA gB cA cB ec hh => ?_
  have q1 : rws A' ++ rws B' = A ++ B := by rw [← e, ← splitX_rws, e1]; simp -dsimp [rws]
  obtain ⟨rfl, rfl⟩ := pos_eqR q1 (Good.app.mpr ⟨gA, gB⟩ |> fun g => by have := g.rows; simpa -dsimp [rws] using this) (by rw [← asum_rows, e2, eA])
  have er : rws (A' ++ ((g, m, p), kvs) :: B') = rws A' ++ (g, m, p) :: rws B' := by simp -dsimp [rws]
  obtain ⟨ec1, ec2⟩ := chars_split ec gA e2
  have s2 : SX' h tr X h' (A' ++ ((g, m, p), kvs) :: B') := by show Step _ _ _ _ _; rw [er]; exact s'
  refine k hm' h' A' B' ((g, m, p), kvs) (T0.to (by rw [er]; exact t') s2 (Good.app.mpr ⟨gA, Good.cons.mpr ⟨⟨hm', ok⟩, gB⟩⟩) (fun y hy => ?_) ?_) s2 cA cB e2 rfl rfl ec1 ec2
  · have key : y ∈ splitX f i X ∨ y = ((g, m, p), kvs) := by rw [e1]; simp -dsimp only [List.mem_append, List.mem_cons] at hy ⊢; grind
    rcases key with q | rfl
    · refine e1_3 (splitX_mem f y q) fun x hx q1 q2 => ?_
      rw [q1, q2]; exact T0.pl x hx
    · exact P
  · have a1 := chars_len T0.g
    have a2 := chars_len gA
    have a3 := chars_len gB
    rw [ec, List.length_append] at a1
    simp -dsimp; lia
theorem textIns_spec {i m : Int} {p : V} {kvs : KV} (P : PL h p kvs) (ok : okKs kvs) (T0 : TX h pr tr X) (c : chain X) (h0 : 0 ≤ i) (h1 : i ≤ asum X) (hm : 0 ≤ m) (hb : asum X + m ≤ 1000)
    (k : ∀ h' X', TX h' pr tr X' → chain X' → chars X' = (chars X).take i.toNat ++ (List.replicate m.toNat (pm kvs) ++ (chars X).drop i.toNat) → SX' h tr X h' X' → Q .none h') : CC (n + 8) 41 [.ref pr, .int i, .int m, p] h Q := by
  refine callI (fd := ⟨[85, 67, 66, 52], b_text_inserted⟩) rfl rfl ?_
  refine e2_3 (id P) fun a xs e92 ha ht => ?_
  obtain rfl := e92
  have hl : xs.length = kvs.length := by rw [ht.len, List.length_map]
  have l2 := ok.len
  simp -dsimp [b_text_inserted, get_tree T0.pr, la_list ha]
  refine ⟨by first | lia | (unfold lim; lia) | exact of_decide_eq_true rfl, fun p hp => ?_⟩
  have x1 := Ext.set hp (.list xs)
  have T1 := T0.ext x1
  have P' : PL (h.set p (.list xs)) (.ref p) kvs := ⟨p, xs, rfl, hs_self, ht.mono fun c y e => x1.at e⟩
  have s1 := x1.step T0.t
  refine insX P' ok T1 c h0 h1 hm hb (fun e0 => ?_) fun hm' h2 A B y T2 s2 cA cB eA ey ek ecA ecB => ?_
  · subst e0
    simp -dsimp
    refine joinS T1 c fun h2 T2 s2 => ?_
    simp -dsimp
    refine joinS T2 c fun h3 T3 s3 => ?_
    simp -dsimp
    exact k h3 X T3 c (by simp -dsimp) ((s1.trans s2).trans s3)
  · simp -dsimp
    refine join_spec T2 fun h3 X3 j3 T3 s3 => ?_
    simp -dsimp
    have g := Good.app.mp T2.g
    have gy := Good.cons.mp g.2
    have e7 : A ++ y :: B = (A ++ [y]) ++ B := by simp -dsimp
    -- what the first join makes
    have mid : ∃ y' B', X3 = A ++ y' :: B' ∧ chain (y' :: B') ∧ chars (y' :: B') = chars (y :: B) := by
      rw [e7] at j3
      rcases j3.at (by rw [← e7]; exact T2.g) (by simp -dsimp [eA, ey]) with ⟨rfl, hne⟩ | ⟨P0, z, x, R', e1, rfl, hpm, rfl⟩
      · refine ⟨y, B, by simp -dsimp, ?_, rfl⟩
        cases B with
        | nil => trivial
        | cons w B => exact ⟨hne A y w B rfl rfl, cB⟩
      · have := List.append_inj' e1 rfl
        obtain ⟨rfl, e2⟩ := this
        simp -dsimp only [List.cons.injEq, and_true] at e2
        subst e2
        refine ⟨mrg y x, R', by simp -dsimp, chain_like' (x := x) (show pm (mrg y x).2 = pm x.2 from hpm) cB, ?_⟩
        have := chars_mrg gy.1.1 (Good.cons.mp gy.2).1.1 hpm
        have e8 : chars (mrg y x :: R') = chars [mrg y x] ++ chars R' := by simp -dsimp
        rw [e8, this]; simp -dsimp
    refine e2_3 mid fun y' B' e92 cc ech => ?_
    clear mid
    obtain rfl := e92
    refine join_spec T3 fun h4 X4 j4 T4 s4 => ?_
    simp -dsimp
    obtain ⟨c4, e4⟩ := joined_chain j4 T3.g eA cA cc
    refine k h4 X4 T4 c4 ?_ (((s1.trans s2).trans s3).trans s4)
    rw [e4, chars_app, ech, ecA, ← ecB, chars_cons, ey, ek]
theorem textDel_spec {i j : Int} (T0 : TX h pr tr X) (c : chain X) (h0 : 0 ≤ i) (h1 : i ≤ j) (h2 : j ≤ asum X)
    (k : ∀ h' X', TX h' pr tr X' → chain X' → chars X' = (chars X).take i.toNat ++ (chars X).drop j.toNat → SX' h tr X h' X' → Q .none h') : CC (n + 8) 42 [.ref pr, .int i, .int j] h Q := by
  refine callI (fd := ⟨[85, 68, 76], b_text_deleted⟩) rfl rfl ?_
  simp -dsimp [b_text_deleted, get_tree T0.pr]
  refine delete_spec T0.t T0.g.rows T0.big h0 (by rw [← asum_rows]; exact h2) (fun q => ?_) fun hij f f2 h' A M B e eA eM t' s' => ?_
  · have : i = j := by lia
    subst this
    simp -dsimp
    refine joinS T0 c fun h2 T2 s2 => ?_
    simp -dsimp
    exact k h2 X T2 c (by simp -dsimp) s2
  · refine e2_8 (splitX_bd f T0.g c h0 (by lia : i ≤ asum X)) fun A' D e1 e2 gA gD cA cD ec _ => ?_
    have eX : asum X = asum A' + asum D := by
      have a1 := chars_len T0.g
      have a2 := chars_len gA
      have a3 := chars_len gD
      rw [ec, List.length_append] at a1
      lia
    refine e2_8 (splitX_bd f2 gD cD (i := j - i) (by lia) (by lia)) fun M' B' g1 g2 gM gB cM cB ec2 _ => ?_
    have er : rws (A' ++ (M' ++ B')) = A ++ (M ++ B) := by
      rw [← e, ← splitX_rws, e1]
      simp -dsimp only [rws, List.map_append]
      rw [splitR_app f2 gA.rows (by rw [← asum_rows, e2]; omega), ← asum_rows, e2, ← splitX_rws, g1]
      simp -dsimp [rws]
    have hp : Pos (rws (A' ++ (M' ++ B'))) := (Good.app.mpr ⟨gA, Good.app.mpr ⟨gM, gB⟩⟩).rows
    have q1 : rws A' ++ rws (M' ++ B') = A ++ (M ++ B) := by rw [← er]; simp -dsimp [rws]
    obtain ⟨rfl, q2⟩ := pos_eqR q1 (by rw [q1, ← er]; exact hp) (by rw [← asum_rows, e2, eA])
    have q3 : rws M' ++ rws B' = M ++ B := by rw [← q2]; simp -dsimp [rws]
    obtain ⟨rfl, rfl⟩ := pos_eqR q3 (by rw [q3]; rw [er] at hp; exact hp.app_r) (by rw [← asum_rows, g2, eM])
    have er2 : rws (A' ++ B') = rws A' ++ rws B' := by simp -dsimp [rws]
    have s2 : SX' h tr X h' (A' ++ B') := by show Step _ _ _ _ _; rw [er2]; exact s'
    have T2 : TX h' pr tr (A' ++ B') := by
      refine T0.to (by rw [er2]; exact t') s2 (Good.app.mpr ⟨gA, gB⟩) (fun y hy => ?_) ?_
      · have key : ∀ y ∈ splitX f i X, PL h y.1.2.2 y.2 := fun y hy => by
          refine e1_3 (splitX_mem f y hy) fun x hx q1 q2 => ?_
          rw [q1, q2]; exact T0.pl x hx
        rcases List.mem_append.mp hy with q | q
        · exact key y (by rw [e1]; simp -dsimp [q])
        · obtain ⟨x, hx, q1, q2⟩ := splitX_mem f2 y (show y ∈ splitX f2 (j - i) D by rw [g1]; simp -dsimp [q])
          rw [q1, q2]; exact key x (by rw [e1]; simp -dsimp [hx])
      · have a2 := chars_len gM
        have a3 := chars_len gD
        have a4 := chars_len gB
        rw [ec2, List.length_append] at a3
        have := T0.b
        simp -dsimp; lia
    simp -dsimp
    refine join_spec T2 fun h3 X3 j3 T3 s3 => ?_
    simp -dsimp
    obtain ⟨c3, e3⟩ := joined_chain j3 T2.g e2 cA cB
    refine k h3 X3 T3 c3 ?_ (s2.trans s3)
    obtain ⟨d1, d2⟩ := chars_split ec gA e2
    obtain ⟨d3, d4⟩ := chars_split ec2 gM g2
    rw [e3, chars_app, d1, d4, d2, List.drop_drop]
    congr 2
    lia
end
end Mine

namespace Mine
open PySem

theorem tp_spec {n c : Nat} {h : H} {Q : V → H → Prop} (hc : h c = none)
    (k : ∀ tr h', TX h' c tr [] → (∀ d, h d ≠ none → h' d = h d) → h tr = none → Q .none h') : CC (n + 2) 1002 [.ref c, .int 0] (h.set c (.inst 2 [])) Q := by
  refine callI (fd := ⟨[50, 56], b_init_TextProps⟩) rfl rfl ?_
  simp -dsimp [b_init_TextProps, iniT]
  intro l hl t ht
  refine callI (fd := ⟨[50, 56, 52], b_init_IntervalTree⟩) rfl rfl ?_
  have hlc : l ≠ c := by first | exact ne_new hl hs_self | exact ne_new' hl hs_self | exact ne_obj hl hs_self nofun | exact ne_obj hs_self hl nofun | (rintro rfl; rw [hs_self] at hl; cases hl)
  have htl : t ≠ l := by first | exact ne_new ht hs_self | exact ne_new' ht hs_self | exact ne_obj ht hs_self nofun | exact ne_obj hs_self ht nofun | (rintro rfl; rw [hs_self] at ht; cases ht)
  have htc : t ≠ c := by rintro rfl; rw [H.set_ne (Ne.symm hlc), hs_self] at ht; cases ht
  simp -dsimp [b_init_IntervalTree, setF, putFs]
  have hh : ∀ (h : H) (o1 o2 : O), (h.set t o1).set t o2 = h.set t o2 := fun h o1 o2 => by funext d; by_cases hd : d = t <;> simp -dsimp [H.set, hd]
  have ec : ((((h.set c (.inst 2 [])).set l (.list [])).set t (.inst 1 [])).set t (.inst 1 [(57, .none)])) c = some (.inst 2 []) := by
    rw [H.set_ne (Ne.symm htc), H.set_ne (Ne.symm htc), H.set_ne (Ne.symm hlc), hs_self]
  simp -dsimp [ec]
  rw [hh]
  refine k t _ ⟨hs_self, ⟨.leaf, ⟨?_, trivial, by simp -dsimp [cads, T.ads]⟩, rfl⟩, .nil, fun _ h => (nomatch h), by simp -dsimp⟩ (fun d hd => ?_) ?_
  · show _ = some (tr0 .none)
    rw [H.set_ne htc, hs_self]; rfl
  · have d1 : d ≠ c := by first | exact ne_kept hd hc | (rintro rfl; exact hd hc)
    have d2 : d ≠ l := by rintro rfl; rw [H.set_ne hlc] at hl; exact hd hl
    have d3 : d ≠ t := by rintro rfl; rw [H.set_ne htl, H.set_ne htc] at ht; exact hd ht
    rw [H.set_ne d1, H.set_ne d3, H.set_ne d2, H.set_ne d1]
  · rw [H.set_ne htl, H.set_ne htc] at ht; exact ht

structure Base (h0 h : H) (tr : Nat) (X : List AR) : Prop where
  keep : ∀ d, h0 d ≠ none → h d = h0 d
  tr : h0 tr = none
  ad : ∀ d ∈ adr (rws X), h0 d = none
theorem Base.step {h0 h h' : H} {tr : Nat} {X X' : List AR} (b : Base h0 h tr X) (s : SX' h tr X h' X') : Base h0 h' tr X' := by
  refine ⟨fun d hd => ?_, b.tr, fun d hd => ?_⟩
  · have e := b.keep d hd
    rw [s.keep d (by rw [e]; exact hd) (by rintro rfl; exact hd b.tr) fun q => hd (b.ad d q), e]
  · rcases s.new d hd with q | q
    · exact b.ad d q
    · by_cases e : h0 d = none
      · exact e
      · rw [b.keep d e] at q; exact q

noncomputable abbrev Rn := List (Int × V × KV)
noncomputable def charsR (B : Rn) : List PM := B.flatMap fun x => List.replicate x.1.toNat (pm x.2.2)
noncomputable def sumR (B : Rn) : Int := (B.map (·.1)).sum
@[simp] theorem sumR_cons {x : Int × V × KV} {B : Rn} : sumR (x :: B) = x.1 + sumR B := by simp -dsimp [sumR]
@[simp] theorem sumR_nil : sumR [] = 0 := rfl
@[simp] theorem charsR_cons {x : Int × V × KV} {B : Rn} : charsR (x :: B) = List.replicate x.1.toNat (pm x.2.2) ++ charsR B := rfl
@[simp] theorem charsR_nil : charsR [] = [] := rfl
structure RunsAt (h : H) (us : List V) (B : Rn) : Prop where
  tu : TupsAt h us (B.map fun x => [.int x.1, x.2.1])
  pl : ∀ x ∈ B, PL h x.2.1 x.2.2
  ok : ∀ x ∈ B, 0 < x.1 ∧ okKs x.2.2
theorem RunsAt.keep {h h' : H} {us : List V} {B : Rn} (r : RunsAt h us B) (k : ∀ d, h d ≠ none → ¬ isIn h d → h' d = h d) : RunsAt h' us B := by
  refine ⟨r.tu.mono fun c y e => ?_, fun x hx => ?_, r.ok⟩
  · rw [k c (by rw [e]; simp -dsimp) (notIn_tup e)]; exact e
  · refine e2_3 (r.pl x hx) fun a xs e ha ht => ?_
    refine ⟨a, xs, e, ?_, ht.mono fun c y e => ?_⟩
    · rw [k a (by rw [ha]; simp -dsimp) (notIn_list ha)]; exact ha
    · rw [k c (by rw [e]; simp -dsimp) (notIn_tup e)]; exact e
theorem RunsAt.ext {h h' : H} {us : List V} {B : Rn} (r : RunsAt h us B) (x : Ext h h') : RunsAt h' us B := r.keep fun d hd _ => x d hd
theorem RunsAt.tail {h : H} {u : V} {us : List V} {x : Int × V × KV} {B : Rn} (r : RunsAt h (u :: us) (x :: B)) : RunsAt h us B := ⟨r.tu.2, fun y hy => r.pl y (by simp -dsimp [hy]), fun y hy => r.ok y (by simp -dsimp [hy])⟩
theorem sumR_nn {h : H} : ∀ {us : List V} {B : Rn}, RunsAt h us B → 0 ≤ sumR B ∧ (B.length : Int) ≤ sumR B
  | _, [], _ => ⟨Int.le_refl _, Int.le_refl _⟩
  | [], _ :: _, r => r.tu.elim
  | u :: us, x :: B, r => by
    have := sumR_nn r.tail
    have := (r.ok x (by simp -dsimp)).1
    simp -dsimp; lia

noncomputable def pr_b : Sts := (.cons (.expr (.call 22 (.cons (.attr (.var 77) 58) (.cons (.var 67) (.cons (.var 66) (.cons (.var 52) .nil))))))
    (.cons (.expr (.call 35 (.cons (.var 77) (.cons (.var 67) .nil))))
    (.cons (.assign 67 (.bin .add (.var 67) (.var 66)))
    .nil)))
theorem props_go {n pr tr : Nat} {h0 : H} {Qn : R → H → Prop} {Qr : V → H → Prop} {live : H → Prop} {step : V → R → H → (R → H → Prop) → Prop} (lv : ∀ h, (∀ d, h0 d ≠ none → h d = h0 d) → live h)
    (hs : ∀ x ρ h k, (bindT [66, 52] true x ρ h fun ρ' => vB (CC (n + 7)) iniT pr_b ρ' h k Qr) → step x ρ h k) :
    ∀ (B : Rn) (us : List V) (X : List AR) (ρ : R) (h : H), RunsAt h us B → TX h pr tr X → chain X → Base h0 h tr X → asum X + sumR B ≤ 1000 → ρ 77 = some (.ref pr) → ρ 67 = some (.int (asum X)) →
      (∀ ρ' h' X', TX h' pr tr X' → chain X' → chars X' = chars X ++ charsR B → Base h0 h' tr X' → ρ' 77 = some (.ref pr) → Qn ρ' h') → forL live step us ρ h Qn := by
  intro B
  induction B with
  | nil =>
    intro us X ρ h r T0 c b hb r77 r67 k
    cases us with
    | nil => exact ⟨lv h b.keep, k ρ h X T0 c (by simp -dsimp) b r77⟩
    | cons _ _ => exact r.tu.elim
  | cons x B ih =>
    intro us X ρ h r T0 c b hb r77 r67 k
    cases us with
    | nil => exact r.tu.elim
    | cons u us =>
      refine e1_2 r.tu.1 fun cc e91 hcc => ?_
      obtain rfl := e91
      refine ⟨lv h b.keep, hs _ _ _ _ ?_⟩
      obtain ⟨ho, hok⟩ := r.ok x (by simp -dsimp)
      have hB := sumR_nn r.tail
      have hX := T0.g.nn
      simp -dsimp only [sumR_cons] at hb
      simp -dsimp only [bindT, ta_tup hcc, ned_some]
      refine ⟨rfl, ?_⟩
      simp -dsimp [pr_b, r77, r67, get_tree T0.pr]
      refine insX (r.pl x (by simp -dsimp)) hok T0 c hX (Int.le_refl _) (by lia) (by lia) (fun e => by lia) fun _ h2 A B' y T2 s2 cA cB eA ey ek ecA ecB => ?_
      simp -dsimp [r77, r67]
      have g2 := Good.app.mp T2.g
      have gy := Good.cons.mp g2.2
      have hB' : B' = [] := by
        have a1 := chars_len T0.g
        have a2 := chars_len gy.2
        have : (asum X).toNat = (chars X).length := by lia
        rw [ecB, this, List.drop_length] at a2
        have : rws B' = [] := gy.2.rows.zero (by rw [← asum_rows]; simpa -dsimp using a2.symm)
        simpa -dsimp using this
      subst hB'
      have eAX : chars A = chars X := by
        have a1 := chars_len T0.g
        have : (asum X).toNat = (chars X).length := by lia
        rw [ecA, this, List.take_length]
      refine join_spec T2 fun h3 X3 j3 T3 s3 => ?_
      simp -dsimp [r67]
      obtain ⟨c3, e3⟩ := joined_chain j3 T2.g eA cA (show chain [y] from trivial)
      have e3' : chars X3 = chars X ++ List.replicate x.1.toNat (pm x.2.2) := by rw [e3]; simp -dsimp [eAX, ey, ek]
      have b3 := (b.step s2).step s3
      have es3 : asum X3 = asum X + x.1 := by
        have a1 := chars_len T3.g
        have a2 := chars_len T0.g
        rw [e3', List.length_append, List.length_replicate] at a1
        lia
      refine ih us X3 _ h3 (r.tail.keep fun d d1 d2 => ?_) T3 c3 b3 (by lia) (by simp -dsimp [r77]) (by simp -dsimp; lia) fun ρ' h' X' T' c' e' b' q77 => k ρ' h' X' T' c' (by rw [e', e3']; simp -dsimp) b' q77
      rw [s3.data T2.t (by rw [s2.data T0.t d1 d2]; exact d1) (by rintro ⟨C, fs, e⟩; rw [s2.data T0.t d1 d2] at e; exact d2 ⟨C, fs, e⟩), s2.data T0.t d1 d2]
theorem propsOf_spec {n rl : Nat} {us : List V} {B : Rn} {h : H} {Q : V → H → Prop} (hr : h rl = some (.list us)) (r : RunsAt h us B) (hb : sumR B ≤ 1000)
    (k : ∀ pr tr X h', TX h' pr tr X → chain X → chars X = charsR B → Base h h' tr X → h pr = none → Q (.ref pr) h') : CC (n + 8) 33 [.ref rl] h Q := by
  refine callI (fd := ⟨[84], b_props_of_rows⟩) rfl rfl ?_
  have hb0 : b_props_of_rows = (.cons (.assign 77 (.new 2 (.cons (.int 0) .nil))) (.cons (.assign 67 (.int 0)) (.cons (.for [66, 52] true false (.var 84) pr_b) (.cons (.ret (.var 77)) .nil)))) := rfl
  simp -dsimp [hb0, iniT]
  intro pr hpr
  refine tp_spec (n := n + 5) hpr fun tr h1 T1 f1 htr => ?_
  have hr1 : h1 rl = some (.list us) := by rw [f1 rl (by rw [hr]; simp -dsimp)]; exact hr
  have hl : us.length = B.length := by rw [r.tu.len, List.length_map]
  have hnn := sumR_nn r
  simp -dsimp [srcItems, io_list hr1]
  refine ⟨by first | lia | (unfold lim; lia) | exact of_decide_eq_true rfl, ?_⟩
  refine props_go (n := n) (pr := pr) (tr := tr) (h0 := h) (Qr := Q) (live := sameAt (.ref rl) h1) (fun h' f' => by show h' rl = h1 rl; rw [f' rl (by rw [hr]; simp -dsimp), hr1, hr]) (fun x ρ h k q => q) B us [] _ h1 (r.ext f1) T1 trivial ⟨f1, htr, fun d hd => by simp -dsimp at hd⟩ (by simpa -dsimp using hb) (by simp -dsimp) (by simp -dsimp) fun ρ' h' X' T' c' e' b' q77 => ?_
  simp -dsimp [q77]
  exact k pr tr X' h' T' c' (by simpa -dsimp using e') b' hpr

theorem lp_go {n : Nat} {h0 : H} {fin : List V → H → Prop} {live : H → Prop} {step : V → H → (Option V → H → Prop) → Prop} {ρ0 : R} (lv : ∀ h, Ext h0 h → live h)
    (hs : ∀ x h k, (bindT [66, 52] true x (ρ0.only []) h fun ρ' => vT (CC n) iniT (.bool true) ρ' h fun c h => if c = true then vE (CC n) iniT (.tup (.cons (.var 66) (.cons (.listOf (.var 52)) .nil))) ρ' h (fun y h => k (some y) h) else k none h) → step x h k) :
    ∀ (B A : Rn) (us acc : List V) (h : H), Ext h0 h → RunsAt h us B → RunsAt h acc A → (∀ acc' A' h', Ext h0 h' → RunsAt h' acc' A' → charsR A' = charsR A ++ charsR B → sumR A' = sumR A + sumR B → fin acc' h') → compL live step us acc h fin := by
  intro B
  induction B with
  | nil =>
    intro A us acc h x r ra k
    cases us with
    | nil => exact ⟨lv h x, k acc A h x ra (by simp -dsimp) (by simp -dsimp)⟩
    | cons _ _ => exact r.tu.elim
  | cons y B ih =>
    intro A us acc h x r ra k
    cases us with
    | nil => exact r.tu.elim
    | cons u us =>
      refine e1_2 r.tu.1 fun cc e91 hcc => ?_
      obtain rfl := e91
      refine ⟨lv h x, hs _ _ _ ?_⟩
      obtain ⟨ho, hok⟩ := r.ok y (by simp -dsimp)
      refine e2_3 (r.pl y (by simp -dsimp)) fun a xs ea ha ht => ?_
      have l2 := hok.len
      have hl : xs.length = y.2.2.length := by rw [ht.len, List.length_map]
      simp -dsimp only [bindT, ta_tup hcc, ned_some]
      refine ⟨rfl, ?_⟩
      have la : listAt h y.2.1 = some xs := by rw [ea]; exact la_list ha
      simp -dsimp [la]
      refine ⟨by first | lia | (unfold lim; lia) | exact of_decide_eq_true rfl, fun p hp => ⟨by first | lia | (unfold lim; lia) | exact of_decide_eq_true rfl, fun t ht2 => ?_⟩⟩
      have x1 := Ext.set hp (.list xs)
      have x2 := x1.trans (Ext.set ht2 (.tup [.int y.1, .ref p]))
      have htp : t ≠ p := by first | exact ne_new ht2 hs_self | exact ne_new' ht2 hs_self | exact ne_obj ht2 hs_self nofun | exact ne_obj hs_self ht2 nofun | (rintro rfl; rw [hs_self] at ht2; cases ht2)
      have ra' : RunsAt ((h.set p (.list xs)).set t (.tup [.int y.1, .ref p])) (acc ++ [.ref t]) (A ++ [(y.1, .ref p, y.2.2)]) := by
        have ra2 := ra.ext x2
        refine ⟨?_, fun z hz => ?_, fun z hz => ?_⟩
        · rw [List.map_append]; exact ra2.tu.app ⟨⟨t, rfl, hs_self⟩, trivial⟩
        · rcases List.mem_append.mp hz with q | q
          · exact ra2.pl z q
          · rw [List.mem_singleton.mp q]
            exact ⟨p, xs, rfl, by rw [H.set_ne (Ne.symm htp), hs_self], ht.mono fun c w e => x2.at e⟩
        · rcases List.mem_append.mp hz with q | q
          · exact ra.ok z q
          · rw [List.mem_singleton.mp q]; exact ⟨ho, hok⟩
      refine ih (A ++ [(y.1, .ref p, y.2.2)]) us (acc ++ [.ref t]) _ (x.trans x2) (r.tail.ext x2) ra' fun acc' A' h' x' r' e1 e2 => k acc' A' h' x' r' ?_ ?_
      · rw [e1]; simp -dsimp [charsR]
      · rw [e2]; simp -dsimp [sumR]; lia
theorem lawProps_spec {n rl : Nat} {us : List V} {B : Rn} {h : H} {Q : V → H → Prop} (hr : h rl = some (.list us)) (r : RunsAt h us B) (hb : sumR B ≤ 1000)
    (k : ∀ pr tr X h', TX h' pr tr X → chain X → chars X = charsR B → Base h h' tr X → h pr = none → Q (.ref pr) h') : CC (n + 9) 45 [.ref rl] h Q := by
  refine callI (fd := ⟨[90], b_law_props⟩) rfl rfl ?_
  have hl : us.length = B.length := by rw [r.tu.len, List.length_map]
  have hnn := sumR_nn r
  simp -dsimp only [b_law_props, b_cons, b_nil, s_ret, x_call, xs_cons, xs_nil, x_comp]
  refine ⟨by simp -dsimp, ?_⟩
  simp -dsimp [srcItems, io_list hr, -x_tup, -x_listOf, -t_bool]
  refine ⟨by first | lia | (unfold lim; lia) | exact of_decide_eq_true rfl, ?_⟩
  refine lp_go (n := n + 8) (h0 := h) (ρ0 := R.empty.set 90 (.ref rl)) (live := sameAt (.ref rl) h) (fun h' x => x rl (by rw [hr]; simp -dsimp)) (fun x h k q => q) B [] us [] h (.refl h) r ⟨trivial, fun _ h => (nomatch h), fun _ h => (nomatch h)⟩ fun acc A h1 x1 r1 e1 e2 => ?_
  intro l hl9
  have x2 := Ext.set hl9 (.list acc)
  refine propsOf_spec (n := n) hs_self (r1.ext x2) (by rw [e2]; simpa -dsimp using hb) fun pr tr X h' T c ec b hpr => ?_
  have key : ∀ d, (h1.set l (.list acc)) d = none → h d = none := fun d hd => by
    by_cases e : h d = none
    · exact e
    · rw [(x1.trans x2) d e] at hd; exact absurd hd e
  exact k pr tr X h' T c (by rw [ec, e1]; simp -dsimp) ⟨fun d hd => by rw [b.keep d (by rw [(x1.trans x2) d hd]; exact hd), (x1.trans x2) d hd], key tr b.tr, fun d hd => key d (b.ad d hd)⟩ (key pr hpr)
end Mine

namespace Mine
open PySem

structure DeckAt (h : H) (dk sc : Nat) (xs : List V) (i : Int) : Prop where
  d : h dk = some (.list [.ref sc, .int i])
  s : h sc = some (.list xs)
  n : ∃ ns, intsOf xs = some ns
  l : xs.length ≤ 63
  i0 : 0 ≤ i
  i1 : i ≤ 500
theorem ints_get : ∀ {xs : List V} {ns : List Int} {j : Nat}, intsOf xs = some ns → j < xs.length → ∃ k, xs[j]? = some (.int k)
  | [], _, _, _, h => absurd h (Nat.not_lt_zero _)
  | .int a :: r, _, 0, _, _ => ⟨a, rfl⟩
  | .int a :: r, ns, j + 1, e, h => by
    simp -dsimp only [intsOf, Option.map_eq_some_iff] at e
    obtain ⟨ns', e, _⟩ := e
    obtain ⟨k, hk⟩ := ints_get (j := j) e (by simpa -dsimp using h)
    exact ⟨k, by simpa -dsimp using hk⟩
  | .none :: _, _, _, e, _ => by simp -dsimp [intsOf] at e
  | .bool _ :: _, _, _, e, _ => by simp -dsimp [intsOf] at e
  | .str _ :: _, _, _, e, _ => by simp -dsimp [intsOf] at e
  | .ref _ :: _, _, _, e, _ => by simp -dsimp [intsOf] at e
theorem draw_spec {n dk sc : Nat} {xs : List V} {i m : Int} {h : H} {Q : V → H → Prop} (D : DeckAt h dk sc xs i) (hm : 0 < m) (hi : i ≤ 499)
    (k : ∀ r h', 0 ≤ r → r < m → DeckAt h' dk sc xs (i + 1) → (∀ d, d ≠ dk → h' d = h d) → Q (.int r) h') : CC (n + 1) 43 [.ref dk, .int m] h Q := by
  refine callI (fd := ⟨[89, 66], b_law_draw⟩) rfl rfl ?_
  have hne : sc ≠ dk := by rintro rfl; have := D.d; rw [D.s] at this; cases this; have := D.n; obtain ⟨ns, e⟩ := this; simp -dsimp [intsOf] at e
  have i0 := D.i0
  have l := D.l
  simp -dsimp [b_law_draw, io_list D.d, la_list D.d]
  have D' : DeckAt (h.set dk (.list [.ref sc, .int (i + 1)])) dk sc xs (i + 1) := ⟨hs_self, by rw [H.set_ne hne]; exact D.s, D.n, l, by lia, by lia⟩
  simp -dsimp [io_list D'.d, io_list D'.s]
  refine ⟨by first | lia | (unfold lim; lia) | exact of_decide_eq_true rfl, ?_⟩
  have fin : ∀ z : Int, Q (.int (Int.fmod z m)) (h.set dk (.list [.ref sc, .int (i + 1)])) := fun z => k _ _ (Int.fmod_nonneg_of_pos _ hm) (Int.fmod_lt_of_pos _ hm) D' fun d hd => H.set_ne hd
  by_cases c : i + 1 ≤ (xs.length : Int)
  · obtain ⟨ns, en⟩ := D.n
    obtain ⟨kk, hk⟩ := ints_get (j := i.toNat) en (by lia)
    simp -dsimp [c, hk]
    exact ⟨by first | (unfold lim; lia) | exact of_decide_eq_true rfl, by first | (unfold lim; lia) | exact of_decide_eq_true rfl, i0, by first | (unfold lim; lia) | exact of_decide_eq_true rfl, hm, fin kk⟩
  · simp -dsimp [c]
    have hsq : (i + 1) * (i + 1) ≤ 1000000 := by
      have : (i + 1) * (i + 1) ≤ 500 * 500 := Int.mul_le_mul (by lia) (by lia) (by lia) (by lia)
      lia
    have hsq0 : 0 ≤ (i + 1) * (i + 1) := Int.mul_nonneg (by lia) (by lia)
    exact ⟨by first | (unfold lim; lia) | exact of_decide_eq_true rfl, by first | (unfold lim; lia) | exact of_decide_eq_true rfl, ⟨by lia, by lia, by lia, by lia⟩, ⟨by lia, by omega⟩, by first | (unfold lim; lia) | exact of_decide_eq_true rfl, ⟨by lia, by lia⟩, by first | (unfold lim; lia) | exact of_decide_eq_true rfl, by first | (unfold lim; lia) | exact of_decide_eq_true rfl, by lia, hm, fin _⟩

theorem DeckAt.keep {h h' : H} {dk sc : Nat} {xs : List V} {i : Int} (D : DeckAt h dk sc xs i) (x : Ext h h') : DeckAt h' dk sc xs i := ⟨x.at D.d, x.at D.s, D.n, D.l, D.i0, D.i1⟩
/-- all but the deck stays -/
noncomputable def ExtD (dk : Nat) (h h' : H) : Prop := ∀ d, h d ≠ none → d ≠ dk → h' d = h d
theorem ExtD.trans {dk : Nat} {a b c : H} (x : ExtD dk a b) (y : ExtD dk b c) : ExtD dk a c := fun d h1 h2 => by rw [y d (by rw [x d h1 h2]; exact h1) h2, x d h1 h2]
theorem Ext.d {dk : Nat} {a b : H} (x : Ext a b) : ExtD dk a b := fun d h1 _ => x d h1
theorem ExtD.at {dk : Nat} {h h' : H} (x : ExtD dk h h') {a : Nat} {o : O} (e : h a = some o) (n : a ≠ dk) : h' a = some o := by rw [x a (by rw [e]; simp -dsimp) n]; exact e
theorem dk_ne {h : H} {dk sc : Nat} {xs : List V} {i : Int} (D : DeckAt h dk sc xs i) {a : Nat} {o : O} (e : h a = some o) (ho : ∀ j, o ≠ .list [.ref sc, .int j]) : a ≠ dk := by
  rintro rfl; rw [D.d] at e; exact ho i (Option.some.inj e).symm

noncomputable def kv2 (f r : Int) (t : Nat) : KV := [(f, .int r), (f + 1, .bool true)].take t
theorem kv2_ok {f r : Int} {t : Nat} (h1 : 1 ≤ f) (h2 : f ≤ 3) (h3 : 0 ≤ r) (h4 : r < 3) : okKs (kv2 f r t) := by
  have a1 : okV (f, .int r) := .inr ⟨by simp -dsimp; lia, .inl ⟨r, rfl, by lia, by lia⟩⟩
  have a2 : okV (f + 1, .bool true) := .inr ⟨by simp -dsimp; lia, .inr ⟨true, rfl⟩⟩
  match t with
  | 0 => exact ⟨by simp -dsimp [kv2], by simp -dsimp [kv2]⟩
  | 1 => exact ⟨by simp -dsimp [kv2], by simp -dsimp [kv2, a1]⟩
  | t + 2 => exact ⟨by simp -dsimp [kv2]; lia, by simp -dsimp [kv2, a1, a2]⟩
theorem lawPlist_spec {n dk sc : Nat} {xs : List V} {i : Int} {h : H} {Q : V → H → Prop} (D : DeckAt h dk sc xs i) (hi : i ≤ 490)
    (k : ∀ p h' kvs, PL h' p kvs → okKs kvs → DeckAt h' dk sc xs (i + 3) → ExtD dk h h' → Q p h') : CC (n + 2) 44 [.ref dk] h Q := by
  refine callI (fd := ⟨[89], b_law_plist⟩) rfl rfl ?_
  simp -dsimp [b_law_plist]
  refine draw_spec D (by lia) (by lia) fun r1 h1 r1a r1b D1 x1 => ?_
  simp -dsimp
  refine draw_spec D1 (by lia) (by lia) fun r2 h2 r2a r2b D2 x2 => ?_
  refine ⟨by first | (unfold lim; lia) | exact of_decide_eq_true rfl, fun t1 ht1 => ?_⟩
  refine ⟨by first | lia | (unfold lim; lia) | exact of_decide_eq_true rfl, fun t2 ht2 => ?_⟩
  refine ⟨by first | lia | (unfold lim; lia) | exact of_decide_eq_true rfl, fun l hl => ?_⟩
  have y1 := Ext.set ht1 (.tup [.int (1 + r1), .int r2])
  have y2 := y1.trans (Ext.set ht2 (.tup [.int (1 + r1 + 1), .bool true]))
  have y3 := y2.trans (Ext.set hl (.list [.ref t1, .ref t2]))
  have D3 := D2.keep y3
  refine draw_spec D3 (by lia) (by lia) fun r3 h3 r3a r3b D4 x3 => ?_
  have hl3 : ∀ a o, ((((h2.set t1 (.tup [.int (1 + r1), .int r2])).set t2 (.tup [.int (1 + r1 + 1), .bool true])).set l (.list [.ref t1, .ref t2]))) a = some o → (∀ j, o ≠ .list [.ref sc, .int j]) → h3 a = some o := fun a o e ho => by
    rw [x3 a (dk_ne D3 e ho)]; exact e
  have el : h3 l = some (.list [.ref t1, .ref t2]) := hl3 l _ hs_self (fun j q => by simp -dsimp at q)
  simp -dsimp [la_list el]
  refine ⟨by omega, by first | lia | (unfold lim; lia) | exact of_decide_eq_true rfl, by first | lia | (unfold lim; lia) | exact of_decide_eq_true rfl, fun q hq => ?_⟩
  have y4 := Ext.set hq (.list ([V.ref t1, .ref t2].take r3.toNat))
  have h12 : t2 ≠ t1 := by first | exact ne_new ht2 hs_self | exact ne_new' ht2 hs_self | exact ne_obj ht2 hs_self nofun | exact ne_obj hs_self ht2 nofun | (rintro rfl; rw [hs_self] at ht2; cases ht2)
  have hlt1 : l ≠ t1 := by rintro rfl; rw [H.set_ne (Ne.symm h12), hs_self] at hl; cases hl
  have hlt2 : l ≠ t2 := by first | exact ne_new hl hs_self | exact ne_new' hl hs_self | exact ne_obj hl hs_self nofun | exact ne_obj hs_self hl nofun | (rintro rfl; rw [hs_self] at hl; cases hl)
  have e1 : h3 t1 = some (.tup [.int (1 + r1), .int r2]) := hl3 t1 _ (by rw [H.set_ne (Ne.symm hlt1), H.set_ne (Ne.symm h12), hs_self]) (fun j q => by simp -dsimp at q)
  have e2 : h3 t2 = some (.tup [.int (1 + r1 + 1), .bool true]) := hl3 t2 _ (by rw [H.set_ne (Ne.symm hlt2), hs_self]) (fun j q => by simp -dsimp at q)
  refine k (.ref q) _ (kv2 (1 + r1) r2 r3.toNat) ⟨q, _, rfl, hs_self, ?_⟩ (kv2_ok (by lia) (by lia) r2a r2b) ?_ ?_
  · have hr3 : r3 = 0 ∨ r3 = 1 ∨ r3 = 2 := by lia
    have f1 := y4.at e1
    have f2 := y4.at e2
    rcases hr3 with rfl | rfl | rfl
    · exact trivial
    · exact ⟨⟨t1, rfl, f1⟩, trivial⟩
    · exact ⟨⟨t1, rfl, f1⟩, ⟨t2, rfl, f2⟩, trivial⟩
  · have := D4.keep y4
    rw [show i + 1 + 1 + 1 = i + 3 by lia] at this
    exact this
  · refine fun d d1 d2 => ?_
    have a1 : h1 d = h d := x1 d d2
    have a2 : h2 d = h d := by rw [x2 d d2, a1]
    have a3 := y3 d (by rw [a2]; exact d1)
    have a4 := x3 d d2
    rw [y4 d (by rw [a4, a3, a2]; exact d1), a4, a3, a2]

/-! the deed and what is done elsewhere -/
noncomputable def firstF (way : Int) (kvs : KV) : PM → PM := if way = 0 then addF kvs else if way = 1 then fun _ => pm kvs else if way = 2 then rmF (kvs.map (·.1)) else putF 2 (.bool false)
theorem nums_go {n : Nat} {h : H} {fin : List V → H → Prop} {live : H → Prop} {step : V → H → (Option V → H → Prop) → Prop} {ρ0 : R} (lv : live h)
    (hs : ∀ x k, (bindT [79, 80] true x (ρ0.only []) h fun ρ' => vT (CC n) iniT (.bool true) ρ' h fun c h => if c = true then vE (CC n) iniT (.var 79) ρ' h (fun y h => k (some y) h) else k none h) → step x h k) :
    ∀ (B : KV) (us acc : List V), TupsAt h us (B.map fun kv => [.int kv.1, kv.2]) → (fin (acc ++ B.map fun kv => .int kv.1) h) → compL live step us acc h fin := by
  intro B
  induction B with
  | nil =>
    intro us acc t k
    cases us with
    | nil => exact ⟨lv, by simpa -dsimp using k⟩
    | cons _ _ => exact t.elim
  | cons kv B ih =>
    intro us acc t k
    cases us with
    | nil => exact t.elim
    | cons u us =>
      obtain ⟨⟨c, rfl, hc⟩, t⟩ := t
      refine ⟨lv, hs _ _ ?_⟩
      simp -dsimp only [bindT, ta_tup hc, ned_some]
      refine ⟨rfl, ?_⟩
      simp -dsimp
      exact ih us (acc ++ [.int kv.1]) t (by simpa -dsimp using k)
theorem intsOf_map : ∀ B : KV, intsOf (B.map fun kv => .int kv.1) = some (B.map (·.1))
  | [] => rfl
  | kv :: B => by simp -dsimp [intsOf, intsOf_map B]
theorem okV_29 : okV (2, .bool false) ∧ okV (9, .str (Str.ofString "x")) := ⟨.inr ⟨by simp -dsimp, .inr ⟨false, rfl⟩⟩, .inl ⟨rfl, _, rfl, by decide +kernel⟩⟩
theorem lawFirst_spec {n pr tr dd : Nat} {X : List AR} {way b e : Int} {p : V} {kvs : KV} {h : H} {Q : V → H → Prop} (T0 : TX h pr tr X) (c : chain X) (hd : h dd = some (.tup [.int way, .int b, .int e, p])) (P : PL h p kvs) (ok : okKs kvs) (h0 : 0 ≤ b) (h1 : b ≤ e) (h2 : e ≤ asum X)
    (k : ∀ h' X', TX h' pr tr X' → chain X' → chars X' = mapR (firstF way kvs) b e (chars X) → SX' h tr X h' X' → Q .none h') : CC (n + 10) 46 [.ref pr, .ref dd] h Q := by
  refine callI (fd := ⟨[85, 91], b_law_first⟩) rfl rfl ?_
  simp -dsimp [b_law_first, ta_tup hd]
  by_cases w0 : way = 0
  · subst w0
    simp -dsimp
    refine Mine.add_spec ok P T0 c h0 h1 h2 fun bb h' X' T' c' e' s' => ?_
    simp -dsimp
    exact k h' X' T' c' (by simpa -dsimp [firstF] using e') s'
  · simp -dsimp [w0]
    by_cases w1 : way = 1
    · subst w1
      simp -dsimp
      refine Mine.set_spec ok P T0 c h0 h1 h2 fun bb h' X' T' c' e' s' => ?_
      simp -dsimp
      exact k h' X' T' c' (by simpa -dsimp [firstF] using e') s'
    · simp -dsimp [w1]
      by_cases w2 : way = 2
      · subst w2
        refine e2_3 (id P) fun a xs e92 ha ht => ?_
        obtain rfl := e92
        have hl : xs.length = kvs.length := by rw [ht.len, List.length_map]
        have l2 := ok.len
        simp -dsimp [srcItems, io_list ha, -t_bool]
        refine ⟨by first | lia | (unfold lim; lia) | exact of_decide_eq_true rfl, ?_⟩
        refine nums_go (n := n + 9) (ρ0 := ((((R.empty.set 85 (.ref pr)).set 91 (.ref dd)).set 92 (.int 2)).set 68 (.int b) |>.set 76 (.int e)).set 52 (.ref a)) (live := sameAt (.ref a) h) rfl (fun x k q => q) kvs xs [] ht ?_
        intro l hl9
        have x1 := Ext.set hl9 (.list ([] ++ kvs.map fun kv => V.int kv.1))
        have T1 := T0.ext x1
        have hi9 : intsOf ([] ++ kvs.map fun kv => V.int kv.1) = some (kvs.map (·.1)) := intsOf_map kvs
        refine Mine.rem_spec (n := n) hi9 hs_self T1 c h0 h1 h2 fun bb h' X' T' c' e' s' => ?_
        simp -dsimp
        exact k h' X' T' c' (by simpa -dsimp [firstF] using e') ((x1.step T0.t).trans s')
      · simp -dsimp [w2]
        refine Mine.put_spec okV_29.1 T0 c h0 h1 h2 fun bb h' X' T' c' e' s' => ?_
        simp -dsimp
        exact k h' X' T' c' (by simpa -dsimp [firstF, w0, w1, w2] using e') s'
noncomputable def otherC (way i m : Int) (kvs : KV) (cs : List PM) : List PM := if way = 0 then cs.take i.toNat ++ (List.replicate m.toNat (pm kvs) ++ cs.drop i.toNat) else if way = 1 then cs.take i.toNat ++ cs.drop (i + m).toNat else mapR (putF 9 (.str (Str.ofString "x"))) i (i + m) cs
theorem lawOther_spec {n pr tr : Nat} {X : List AR} {way i m : Int} {p : V} {kvs : KV} {h : H} {Q : V → H → Prop} (T0 : TX h pr tr X) (c : chain X) (P : PL h p kvs) (ok : okKs kvs) (h0 : 0 ≤ i) (hm : 0 ≤ m) (h1 : way = 0 → i ≤ asum X ∧ asum X + m ≤ 1000) (h2 : way ≠ 0 → i + m ≤ asum X)
    (k : ∀ h' X', TX h' pr tr X' → chain X' → chars X' = otherC way i m kvs (chars X) → SX' h tr X h' X' → Q .none h') : CC (n + 10) 47 [.ref pr, .int way, .int i, .int m, p] h Q := by
  refine callI (fd := ⟨[85, 92, 67, 66, 52], b_law_other⟩) rfl rfl ?_
  simp -dsimp [b_law_other]
  by_cases w0 : way = 0
  · simp -dsimp [w0]
    refine textIns_spec (n := n + 1) P ok T0 c h0 (h1 w0).1 hm (h1 w0).2 fun h' X' T' c' e' s' => ?_
    simp -dsimp
    exact k h' X' T' c' (by simpa -dsimp [otherC, w0] using e') s'
  · simp -dsimp [w0]
    by_cases w1 : way = 1
    · simp -dsimp [w1]
      refine textDel_spec (n := n + 1) T0 c h0 (by lia) (h2 w0) fun h' X' T' c' e' s' => ?_
      simp -dsimp
      exact k h' X' T' c' (by simpa -dsimp [otherC, w1] using e') s'
    · simp -dsimp [w1]
      refine Mine.put_spec (n := n) okV_29.2 T0 c h0 (by lia) (h2 w0) fun bb h' X' T' c' e' s' => ?_
      simp -dsimp
      exact k h' X' T' c' (by simpa -dsimp [otherC, w0, w1] using e') s'
end Mine

namespace Mine
open PySem

noncomputable def isb : V → Bool
  | .bool _ => true
  | _ => false
noncomputable def strv : V → Str
  | .str s => s
  | .bool true => Str.ofString "True"
  | .bool false => Str.ofString "False"
  | .int i => Str.ofString (toString i)
  | _ => Str.ofString ""
theorem strv_ok {kv : Int × V} (h : okV kv) : Mine.strOf kv.2 = some (strv kv.2) ∧ (strv kv.2).cps.all (· < 0x110000) = true ∧ ∀ (k : Bool → Prop), isB kv.2 k = k (isb kv.2) := by
  have hs : ∀ s : String, (Str.ofString s).cps.all (· < 0x110000) = true := fun s => by
    rw [Str.ofString_eq_toList]
    simp only [List.all_toArray, List.all_map, List.all_eq_true, Function.comp, decide_eq_true_eq]
    intro c _
    have := c.valid
    rcases this with h | ⟨_, h⟩
    · exact Nat.lt_trans h (by decide)
    · exact h
  rcases h with ⟨a, s, b, c⟩ | ⟨a, ⟨i, b, c, d⟩ | ⟨t, b⟩⟩
  · rw [b]; exact ⟨rfl, c, fun _ => rfl⟩
  · rw [b]; exact ⟨by simp -dsimp [Mine.strOf, strv, c, d], hs _, fun _ => rfl⟩
  · rw [b]; cases t
    · exact ⟨rfl, hs _, fun _ => rfl⟩
    · exact ⟨rfl, hs _, fun _ => rfl⟩
noncomputable def tri (kv : Int × V) : List V := [.int kv.1, .bool (isb kv.2), .str (strv kv.2)]
noncomputable def triD (kv : Int × V) : D := .tup [.int kv.1, .bool (isb kv.2), .str (strv kv.2)]
noncomputable def plD (p : PM) : List D := ([1, 2, 3, 4, 9] : List Int).filterMap fun k => (p k).map fun v => triD (k, v)

theorem tups_perm {α : Type} {h : H} {f : α → List V} {xs ys : List V} (p : xs.Perm ys) : ∀ {L : List α}, TupsAt h xs (L.map f) → ∃ L' : List α, L'.Perm L ∧ TupsAt h ys (L'.map f) := by
  induction p with
  | nil => intro L t; cases L with
    | nil => exact ⟨[], .refl _, trivial⟩
    | cons _ _ => exact t.elim
  | cons x p ih =>
    intro L t
    cases L with
    | nil => exact t.elim
    | cons a L =>
      refine e1_2 (ih t.2) fun L' p' t' => ?_
      exact ⟨a :: L', p'.cons a, t.1, t'⟩
  | swap x y l =>
    intro L t
    match L, t with
    | [], t => exact t.elim
    | [_], t => exact t.2.elim
    | a :: b :: L, t => exact ⟨b :: a :: L, .swap _ _ _, t.2.1, t.1, t.2.2⟩
  | trans p q ih1 ih2 =>
    intro L t
    refine e1_2 (ih1 t) fun L1 p1 t1 => ?_
    refine e1_2 (ih2 t1) fun L2 p2 t2 => ?_
    exact ⟨L2, p2.trans p1, t2⟩
theorem keys_of {h : H} : ∀ {xs : List V} {L : KV}, TupsAt h xs (L.map tri) → keysOf h xs = some (L.map (·.1))
  | [], [], _ => rfl
  | v :: xs, kv :: L, ⟨⟨c, e, hc⟩, t⟩ => by
    subst e
    simp -dsimp only [keysOf, firstInt, hc, tri, Option.bind_some, keys_of t, Option.map_some, List.map_cons]
  | [], _ :: _, h => h.elim
  | _ :: _, [], h => h.elim
theorem fm_congr {α β : Type} {f g : α → Option β} : ∀ {l : List α}, (∀ x ∈ l, f x = g x) → l.filterMap f = l.filterMap g
  | [], _ => rfl
  | a :: l, h => by
    rw [List.filterMap_cons, List.filterMap_cons, h a (by simp -dsimp), fm_congr (l := l) fun x hx => h x (by simp -dsimp [hx])]
theorem sorted_eq : ∀ (ks : List Int) (L : KV), ks.Pairwise (· < ·) → (L.map (·.1)).Pairwise (· < ·) → (∀ kv ∈ L, kv.1 ∈ ks) → (ks.filterMap fun k => (lookK k L).map fun v => triD (k, v)) = L.map triD
  | [], L, _, _, h => by cases L with
    | nil => rfl
    | cons kv L => exact absurd (h kv (by simp -dsimp)) (by simp -dsimp)
  | k0 :: ks, L, hk, hL, h => by
    rw [List.pairwise_cons] at hk
    rw [List.filterMap_cons]
    cases L with
    | nil =>
      simp -dsimp only [lookK, Option.map_none]
      have := sorted_eq ks [] hk.2 (by simp -dsimp) (by simp -dsimp)
      simpa -dsimp using this
    | cons kv L =>
      obtain ⟨k, v⟩ := kv
      rw [List.map_cons, List.pairwise_cons] at hL
      by_cases e : k = k0
      · subst e
        have e1 : lookK k ((k, v) :: L) = some v := by simp -dsimp [lookK]
        rw [e1]
        simp -dsimp only [Option.map_some, List.map_cons]
        congr 1
        have hlt : ∀ kv ∈ L, kv.1 ∈ ks := fun kv hkv => by
          have h1 := h kv (by simp -dsimp [hkv])
          have h2 := hL.1 kv.1 (List.mem_map_of_mem (f := (·.1)) hkv)
          rcases List.mem_cons.mp h1 with q | q
          · lia
          · exact q
        rw [← sorted_eq ks L hk.2 hL.2 hlt]
        refine fm_congr fun k' hk' => ?_
        have : k ≠ k' := by have := hk.1 k' hk'; lia
        simp -dsimp [lookK, this]
      · have hk1 : k ∈ ks := by
          rcases List.mem_cons.mp (h (k, v) (by simp -dsimp)) with q | q
          · exact absurd q e
          · exact q
        have hlt := hk.1 k hk1
        have hno : lookK k0 ((k, v) :: L) = none := look_none.mpr fun q => by
          rw [List.map_cons] at q
          rcases List.mem_cons.mp q with q | q
          · exact e q.symm
          · have := hL.1 k0 q; lia
        rw [hno]
        simp -dsimp only [Option.map_none]
        refine sorted_eq ks ((k, v) :: L) hk.2 (by rw [List.map_cons, List.pairwise_cons]; exact hL) fun kv hkv => ?_
        rcases List.mem_cons.mp (h kv hkv) with q | q
        · rcases List.mem_cons.mp hkv with rfl | q2
          · exact hk1
          · have := hL.1 kv.1 (List.mem_map_of_mem (f := (·.1)) q2); lia
        · exact q
theorem pm_perm {a b : KV} (p : a.Perm b) (hb : okKs b) : pm a = pm b ∧ okKs a := by
  have oa : okKs a := ⟨(p.map (·.1)).nodup_iff.mpr hb.1, fun kv hkv => hb.2 kv (p.mem_iff.mp hkv)⟩
  refine ⟨?_, oa⟩
  funext k
  show lookK k a = lookK k b
  cases e : lookK k a with
  | some v => exact (mem_look hb.1 (p.mem_iff.mp (look_mem e))).symm
  | none =>
    refine (look_none.mpr fun q => look_none.mp e ?_).symm
    exact (p.map (·.1)).mem_iff.mpr q
theorem tri_has {h : H} : ∀ {xs : List V} {L : KV}, TupsAt h xs (L.map tri) → HasDs h xs (L.map triD)
  | [], [], _ => .nil
  | v :: xs, kv :: L, ⟨⟨c, e, hc⟩, t⟩ => by
    subst e
    exact .cons (.tup hc (.cons (.int _) (.cons (.bool _) (.cons (.str _) .nil)))) (tri_has t)
  | [], _ :: _, h => h.elim
  | _ :: _, [], h => h.elim
/-- the sorted list is the one -/
theorem sorted_has {h : H} {ys : List V} {L kvs : KV} (ok : okKs kvs) (p : L.Perm kvs) (t : TupsAt h ys (L.map tri)) (hs : (L.map (·.1)).Pairwise (· ≤ ·)) : HasDs h ys (plD (pm kvs)) := by
  obtain ⟨e, oL⟩ := pm_perm p ok
  have hlt : (L.map (·.1)).Pairwise (· < ·) := by
    have hn : (L.map (·.1)).Pairwise (· ≠ ·) := oL.1
    exact (hs.and hn).imp fun {a b} ⟨x, y⟩ => by lia
  have := sorted_eq [1, 2, 3, 4, 9] L (by decide) hlt fun kv hkv => by
    rcases oL.2 kv hkv with ⟨a, _⟩ | ⟨a, _⟩
    · rw [a]; simp -dsimp
    · simp -dsimp at a ⊢; lia
  have e2 : plD (pm kvs) = L.map triD := by rw [← e]; exact this
  rw [e2]
  exact tri_has t

@[simp ↓] theorem x_sorted {Φ : CallT} {ini : Nat → Nat} {e : Ex} {ρ : R} {h : H} {Q : V → H → Prop} : vE Φ ini (.sorted e) ρ h Q = vE Φ ini e ρ h fun v h => ned (listAt h v) fun xs => ned (keysOf h xs) fun ks => xs.length ≤ 5 ∧ ks.Nodup ∧
      ∀ ys ls, ys.Perm xs → keysOf h ys = some ls → ls.Pairwise (· ≤ ·) → nwO h (.list ys) Q := rfl

noncomputable def tri_e : Ex := .tup (.cons (.var 79) (.cons (.isBool (.var 80)) (.cons (.strOf (.var 80)) .nil)))
theorem tri_go {n : Nat} {h0 : H} {fin : List V → H → Prop} {live : H → Prop} {step : V → H → (Option V → H → Prop) → Prop} {ρ0 : R} (lv : ∀ h, Ext h0 h → live h)
    (hs : ∀ x h k, (bindT [79, 80] true x (ρ0.only []) h fun ρ' => vT (CC n) iniT (.bool true) ρ' h fun c h => if c = true then vE (CC n) iniT tri_e ρ' h (fun y h => k (some y) h) else k none h) → step x h k) :
    ∀ (B A : KV) (us acc : List V) (h : H), Ext h0 h → (∀ kv ∈ B, okV kv) → TupsAt h us (B.map fun kv => [.int kv.1, kv.2]) → TupsAt h acc (A.map tri) → (∀ acc' h', Ext h0 h' → TupsAt h' acc' ((A ++ B).map tri) → fin acc' h') → compL live step us acc h fin := by
  intro B
  induction B with
  | nil =>
    intro A us acc h x ok t ta k
    cases us with
    | nil => exact ⟨lv h x, k acc h x (by simpa -dsimp using ta)⟩
    | cons _ _ => exact t.elim
  | cons kv B ih =>
    intro A us acc h x ok t ta k
    cases us with
    | nil => exact t.elim
    | cons u us =>
      obtain ⟨⟨c, rfl, hc⟩, t⟩ := t
      refine ⟨lv h x, hs _ _ _ ?_⟩
      simp -dsimp only [bindT, ta_tup hc, ned_some]
      refine ⟨rfl, ?_⟩
      refine e0_3 (strv_ok (ok kv (by simp -dsimp))) fun s1 s2 s3 => ?_
      simp -dsimp [tri_e, s3, s1]
      refine ⟨by unfold lim; lia, fun d hd => ?_⟩
      have x1 := Ext.set hd (.tup [.int kv.1, .bool (isb kv.2), .str (strv kv.2)])
      refine ih (A ++ [kv]) us (acc ++ [.ref d]) _ (x.trans x1) (fun kv hkv => ok kv (by simp -dsimp [hkv])) (t.mono fun c y e => x1.at e) ?_ fun acc' h' x' t' => k acc' h' x' (by simpa -dsimp using t')
      rw [List.map_append]
      exact (ta.mono fun c y e => x1.at e).app ⟨⟨d, rfl, hs_self⟩, trivial⟩
end Mine

namespace Mine
open PySem

noncomputable def shD : Int → List (Int × PM) → List D
  | _, [] => []
  | b, (o, p) :: r => .tup [.int b, .int (b + o), .list (plD p)] :: shD (b + o) r
noncomputable def op (X : List AR) : List (Int × PM) := X.map fun x => (x.1.2.1, pm x.2)
theorem plD_ok {n : Nat} {kvs : KV} (ok : okKs kvs) : (plD (pm kvs)).all (dOk (n + 1)) = true := by
  rw [List.all_eq_true]
  intro d hd
  refine e1_2 (List.mem_filterMap.mp hd) fun k hk e => ?_
  refine e1_2 (Option.map_eq_some_iff.mp e) fun v hv e92 => ?_
  obtain rfl := e92
  have := (strv_ok (ok.2 (k, v) (look_mem hv))).2.1
  simp -dsimp [triD, dOk, this]
theorem shD_ok : ∀ {X : List AR} {b : Int}, Good X → (shD b (op X)).all (dOk 7) = true
  | [], _, _ => rfl
  | x :: X, b, g => by
    obtain ⟨⟨_, ok⟩, g'⟩ := Good.cons.mp g
    have := shD_ok (b := b + x.1.2.1) g'
    simp -dsimp only [op, List.map_cons, shD, List.all_cons] at this ⊢
    rw [this]
    have h2 := plD_ok (n := 4) ok
    simp -dsimp only [dOk, List.all_cons, List.all_nil, Bool.and_true, Bool.true_and]
    exact h2
/-- the rows shown so far -/
noncomputable def ShE (h : H) (fl : Nat) (v : V) (d : D) : Prop := ∃ c b e l ys kvs L, v = .ref c ∧ h c = some (.tup [.int b, .int e, .ref l]) ∧ l ≠ fl ∧ h l = some (.list ys) ∧ d = .tup [.int b, .int e, .list (plD (pm kvs))] ∧ okKs kvs ∧ List.Perm L kvs ∧ (L.map (·.1)).Pairwise (· ≤ ·) ∧ TupsAt h ys (L.map tri)
noncomputable def ShAt (h : H) (fl : Nat) : List V → List D → Prop
  | [], [] => True
  | v :: vs, d :: ds => ShE h fl v d ∧ ShAt h fl vs ds
  | _, _ => False
theorem ShE.keep {h h' : H} {fl : Nat} {xs : List V} (hf : h fl = some (.list xs)) (k : ∀ d, h d ≠ none → d ≠ fl → h' d = h d) {v : V} {d : D} (q : ShE h fl v d) : ShE h' fl v d := by
  have tk : ∀ c x, h c = some (.tup x) → h' c = some (.tup x) := fun c x q' => (k c (by rw [q']; exact nofun) (ne_obj q' hf nofun)).trans q'
  exact e7_9 q fun c b e l ys kvs L e1 e2 e3 e4 e5 e6 e7 e8 e9 => ⟨c, b, e, l, ys, kvs, L, e1, tk _ _ e2, e3, (k l (by rw [e4]; exact nofun) e3).trans e4, e5, e6, e7, e8, e9.mono tk⟩
theorem ShAt.keep {h h' : H} {fl : Nat} {xs : List V} (hf : h fl = some (.list xs)) (k : ∀ d, h d ≠ none → d ≠ fl → h' d = h d) : ∀ {vs : List V} {ds : List D}, ShAt h fl vs ds → ShAt h' fl vs ds
  | [], [], _ => trivial
  | _ :: _, _ :: _, q => ⟨q.1.keep hf k, ShAt.keep hf k q.2⟩
  | [], _ :: _, h => h.elim
  | _ :: _, [], h => h.elim
theorem ShAt.app {h : H} {fl : Nat} : ∀ {vs us : List V} {ds es : List D}, ShAt h fl vs ds → ShAt h fl us es → ShAt h fl (vs ++ us) (ds ++ es)
  | [], _, [], _, _, b => b
  | _ :: _, _, _ :: _, _, ⟨a, r⟩, b => ⟨a, ShAt.app r b⟩
  | [], _, _ :: _, _, h, _ => h.elim
  | _ :: _, _, [], _, h, _ => h.elim
theorem ShAt.has {h : H} {fl : Nat} : ∀ {vs : List V} {ds : List D}, ShAt h fl vs ds → HasDs h vs ds
  | [], [], _ => .nil
  | _ :: _, _ :: _, q => .cons (e7_9 q.1 fun c b e l ys kvs L e1 e2 e3 e4 e5 e6 e7 e8 e9 => by
    subst e1 e5
    exact .tup e2 (.cons (.int _) (.cons (.int _) (.cons (.list e4 (sorted_has e6 e7 e9 e8)) .nil)))) (ShAt.has q.2)
  | [], _ :: _, h => h.elim
  | _ :: _, [], h => h.elim

noncomputable def sh_b : Sts := (.cons (.expr (.append 77 (.tup (.cons (.var 68) (.cons (.var 76) (.cons (.sorted (.comp tri_e [79, 80] true [] false (.var 52) (.bool true))) .nil))))))
    .nil)
theorem sh_go {n fl rl : Nat} {us0 : List V} {Qn : R → H → Prop} {Qr : V → H → Prop} {live : H → Prop} {step : V → R → H → (R → H → Prop) → Prop} (lv : ∀ h, h rl = some (.list us0) → live h) (hfr : fl ≠ rl)
    (hs : ∀ x ρ h k, (bindT [68, 76, 52] true x ρ h fun ρ' => vB (CC n) iniT sh_b ρ' h k Qr) → step x ρ h k) :
    ∀ (X : List AR) (b : Int) (us vs : List V) (ds : List D) (ρ : R) (h : H), Good X → vs.length + asum X ≤ 1000 → (∀ x ∈ X, PL h x.1.2.2 x.2) → (∀ x ∈ X, x.1.2.2 ≠ .ref fl) → TupsAt h us (rowTups b (rws X)) → h rl = some (.list us0) → h fl = some (.list vs) → ShAt h fl vs ds → ρ 77 = some (.ref fl) →
      (∀ ρ' h' vs', (∀ d, h d ≠ none → d ≠ fl → h' d = h d) → h' fl = some (.list vs') → ShAt h' fl vs' (ds ++ shD b (op X)) → ρ' 77 = some (.ref fl) → Qn ρ' h') → forL live step us ρ h Qn := by
  intro X
  induction X with
  | nil =>
    intro b us vs ds ρ h g hb pl pf t hr hf sh r77 k
    cases us with
    | nil => exact ⟨lv h hr, k ρ h vs (fun _ _ _ => rfl) hf (by simpa -dsimp [op, shD] using sh) r77⟩
    | cons _ _ => exact t.elim
  | cons x X ih =>
    intro b us vs ds ρ h g hb pl pf t hr hf sh r77 k
    cases us with
    | nil => exact t.elim
    | cons u us =>
      obtain ⟨⟨c, rfl, hc⟩, t⟩ := t
      obtain ⟨⟨ho, ok⟩, g'⟩ := Good.cons.mp g
      have gn := g'.nn
      simp -dsimp only [asum_cons] at hb
      refine ⟨lv h hr, hs _ _ _ _ ?_⟩
      simp -dsimp only [bindT, ta_tup hc, ned_some]
      refine ⟨rfl, ?_⟩
      refine e2_3 (pl x (by simp -dsimp)) fun a xs ea ha ht => ?_
      have l2 := ok.len
      have hl : xs.length = x.2.length := by rw [ht.len, List.length_map]
      have hit : itemsOf h x.1.2.2 = some xs := by rw [ea]; exact io_list ha
      simp -dsimp [sh_b, r77, la_list hf, srcItems, hit, -t_bool]
      refine ⟨by first | lia | (unfold lim; lia) | exact of_decide_eq_true rfl, ?_⟩
      refine tri_go (n := n) (h0 := h) (ρ0 := ((ρ.set 68 (.int b)).set 76 (.int (b + x.1.2.1))).set 52 x.1.2.2) (live := sameAt x.1.2.2 h) (fun h' x' => by rw [ea]; exact x' a (by rw [ha]; simp -dsimp)) (fun x h k q => q) x.2 [] xs [] h (.refl h) ok.2 ht trivial fun acc h1 x1 ta => ?_
      intro l hl9
      have x2 := x1.trans (Ext.set hl9 (.list acc))
      have ta2 : TupsAt (h1.set l (.list acc)) acc (x.2.map tri) := (by simpa -dsimp using ta : TupsAt h1 acc (x.2.map tri)).mono fun c y e => (Ext.set hl9 _).at e
      have hacc : acc.length = x.2.length := by have := ta2.len; simpa -dsimp using this
      simp -dsimp [keys_of ta2]
      refine ⟨by lia, by simpa -dsimp using ok.1, fun ys ls hp hk hs2 => ?_⟩
      refine e1_2 (tups_perm hp.symm ta2) fun L pL tL => ?_
      have hls : ls = L.map (·.1) := by have := keys_of tL; rw [hk] at this; exact Option.some.inj this
      subst hls
      intro s hs9
      have x3 := x2.trans (Ext.set hs9 (.list ys))
      refine ⟨by first | lia | (unfold lim; lia) | exact of_decide_eq_true rfl, fun q hq => ?_⟩
      have x4 := x3.trans (Ext.set hq (.tup [.int b, .int (b + x.1.2.1), .ref s]))
      have hsf : s ≠ fl := by rintro rfl; have := x2.at hf; rw [hs9] at this; cases this
      have hqf : q ≠ fl := by rintro rfl; have := x3.at hf; rw [hq] at this; cases this
      have hqs : q ≠ s := by first | exact ne_new hq hs_self | exact ne_new' hq hs_self | exact ne_obj hq hs_self nofun | exact ne_obj hs_self hq nofun | (rintro rfl; rw [hs_self] at hq; cases hq)
      have ef := x4.at hf
      simp -dsimp [la_list ef]
      refine ⟨by first | lia | (unfold lim; lia) | exact of_decide_eq_true rfl, ?_⟩
      -- what stands behind the turn
      have kp : ∀ d, h d ≠ none → d ≠ fl → (((((h1.set l (.list acc)).set s (.list ys)).set q (.tup [.int b, .int (b + x.1.2.1), .ref s])).set fl (.list (vs ++ [.ref q])))) d = h d := fun d d1 d2 => by
        rw [H.set_ne d2]; exact x4 d d1
      have tk : ∀ c y, h c = some (.tup y) → (((((h1.set l (.list acc)).set s (.list ys)).set q (.tup [.int b, .int (b + x.1.2.1), .ref s])).set fl (.list (vs ++ [.ref q])))) c = some (.tup y) := fun c y e => by
        rw [kp c (by rw [e]; simp -dsimp) (by first | exact ne_new e hf | exact ne_new' e hf | exact ne_obj e hf nofun | exact ne_obj hf e nofun | (rintro rfl; rw [hf] at e; cases e))]; exact e
      refine ih (b + x.1.2.1) us (vs ++ [.ref q]) (ds ++ [.tup [.int b, .int (b + x.1.2.1), .list (plD (pm x.2))]]) _ _ g' (by simp -dsimp; lia) (fun y hy => ?_) (fun y hy => pf y (by simp -dsimp [hy])) (t.mono tk) (by rw [kp rl (by rw [hr]; simp -dsimp) (Ne.symm hfr)]; exact hr) hs_self ?_ (by simp -dsimp [r77]) fun ρ' h' vs' f' hf' sh' q77 => ?_
      · refine e2_3 (pl y (by simp -dsimp [hy])) fun a' xs' ea' ha' ht' => ?_
        refine ⟨a', xs', ea', ?_, ht'.mono tk⟩
        rw [kp a' (by rw [ha']; simp -dsimp) (by rintro rfl; exact pf y (by simp -dsimp [hy]) ea')]; exact ha'
      · refine ShAt.app (sh.keep hf kp) ⟨⟨q, b, b + x.1.2.1, s, ys, x.2, L, rfl, ?_, hsf, ?_, rfl, ok, pL, hs2, ?_⟩, trivial⟩
        · rw [H.set_ne hqf, hs_self]
        · rw [H.set_ne hsf, H.set_ne (Ne.symm hqs), hs_self]
        · refine tL.mono fun c y e => ?_
          have h1' := (Ext.set hs9 (.list ys)).at e
          have h2' := (Ext.set hq (.tup [.int b, .int (b + x.1.2.1), .ref s])).at h1'
          rw [H.set_ne (by rintro rfl; rw [ef] at h2'; cases h2')]; exact h2'
      · refine k ρ' h' vs' (fun d d1 d2 => ?_) hf' (by simpa -dsimp [op, shD] using sh') q77
        rw [f' d (by rw [kp d d1 d2]; exact d1) d2, kp d d1 d2]
theorem lawShown_spec {n pr tr : Nat} {X : List AR} {h : H} {Q : V → H → Prop} (T0 : TX h pr tr X)
    (k : ∀ l h', Ext h h' → HasD h' (.ref l) (.list (shD 0 (op X))) → Q (.ref l) h') : CC (n + 4) 48 [.ref pr] h Q := by
  refine callI (fd := ⟨[85], b_law_shown⟩) rfl rfl ?_
  have hb0 : b_law_shown = (.cons (.ite (.cmp .isNot (.call 25 (.cons (.attr (.var 85) 58) .nil)) .none) (.cons (.ret .none) .nil) .nil) (.cons (.assign 77 (.list .nil)) (.cons (.for [68, 76, 52] true false (.call 24 (.cons (.attr (.var 85) 58) .nil)) sh_b) (.cons (.ret (.var 77)) .nil)))) := rfl
  simp -dsimp [hb0, get_tree T0.pr]
  refine err_spec T0.t T0.g.rows T0.big fun h1 x1 => ?_
  have T1 := T0.ext x1
  simp -dsimp
  intro fl hfl
  have x2 := Ext.set hfl (.list [])
  have T2 := T1.ext x2
  simp -dsimp [get_tree T2.pr]
  refine rows_spec T2.t T2.g.rows T2.big fun rl us h3 hrl t3 x3 hr tu => ?_
  have T3 := T2.ext x3
  have hf3 : h3 fl = some (.list []) := x3 fl (by simp -dsimp) |>.trans hs_self
  have hne : fl ≠ rl := by first | exact ne_new hrl hs_self | exact ne_new' hrl hs_self | exact ne_obj hrl hs_self nofun | exact ne_obj hs_self hrl nofun | (rintro rfl; rw [hs_self] at hrl; cases hrl)
  have hlen : us.length ≤ 1000 := by
    have a1 := tu.len
    have hrl : ∀ (A : List Row) (b : Int), (rowTups b A).length = A.length := by
      intro A; induction A with
      | nil => intro b; rfl
      | cons y A ih => intro b; obtain ⟨_, _, _⟩ := y; simp -dsimp [rowTups, ih]
    rw [hrl] at a1
    have a2 := len_le T0.g.rows
    have a3 := T0.b
    rw [← asum_rows] at a2
    lia
  simp -dsimp [srcItems, io_list hr]
  refine ⟨by first | lia | (unfold lim; lia) | exact of_decide_eq_true rfl, ?_⟩
  refine sh_go (n := n + 3) (fl := fl) (rl := rl) (us0 := us) (Qr := Q) (live := sameAt (.ref rl) h3) (fun h' e => by show h' rl = h3 rl; rw [e, hr]) hne (fun x ρ h k q => q) X 0 us [] [] _ h3 T0.g (by have := T0.b; simpa -dsimp using this) T3.pl (fun x hx e => ?_) tu hr hf3 trivial (by simp -dsimp) fun ρ' h' vs' f' hf' sh' q77 => ?_
  · refine e2_3 (T1.pl x hx) fun a xs ea ha _ => ?_
    rw [ea] at e
    cases e
    rw [hfl] at ha; cases ha
  · simp -dsimp [q77]
    refine k fl h' (fun d d1 => ?_) (.list hf' (by simpa -dsimp using sh'.has))
    have d2 : d ≠ fl := by rintro rfl; rw [x1 d d1] at hfl; exact d1 hfl
    have e1 : h1 d = h d := x1 d d1
    have e2 : (h1.set fl (.list [])) d = h d := by rw [H.set_ne d2, e1]
    have e3 : h3 d = h d := by rw [x3 d (by rw [e2]; exact d1), e2]
    rw [f' d (by rw [e3]; exact d1) d2, e3]
theorem HasD.ext {h h' : H} (x : Ext h h') {v : V} {d : D} (q : HasD h v d) : HasD h' v d :=
  HasD.rec (motive_1 := fun v d _ => HasD h' v d) (motive_2 := fun vs ds _ => HasDs h' vs ds) .none .bool .int .str (fun e _ r => .tup (x.at e) r) (fun e _ r => .list (x.at e) r) .nil (fun _ _ a r => .cons a r) q
end Mine

namespace Mine
open PySem

theorem chars_head {x : AR} {X : List AR} (g : 0 < x.1.2.1) : ∃ k, x.1.2.1.toNat = k + 1 ∧ chars (x :: X) = pm x.2 :: (List.replicate k (pm x.2) ++ chars X) := by
  refine ⟨x.1.2.1.toNat - 1, by lia, ?_⟩
  have : x.1.2.1.toNat = (x.1.2.1.toNat - 1) + 1 := by lia
  rw [chars_cons, this]
  simp -dsimp [List.replicate_succ]
theorem run_eq {p q : PM} {a b : Nat} {R S : List PM} (e : List.replicate a p ++ R = List.replicate b q ++ S) (h : p = q) (hR : R.head? ≠ some p) (hS : S.head? ≠ some q) : a = b ∧ R = S := by
  subst h
  induction a generalizing b with
  | zero =>
    cases b with
    | zero => exact ⟨rfl, by simpa -dsimp using e⟩
    | succ b => simp -dsimp [List.replicate_succ] at e; rw [e] at hR; simp -dsimp at hR
  | succ a ih =>
    cases b with
    | zero => simp -dsimp [List.replicate_succ] at e; rw [← e] at hS; simp -dsimp at hS
    | succ b =>
      simp -dsimp only [List.replicate_succ, List.cons_append, List.cons.injEq, true_and] at e
      obtain ⟨e1, e2⟩ := ih e
      exact ⟨by rw [e1], e2⟩
theorem chain_head {x : AR} {X : List AR} (c : chain (x :: X)) (g : Good (x :: X)) : (chars X).head? ≠ some (pm x.2) := by
  cases X with
  | nil => simp -dsimp
  | cons y X =>
    have gy := (Good.cons.mp (Good.cons.mp g).2).1.1
    refine e1_2 (chars_head (x := y) (X := X) gy) fun k _ e => ?_
    rw [e]
    simp -dsimp only [List.head?_cons, ne_eq, Option.some.injEq]
    exact fun q => c.1 q.symm
theorem chain_unique : ∀ {X Y : List AR}, Good X → Good Y → chain X → chain Y → chars X = chars Y → op X = op Y
  | [], [], _, _, _, _, _ => rfl
  | [], y :: Y, _, g, _, _, e => by
    refine e1_2 (chars_head (x := y) (X := Y) (Good.cons.mp g).1.1) fun k _ e2 => ?_
    rw [e2] at e; simp -dsimp at e
  | x :: X, [], g, _, _, _, e => by
    refine e1_2 (chars_head (x := x) (X := X) (Good.cons.mp g).1.1) fun k _ e2 => ?_
    rw [e2] at e; simp -dsimp at e
  | x :: X, y :: Y, gX, gY, cX, cY, e => by
    have hx := (Good.cons.mp gX).1.1
    have hy := (Good.cons.mp gY).1.1
    refine e1_2 (chars_head (x := x) (X := X) hx) fun k _ e1 => ?_
    refine e1_2 (chars_head (x := y) (X := Y) hy) fun k' _ e2 => ?_
    have hp : pm x.2 = pm y.2 := by rw [e1, e2] at e; simp -dsimp only [List.cons.injEq] at e; exact e.1
    simp -dsimp only [chars_cons] at e
    obtain ⟨r1, r2⟩ := run_eq e hp (chain_head cX gX) (chain_head cY gY)
    have ih := chain_unique (Good.cons.mp gX).2 (Good.cons.mp gY).2 (chain_tail cX) (chain_tail cY) r2
    simp -dsimp only [op, List.map_cons] at ih ⊢
    rw [ih]
    congr 1
    refine Prod.ext ?_ hp
    show x.1.2.1 = y.1.2.1
    lia

theorem mapR_eq {F : PM → PM} {i j : Int} {A M B : List PM} (hA : (A.length : Int) = i) (hM : (M.length : Int) = j - i) : mapR F i j (A ++ (M ++ B)) = A ++ (M.map F ++ B) := by
  unfold mapR
  have t1 : i.toNat = A.length := by lia
  have t2 : (j - i).toNat = M.length := by lia
  rw [t1, t2]
  simp -dsimp
theorem other_ins {m : Int} {i : Int} {kvs : KV} {A B : List PM} (hA : (A.length : Int) = i) : otherC 0 i m kvs (A ++ B) = A ++ (List.replicate m.toNat (pm kvs) ++ B) := by
  unfold otherC
  have t1 : i.toNat = A.length := by lia
  rw [if_pos rfl, t1]
  simp -dsimp
theorem other_del {m : Int} {i : Int} {kvs : KV} {A M B : List PM} (hA : (A.length : Int) = i) (hM : (M.length : Int) = m) : otherC 1 i m kvs (A ++ (M ++ B)) = A ++ B := by
  unfold otherC
  have t1 : i.toNat = A.length := by lia
  have t2 : (i + m).toNat = A.length + M.length := by lia
  rw [if_neg (by decide), if_pos rfl, t1, t2]
  rw [← List.drop_drop]
  simp -dsimp
theorem other_put {way m i : Int} {kvs : KV} {A M B : List PM} (h0 : way ≠ 0) (h1 : way ≠ 1) (hA : (A.length : Int) = i) (hM : (M.length : Int) = m) : otherC way i m kvs (A ++ (M ++ B)) = A ++ (M.map (putF 9 (.str (Str.ofString "x"))) ++ B) := by
  unfold otherC
  rw [if_neg h0, if_neg h1]
  exact mapR_eq hA (by lia)
theorem cut (cs : List PM) (i : Int) (h0 : 0 ≤ i) (h1 : i ≤ cs.length) : ∃ A B, cs = A ++ B ∧ (A.length : Int) = i ∧ (B.length : Int) = cs.length - i := by
  refine ⟨cs.take i.toNat, cs.drop i.toNat, (List.take_append_drop _ _).symm, ?_, ?_⟩
  · rw [List.length_take]; lia
  · rw [List.length_drop]; lia
/-- the places moved along -/
noncomputable def shift (behind : Bool) (way m : Int) : Int := if behind = true ∨ way = 2 then 0 else if way = 0 then m else 0 - m
theorem commute {F : PM → PM} {cs : List PM} {b e at9 m way : Int} {kvs : KV} {behind : Bool} (hb : 0 ≤ b) (hbe : b ≤ e) (he : e ≤ cs.length) (hw : way = 0 ∨ way = 1 ∨ way = 2) (hm : 0 ≤ m)
    (h1 : behind = true → e ≤ at9 ∧ at9 ≤ cs.length ∧ (way ≠ 0 → at9 + m ≤ cs.length)) (h2 : behind = false → 0 ≤ at9 ∧ at9 ≤ b ∧ (way ≠ 0 → at9 + m ≤ b)) :
    otherC way at9 m kvs (mapR F b e cs) = mapR F (b + shift behind way m) (e + shift behind way m) (otherC way at9 m kvs cs) := by
  cases behind with
  | true =>
    refine e0_3 (h1 rfl) fun k1 k2 k3 => ?_
    have hs : shift true way m = 0 := by simp -dsimp [shift]
    rw [hs, Int.add_zero, Int.add_zero]
    refine e2_3 (cut cs b hb (by lia)) fun A R e92 eA eR => ?_
    obtain rfl := e92
    refine e2_3 (cut R (e - b) (by lia) (by lia)) fun M R e92 eM eR => ?_
    obtain rfl := e92
    refine e2_3 (cut R (at9 - e) (by lia) (by lia)) fun C R e92 eC eR => ?_
    obtain rfl := e92
    rw [mapR_eq eA (by lia)]
    rcases hw with rfl | rfl | rfl
    · have a1 := other_ins (m := m) (i := at9) (kvs := kvs) (A := A ++ (M.map F ++ C)) (B := R) (by simp -dsimp; lia)
      have a2 := other_ins (m := m) (i := at9) (kvs := kvs) (A := A ++ (M ++ C)) (B := R) (by simp -dsimp; lia)
      have e1 : A ++ (M.map F ++ (C ++ R)) = (A ++ (M.map F ++ C)) ++ R := by simp -dsimp
      have e2 : A ++ (M ++ (C ++ R)) = (A ++ (M ++ C)) ++ R := by simp -dsimp
      rw [e1, a1, e2, a2]
      have e3 : (A ++ (M ++ C)) ++ (List.replicate m.toNat (pm kvs) ++ R) = A ++ (M ++ (C ++ (List.replicate m.toNat (pm kvs) ++ R))) := by simp -dsimp
      rw [e3, mapR_eq eA (by lia)]
      simp -dsimp
    · obtain ⟨G, R, rfl, eG, eR⟩ := cut R m hm (by have := k3 (by decide); simp -dsimp at this; lia)
      have a1 := other_del (i := at9) (kvs := kvs) (A := A ++ (M.map F ++ C)) (M := G) (B := R) (by simp -dsimp; lia) eG
      have a2 := other_del (i := at9) (kvs := kvs) (A := A ++ (M ++ C)) (M := G) (B := R) (by simp -dsimp; lia) eG
      have e1 : A ++ (M.map F ++ (C ++ (G ++ R))) = (A ++ (M.map F ++ C)) ++ (G ++ R) := by simp -dsimp
      have e2 : A ++ (M ++ (C ++ (G ++ R))) = (A ++ (M ++ C)) ++ (G ++ R) := by simp -dsimp
      rw [e1, a1, e2, a2]
      have e3 : (A ++ (M ++ C)) ++ R = A ++ (M ++ (C ++ R)) := by simp -dsimp
      rw [e3, mapR_eq eA (by lia)]
      simp -dsimp
    · obtain ⟨G, R, rfl, eG, eR⟩ := cut R m hm (by have := k3 (by decide); simp -dsimp at this; lia)
      have a1 := other_put (way := 2) (i := at9) (kvs := kvs) (A := A ++ (M.map F ++ C)) (M := G) (B := R) (by decide) (by decide) (by simp -dsimp; lia) eG
      have a2 := other_put (way := 2) (i := at9) (kvs := kvs) (A := A ++ (M ++ C)) (M := G) (B := R) (by decide) (by decide) (by simp -dsimp; lia) eG
      have e1 : A ++ (M.map F ++ (C ++ (G ++ R))) = (A ++ (M.map F ++ C)) ++ (G ++ R) := by simp -dsimp
      have e2 : A ++ (M ++ (C ++ (G ++ R))) = (A ++ (M ++ C)) ++ (G ++ R) := by simp -dsimp
      rw [e1, a1, e2, a2]
      have e3 : (A ++ (M ++ C)) ++ (G.map (putF 9 (.str (Str.ofString "x"))) ++ R) = A ++ (M ++ (C ++ (G.map (putF 9 (.str (Str.ofString "x"))) ++ R))) := by simp -dsimp
      rw [e3, mapR_eq eA (by lia)]
      simp -dsimp
  | false =>
    refine e0_3 (h2 rfl) fun k1 k2 k3 => ?_
    refine e2_3 (cut cs at9 k1 (by lia)) fun C R e92 eC eR => ?_
    obtain rfl := e92
    rcases hw with rfl | rfl | rfl
    · have hs : shift false 0 m = m := by simp -dsimp [shift]
      rw [hs]
      refine e2_3 (cut R (b - at9) (by lia) (by lia)) fun A R e92 eA eR => ?_
      obtain rfl := e92
      refine e2_3 (cut R (e - b) (by lia) (by lia)) fun M R e92 eM eR => ?_
      obtain rfl := e92
      have e0 : C ++ (A ++ (M ++ R)) = (C ++ A) ++ (M ++ R) := by simp -dsimp
      rw [e0, mapR_eq (by simp -dsimp; lia) (by lia), ← e0, other_ins eC]
      have e1 : (C ++ A) ++ (M.map F ++ R) = C ++ (A ++ (M.map F ++ R)) := by simp -dsimp
      rw [e1, other_ins eC]
      have e3 : C ++ (List.replicate m.toNat (pm kvs) ++ (A ++ (M ++ R))) = (C ++ (List.replicate m.toNat (pm kvs) ++ A)) ++ (M ++ R) := by simp -dsimp
      rw [e3, mapR_eq (by simp -dsimp; lia) (by lia)]
      simp -dsimp
    · have hs : shift false 1 m = 0 - m := by simp -dsimp [shift]
      rw [hs]
      have k3 := k3 (by decide)
      refine e2_3 (cut R m hm (by lia)) fun G R e92 eG eR => ?_
      obtain rfl := e92
      refine e2_3 (cut R (b - at9 - m) (by lia) (by lia)) fun A R e92 eA eR => ?_
      obtain rfl := e92
      refine e2_3 (cut R (e - b) (by lia) (by lia)) fun M R e92 eM eR => ?_
      obtain rfl := e92
      have e0 : C ++ (G ++ (A ++ (M ++ R))) = (C ++ (G ++ A)) ++ (M ++ R) := by simp -dsimp
      have e1 : (C ++ (G ++ A)) ++ (M.map F ++ R) = C ++ (G ++ (A ++ (M.map F ++ R))) := by simp -dsimp
      rw [e0, mapR_eq (by simp -dsimp; lia) (by lia), e1, other_del eC eG, ← e0, other_del eC eG]
      have e3 : C ++ (A ++ (M ++ R)) = (C ++ A) ++ (M ++ R) := by simp -dsimp
      rw [e3, mapR_eq (by simp -dsimp; lia) (by lia)]
      simp -dsimp
    · have hs : shift false 2 m = 0 := by simp -dsimp [shift]
      rw [hs, Int.add_zero, Int.add_zero]
      have k3 := k3 (by decide)
      refine e2_3 (cut R m hm (by lia)) fun G R e92 eG eR => ?_
      obtain rfl := e92
      refine e2_3 (cut R (b - at9 - m) (by lia) (by lia)) fun A R e92 eA eR => ?_
      obtain rfl := e92
      refine e2_3 (cut R (e - b) (by lia) (by lia)) fun M R e92 eM eR => ?_
      obtain rfl := e92
      have e0 : C ++ (G ++ (A ++ (M ++ R))) = (C ++ (G ++ A)) ++ (M ++ R) := by simp -dsimp
      have e1 : (C ++ (G ++ A)) ++ (M.map F ++ R) = C ++ (G ++ (A ++ (M.map F ++ R))) := by simp -dsimp
      rw [e0, mapR_eq (by simp -dsimp; lia) (by lia), e1, other_put (by decide) (by decide) eC eG, ← e0, other_put (by decide) (by decide) eC eG]
      have e3 : C ++ (G.map (putF 9 (.str (Str.ofString "x"))) ++ (A ++ (M ++ R))) = (C ++ (G.map (putF 9 (.str (Str.ofString "x"))) ++ A)) ++ (M ++ R) := by simp -dsimp
      rw [e3, mapR_eq (by simp -dsimp; lia) (by lia)]
      simp -dsimp
theorem mapR_len {F : PM → PM} {i j : Int} {cs : List PM} : (mapR F i j cs).length = cs.length := by
  unfold mapR
  have h1 : (cs.take i.toNat ++ ((cs.drop i.toNat).take (j - i).toNat ++ (cs.drop i.toNat).drop (j - i).toNat)).length = cs.length := by simp -dsimp only [List.take_append_drop]
  simp -dsimp only [List.length_append, List.length_map] at h1 ⊢
  exact h1
end Mine

namespace Mine
open PySem

/-- two trees apart -/
structure Apart (h : H) (tr : Nat) (X : List AR) (tr' : Nat) (X' : List AR) : Prop where
  tt : tr ≠ tr'
  ta : tr ∉ adr (rws X')
  at' : tr' ∉ adr (rws X)
  aa : ∀ d ∈ adr (rws X), d ∉ adr (rws X')
theorem TX.apart {h h' : H} {pr tr pr' tr' : Nat} {X Y X' : List AR} (T1 : TX h pr tr X) (T2 : TX h pr' tr' X') (s : SX' h tr X h' Y) (a : Apart h tr X tr' X') : TX h' pr' tr' X' ∧ Apart h' tr Y tr' X' := by
  have al : ∀ d, d = tr' ∨ d ∈ adr (rws X') → h d ≠ none := fun d hd => by obtain ⟨_, _, e⟩ := T2.t.isIn d hd; rw [e]; simp -dsimp
  refine ⟨⟨s.props T1.t T2.pr, T2.t.frame fun d hd => s.keep d (al d hd) ?_ ?_, T2.g, fun y hy => (T2.pl y hy).step s T1.t, T2.b⟩, ⟨a.tt, a.ta, fun q => ?_, fun d hd q => ?_⟩⟩
  · rcases hd with rfl | hd
    · exact Ne.symm a.tt
    · rintro rfl; exact a.ta hd
  · rcases hd with rfl | hd
    · exact a.at'
    · exact fun q => a.aa d q hd
  · rcases s.new tr' q with q | q
    · exact a.at' q
    · exact al tr' (.inl rfl) q
  · rcases s.new d hd with q2 | q2
    · exact a.aa d q2 q
    · exact al d (.inr q) q2
theorem Apart.symm {h : H} {tr tr' : Nat} {X X' : List AR} (a : Apart h tr X tr' X') : Apart h tr' X' tr X := ⟨Ne.symm a.tt, a.at', a.ta, fun d hd q => a.aa d q hd⟩

/-! the runs -/
theorem runs_go {n dk sc : Nat} {xs : List V} {fin : List V → H → Prop} {live : H → Prop} {step : V → H → (Option V → H → Prop) → Prop} {ρ0 : R} (r89 : ρ0 89 = some (.ref dk)) (lv : ∀ h, live h)
    (hs : ∀ x h k, (bindT [100] false x (ρ0.only [89]) h fun ρ' => vT (CC (n + 3)) iniT (.bool true) ρ' h fun c h => if c = true then vE (CC (n + 3)) iniT (.tup (.cons (.bin .add (.int 1) (.call 43 (.cons (.var 89) (.cons (.int 4) .nil)))) (.cons (.call 44 (.cons (.var 89) .nil)) .nil))) ρ' h (fun y h => k (some y) h) else k none h) → step x h k) :
    ∀ (us acc : List V) (A : Rn) (i : Int) (h : H), DeckAt h dk sc xs i → i + 4 * us.length ≤ 400 → RunsAt h acc A → (∀ acc' A' h', DeckAt h' dk sc xs (i + 4 * us.length) → RunsAt h' acc' A' → A'.length = A.length + us.length → sumR A' ≤ sumR A + 4 * us.length → fin acc' h') → compL live step us acc h fin := by
  intro us
  induction us with
  | nil =>
    intro acc A i h D hi ra k
    exact ⟨lv h, k acc A h (by simpa -dsimp using D) ra (by simp -dsimp) (by simp -dsimp)⟩
  | cons u us ih =>
    intro acc A i h D hi ra k
    refine ⟨lv h, hs _ _ _ ?_⟩
    simp -dsimp only [List.length_cons, Int.natCast_add, Int.natCast_one] at hi
    have q89 : (ρ0.only [89]) 89 = some (.ref dk) := by simp -dsimp [R.only, r89]
    simp -dsimp [bindT, q89]
    refine draw_spec D (by lia) (by lia) fun r h1 r0 r1 D1 x1 => ?_
    simp -dsimp [q89]
    refine lawPlist_spec D1 (by lia) fun p h2 kvs P ok D2 x2 => ?_
    refine ⟨by first | (unfold lim; lia) | exact of_decide_eq_true rfl, fun t ht => ?_⟩
    have x3 := Ext.set ht (.tup [.int (1 + r), p])
    have D3 := D2.keep x3
    -- the runs that stand stay
    have kp : ∀ d o, h d = some o → (∀ j, o ≠ .list [.ref sc, .int j]) → (h2.set t (.tup [.int (1 + r), p])) d = some o := fun d o e ho => by
      have hd := dk_ne D e ho
      have e1 : h1 d = some o := by rw [x1 d hd]; exact e
      have e2 : h2 d = some o := x2.at e1 hd
      exact x3.at e2
    have keepR : ∀ {vs : List V} {B : Rn}, RunsAt h vs B → RunsAt (h2.set t (.tup [.int (1 + r), p])) vs B := fun {vs B} ra => by
      have notD : ∀ (a : Nat) (ys : List V) (kvs : KV), h a = some (.list ys) → TupsAt h ys (kvs.map fun kv => [.int kv.1, kv.2]) → ∀ j, (O.list ys) ≠ .list [.ref sc, .int j] := fun a ys kvs ha ht j e => by
        simp -dsimp only [O.list.injEq] at e
        subst e
        cases kvs with
        | nil => exact ht.elim
        | cons kv kvs => cases kvs with
          | nil => exact ht.2.elim
          | cons kv2 kvs => obtain ⟨c, e, _⟩ := ht.2.1; cases e
      refine ⟨ra.tu.mono fun c y e => kp c _ e (fun j q => by cases q), fun z hz => ?_, ra.ok⟩
      refine e2_3 (ra.pl z hz) fun a ys e ha ht => ?_
      exact ⟨a, ys, e, kp a _ ha (notD a ys z.2.2 ha ht), ht.mono fun c y e => kp c _ e (fun j q => by cases q)⟩
    have ra' : RunsAt (h2.set t (.tup [.int (1 + r), p])) (acc ++ [.ref t]) (A ++ [(1 + r, p, kvs)]) := by
      have ra2 := keepR ra
      refine ⟨?_, fun z hz => ?_, fun z hz => ?_⟩
      · rw [List.map_append]; exact ra2.tu.app ⟨⟨t, rfl, hs_self⟩, trivial⟩
      · rcases List.mem_append.mp hz with q | q
        · exact ra2.pl z q
        · rw [List.mem_singleton.mp q]; exact P.ext x3
      · rcases List.mem_append.mp hz with q | q
        · exact ra.ok z q
        · rw [List.mem_singleton.mp q]; exact ⟨by show 0 < 1 + r; lia, ok⟩
    have D4 : DeckAt (h2.set t (.tup [.int (1 + r), p])) dk sc xs (i + 4) := by rw [show i + 4 = i + 1 + 3 by lia]; exact D3
    refine ih (acc ++ [.ref t]) (A ++ [(1 + r, p, kvs)]) (i + 4) _ D4 (by lia) ra' fun acc' A' h' D' r' e1 e2 => k acc' A' h' ?_ r' ?_ ?_
    · have : i + 4 + 4 * (us.length : Int) = i + 4 * ((u :: us).length : Int) := by simp -dsimp; lia
      rw [← this]; exact D'
    · rw [e1]; simp -dsimp; lia
    · have : sumR (A ++ [(1 + r, p, kvs)]) = sumR A + (1 + r) := by simp -dsimp [sumR]
      simp -dsimp only [List.length_cons, Int.natCast_add, Int.natCast_one]
      lia
theorem many_go {n : Nat} {h : H} {fin : List V → H → Prop} {live : H → Prop} {step : V → H → (Option V → H → Prop) → Prop} {ρ0 : R} (lv : live h)
    (hs : ∀ x k, (bindT [66, 52] true x (ρ0.only []) h fun ρ' => vT (CC n) iniT (.bool true) ρ' h fun c h => if c = true then vE (CC n) iniT (.var 66) ρ' h (fun y h => k (some y) h) else k none h) → step x h k) :
    ∀ (B : Rn) (us acc : List V), TupsAt h us (B.map fun x => [.int x.1, x.2.1]) → (fin (acc ++ B.map fun x => .int x.1) h) → compL live step us acc h fin := by
  intro B
  induction B with
  | nil =>
    intro us acc t k
    cases us with
    | nil => exact ⟨lv, by simpa -dsimp using k⟩
    | cons _ _ => exact t.elim
  | cons kv B ih =>
    intro us acc t k
    cases us with
    | nil => exact t.elim
    | cons u us =>
      obtain ⟨⟨c, rfl, hc⟩, t⟩ := t
      refine ⟨lv, hs _ _ ?_⟩
      simp -dsimp only [bindT, ta_tup hc, ned_some]
      refine ⟨rfl, ?_⟩
      simp -dsimp
      exact ih us (acc ++ [.int kv.1]) t (by simpa -dsimp using k)
theorem intsOf_runs : ∀ B : Rn, intsOf (B.map fun x => .int x.1) = some (B.map (·.1))
  | [] => rfl
  | x :: B => by simp -dsimp [intsOf, intsOf_runs B]
@[simp ↓] theorem x_sum {Φ : CallT} {ini : Nat → Nat} {e : Ex} {ρ : R} {h : H} {Q : V → H → Prop} : vE Φ ini (.sum e) ρ h Q = vE Φ ini e ρ h fun v h => ned (listAt h v) fun xs => ned (intsOf xs) fun ns => xs.length ≤ lim ∧ Q (.int ns.sum) h := rfl
@[simp ↓] theorem x_eqDat {Φ : CallT} {ini : Nat → Nat} {l r : Ex} {ρ : R} {h : H} {Q : V → H → Prop} : vE Φ ini (.eqDat l r) ρ h Q = vE Φ ini l ρ h fun a h => vE Φ ini r ρ h fun b h => ∃ ds, HasD h a (.list ds) ∧ HasD h b (.list ds) ∧ dOk 8 (.list ds) = true ∧ Q (.bool true) h := rfl

/-- the law behind its draws: both orders -/
noncomputable def lw_8 : Sts := (.cons (.expr (.call 46 (.cons (.var 60) (.cons (.tup (.cons (.idx (.var 91) (.int 0)) (.cons (.bin .add (.var 68) (.var 95)) (.cons (.bin .add (.var 76) (.var 95)) (.cons (.idx (.var 91) (.int 3)) .nil))))) .nil))))
  (.cons (.assign 94 (.call 48 (.cons (.var 78) .nil)))
  (.cons (.ret (.and (.cmp .isNot (.var 94) .none) (.eqDat (.var 94) (.call 48 (.cons (.var 60) .nil)))))
  .nil)))
noncomputable def lw_7 : Sts := (.cons (.assign 95 (.ite (.or (.var 96) (.cmp .eq (.var 92) (.int 2))) (.int 0) (.ite (.cmp .eq (.var 92) (.int 0)) (.var 66) (.bin .sub (.int 0) (.var 66))))) lw_8)
noncomputable def lw_6 : Sts := (.cons (.expr (.call 46 (.cons (.var 78) (.cons (.var 91) .nil))))
  (.cons (.expr (.call 47 (.cons (.var 78) (.cons (.var 92) (.cons (.var 67) (.cons (.var 66) (.cons (.var 52) .nil)))))))
  (.cons (.expr (.call 47 (.cons (.var 60) (.cons (.var 92) (.cons (.var 67) (.cons (.var 66) (.cons (.var 52) .nil)))))))
  lw_7)))
theorem law_end {n pr1 tr1 pr2 tr2 dd : Nat} {X1 X2 : List AR} {way0 way b e at9 m : Int} {behind : Bool} {p p2 : V} {kvs kvs2 : KV} {ρ : R} {h : H} {Qn : R → H → Prop} {Qr : V → H → Prop}
    (T1 : TX h pr1 tr1 X1) (T2 : TX h pr2 tr2 X2) (ap : Apart h tr1 X1 tr2 X2) (c1 : chain X1) (c2 : chain X2) (ec : chars X1 = chars X2) (hsum : asum X1 ≤ 500)
    (hd : h dd = some (.tup [.int way0, .int b, .int e, p])) (P : PL h p kvs) (ok : okKs kvs) (P2 : PL h p2 kvs2) (ok2 : okKs kvs2)
    (hb : 0 ≤ b) (hbe : b ≤ e) (he : e ≤ asum X1) (hw : way = 0 ∨ way = 1 ∨ way = 2) (hm : 0 ≤ m) (hm2 : m ≤ 400)
    (h1 : behind = true → e ≤ at9 ∧ at9 ≤ asum X1 ∧ (way ≠ 0 → at9 + m ≤ asum X1)) (h2 : behind = false → 0 ≤ at9 ∧ at9 ≤ b ∧ (way ≠ 0 → at9 + m ≤ b))
    (r78 : ρ 78 = some (.ref pr1)) (r60 : ρ 60 = some (.ref pr2)) (r91 : ρ 91 = some (.ref dd)) (r92 : ρ 92 = some (.int way)) (r96 : ρ 96 = some (.bool behind)) (r67 : ρ 67 = some (.int at9)) (r66 : ρ 66 = some (.int m)) (r52 : ρ 52 = some p2) (r68 : ρ 68 = some (.int b)) (r76 : ρ 76 = some (.int e))
    (k : ∀ h', Qr (.bool true) h') : vB (CC (n + 10)) iniT lw_6 ρ h Qn Qr := by
  have es : asum X2 = asum X1 := by
    have a1 := chars_len T1.g
    have a2 := chars_len T2.g
    rw [ec] at a1; lia
  have hat : 0 ≤ at9 ∧ at9 ≤ asum X1 ∧ (way ≠ 0 → at9 + m ≤ asum X1) := by
    cases behind with
    | true => have := h1 rfl; lia
    | false => have := h2 rfl; lia
  simp -dsimp [lw_6, r78, r91]
  refine lawFirst_spec T1 c1 hd P ok hb hbe he fun g1 Y1 T1a c1a e1a s1a => ?_
  obtain ⟨T2a, apa⟩ := T1.apart T2 s1a ap
  have ds : ∀ {h h' : H} {tr : Nat} {X X' : List AR} {a : Nat} {xs : List V}, SX' h tr X h' X' → Tree h tr (rws X) → h a = some (.tup xs) → h' a = some (.tup xs) := fun s t e => by rw [s.data t (by rw [e]; simp -dsimp) (notIn_tup e)]; exact e
  have Pa := P.step s1a T1.t
  have P2a := P2.step s1a T1.t
  have hda := ds s1a T1.t hd
  have esa : asum Y1 = asum X1 := by
    have a1 := chars_len T1.g
    have a2 := chars_len T1a.g
    rw [e1a, mapR_len] at a2; lia
  simp -dsimp [r78, r92, r67, r66, r52]
  refine lawOther_spec T1a c1a P2a ok2 hat.1 hm (fun _ => by lia) (fun q => by have := hat.2.2 q; lia) fun g2 Y1' T1b c1b e1b s1b => ?_
  obtain ⟨T2b, apb⟩ := T1a.apart T2a s1b apa
  have Pb := Pa.step s1b T1a.t
  have P2b := P2a.step s1b T1a.t
  have hdb := ds s1b T1a.t hda
  simp -dsimp [r60, r92, r67, r66, r52]
  refine lawOther_spec T2b c2 P2b ok2 hat.1 hm (fun _ => by lia) (fun q => by have := hat.2.2 q; lia) fun g3 Y2 T2c c2c e2c s2c => ?_
  obtain ⟨T1c, apc⟩ := T2b.apart T1b s2c apb.symm
  have Pc := Pb.step s2c T2b.t
  have hdc := ds s2c T2b.t hdb
  -- the shift
  have sh : vB (CC (n + 10)) iniT lw_8 (ρ.set 95 (.int (shift behind way m))) g3 Qn Qr → vB (CC (n + 10)) iniT lw_7 ρ g3 Qn Qr := fun hK => by
    cases behind with
    | true => rw [show shift true way m = 0 by simp -dsimp [shift]] at hK; simpa -dsimp [lw_7, r96] using hK
    | false =>
      rcases hw with rfl | rfl | rfl
      · rw [show shift false 0 m = m by simp -dsimp [shift]] at hK; simpa -dsimp [lw_7, r96, r92, r66] using hK
      · rw [show shift false 1 m = 0 - m by simp -dsimp [shift]] at hK; simpa -dsimp [lw_7, r96, r92, r66] using hK
      · rw [show shift false 2 m = 0 by simp -dsimp [shift]] at hK; simpa -dsimp [lw_7, r96, r92, r66] using hK
  rw [nr_none]
  refine sh ?_
  simp -dsimp [lw_8, r60, r91, io_tup hdc, r68, r76]
  refine ⟨by first | lia | (unfold lim; lia) | exact of_decide_eq_true rfl, ?_⟩
  intro t ht
  have x4 := Ext.set ht (.tup [.int way0, .int (b + shift behind way m), .int (e + shift behind way m), p])
  have T1d := T1c.ext x4
  have T2d := T2c.ext x4
  have apd : Apart (g3.set t (.tup [.int way0, .int (b + shift behind way m), .int (e + shift behind way m), p])) tr2 Y2 tr1 Y1' := ⟨apc.tt, apc.ta, apc.at', apc.aa⟩
  -- lengths behind the other deed
  have cm := commute (F := firstF way0 kvs) (cs := chars X1) (kvs := kvs2) (behind := behind) hb hbe (by rw [chars_len T1.g]; exact he) hw hm (fun q => by have := h1 q; rw [chars_len T1.g]; exact this) h2
  have eL : chars Y1' = mapR (firstF way0 kvs) (b + shift behind way m) (e + shift behind way m) (chars Y2) := by rw [e1b, e1a, cm, e2c, ec]
  have hlen : asum Y2 = if way = 0 then asum X1 + m else if way = 1 then asum X1 - m else asum X1 := by
    have a1 := chars_len T2c.g
    have a2 := chars_len T2.g
    rw [e2c] at a1
    unfold otherC at a1
    rcases hw with rfl | rfl | rfl
    · simp -dsimp only [if_true, List.length_append, List.length_take, List.length_drop, List.length_replicate] at a1 ⊢
      omega
    · simp -dsimp only [List.length_append, List.length_take, List.length_drop] at a1 ⊢
      have := hat.2.2 (by decide)
      simp -dsimp at a1 ⊢
      lia
    · simp -dsimp [mapR_len] at a1 ⊢
      lia
  have hshift : 0 ≤ b + shift behind way m ∧ e + shift behind way m ≤ asum Y2 := by
    rw [hlen]
    unfold shift
    cases behind with
    | true => have := h1 rfl; rcases hw with rfl | rfl | rfl <;> simp -dsimp <;> lia
    | false => have := h2 rfl; rcases hw with rfl | rfl | rfl <;> simp -dsimp <;> lia
  refine lawFirst_spec T2d c2c hs_self (Pc.ext x4) ok hshift.1 (by lia) hshift.2 fun g5 Y2' T2e c2e e2e s2e => ?_
  obtain ⟨T1e, ape⟩ := T2d.apart T1d s2e apd
  simp -dsimp [r78, r60]
  refine lawShown_spec T1e fun l1 g6 x6 H1 => ?_
  simp -dsimp [r60]
  have T2f := T2e.ext x6
  refine lawShown_spec T2f fun l2 g7 x7 H2 => ?_
  have eop : op Y1' = op Y2' := chain_unique T1e.g T2e.g c1b c2e (by rw [eL, e2e])
  refine ⟨shD 0 (op Y1'), HasD.ext x7 H1, by rw [eop]; exact H2, ?_, k g7⟩
  have := shD_ok (b := 0) T1e.g
  simpa -dsimp [dOk] using this
end Mine

namespace Mine
open PySem

theorem refs_not {h : H} {ys : List V} {L : List (List V)} (t : TupsAt h ys L) (sc : Nat) : ∀ j, (O.list ys) ≠ .list [.ref sc, .int j] := fun j e => by
  simp -dsimp only [O.list.injEq] at e
  subst e
  match L, t with
  | [], t => exact t.elim
  | [_], t => exact t.2.elim
  | _ :: _ :: _, t => obtain ⟨c, e, _⟩ := t.2.1; cases e
section
variable {h h' : H} {dk sc : Nat} {xs : List V} {i : Int}
theorem ExtD.tup {a : Nat} {y : List V} (x : ExtD dk h h') (D : DeckAt h dk sc xs i) (e : h a = some (.tup y)) : h' a = some (.tup y) := x.at e (dk_ne D e fun j q => by cases q)
theorem PL.d {p : V} {kvs : KV} (P : PL h p kvs) (D : DeckAt h dk sc xs i) (x : ExtD dk h h') : PL h' p kvs := by
  refine e2_3 P fun a ys e ha ht => ?_
  clear P
  exact ⟨a, ys, e, x.at ha (dk_ne D ha (refs_not ht sc)), ht.mono fun c y e => x.tup D e⟩
theorem RunsAt.d {us : List V} {B : Rn} (r : RunsAt h us B) (D : DeckAt h dk sc xs i) (x : ExtD dk h h') : RunsAt h' us B :=
  ⟨r.tu.mono fun c y e => x.tup D e, fun z hz => (r.pl z hz).d D x, r.ok⟩
end
/-- the runs stand -/
structure RS (h : H) (dk sc : Nat) (xs : List V) (i : Int) (rl : Nat) (us : List V) (B : Rn) : Prop where
  D : DeckAt h dk sc xs i
  l : h rl = some (.list us)
  r : RunsAt h us B
  s : sumR B ≤ 12
  p : 0 < sumR B
theorem RS.d {h h' : H} {dk sc : Nat} {xs : List V} {i i' : Int} {rl : Nat} {us : List V} {B : Rn} (R : RS h dk sc xs i rl us B) (D' : DeckAt h' dk sc xs i') (x : ExtD dk h h') : RS h' dk sc xs i' rl us B :=
  ⟨D', x.at R.l (dk_ne R.D R.l (refs_not R.r.tu sc)), R.r.d R.D x, R.s, R.p⟩
theorem RS.ext {h h' : H} {dk sc : Nat} {xs : List V} {i : Int} {rl : Nat} {us : List V} {B : Rn} (R : RS h dk sc xs i rl us B) (x : Ext h h') : RS h' dk sc xs i rl us B := R.d (R.D.keep x) x.d

noncomputable def lw_5 : Sts := (.cons (.assignT [78, 60] (.tup (.cons (.call 45 (.cons (.var 90) .nil)) (.cons (.call 45 (.cons (.var 90) .nil)) .nil)))) lw_6)
noncomputable def lw_4 : Sts := (.cons (.assign 67 (.bin .add (.var 98) (.call 43 (.cons (.var 89) (.cons (.bin .add (.bin .sub (.var 97) (.var 98)) (.int 1)) .nil)))))
  (.cons (.assign 66 (.ite (.cmp .eq (.var 92) (.int 0)) (.bin .add (.int 1) (.call 43 (.cons (.var 89) (.cons (.int 3) .nil)))) (.call 43 (.cons (.var 89) (.cons (.bin .add (.bin .sub (.var 97) (.var 67)) (.int 1)) .nil)))))
  (.cons (.assign 52 (.call 44 (.cons (.var 89) .nil))) lw_5)))
noncomputable def lw_3 : Sts := (.cons (.assignT [92, 96] (.tup (.cons (.call 43 (.cons (.var 89) (.cons (.int 3) .nil))) (.cons (.cmp .eq (.call 43 (.cons (.var 89) (.cons (.int 2) .nil))) (.int 1)) .nil))))
  (.cons (.assignT [98, 97] (.ite (.var 96) (.tup (.cons (.var 76) (.cons (.var 99) .nil))) (.tup (.cons (.int 0) (.cons (.var 68) .nil))))) lw_4))
noncomputable def lw_2 : Sts := (.cons (.assign 68 (.call 43 (.cons (.var 89) (.cons (.bin .add (.var 99) (.int 1)) .nil))))
  (.cons (.assign 76 (.bin .add (.var 68) (.call 43 (.cons (.var 89) (.cons (.bin .add (.bin .sub (.var 99) (.var 68)) (.int 1)) .nil)))))
  (.cons (.assign 91 (.tup (.cons (.call 43 (.cons (.var 89) (.cons (.int 4) .nil))) (.cons (.var 68) (.cons (.var 76) (.cons (.call 44 (.cons (.var 89) .nil)) .nil)))))) lw_3)))
noncomputable def lw_1 : Sts := (.cons (.assign 90 (.comp (.tup (.cons (.bin .add (.int 1) (.call 43 (.cons (.var 89) (.cons (.int 4) .nil)))) (.cons (.call 44 (.cons (.var 89) .nil)) .nil))) [100] false [89] true (.bin .add (.int 1) (.call 43 (.cons (.var 89) (.cons (.int 3) .nil)))) (.bool true)))
  (.cons (.assign 99 (.sum (.comp (.var 66) [66, 52] true [] false (.var 90) (.bool true)))) lw_2))
noncomputable def lawTail : Sts := match b_law with
  | .cons _ r => r
  | .nil => .nil
theorem lawTail_eq : lawTail = lw_1 := rfl

section
variable {n dk sc : Nat} {xs : List V} {Qr : V → H → Prop}
theorem law_5 {h : H} {ρ : R} {i : Int} {rl dd : Nat} {us : List V} {B : Rn} {way0 way b e at9 m : Int} {behind : Bool} {p p2 : V} {kvs kvs2 : KV} (R : RS h dk sc xs i rl us B)
    (hd : h dd = some (.tup [.int way0, .int b, .int e, p])) (P : PL h p kvs) (ok : okKs kvs) (P2 : PL h p2 kvs2) (ok2 : okKs kvs2)
    (hb : 0 ≤ b) (hbe : b ≤ e) (he : e ≤ sumR B) (hw : way = 0 ∨ way = 1 ∨ way = 2) (hm : 0 ≤ m) (hm2 : m ≤ 400)
    (h1 : behind = true → e ≤ at9 ∧ at9 ≤ sumR B ∧ (way ≠ 0 → at9 + m ≤ sumR B)) (h2 : behind = false → 0 ≤ at9 ∧ at9 ≤ b ∧ (way ≠ 0 → at9 + m ≤ b))
    (r90 : ρ 90 = some (.ref rl)) (r91 : ρ 91 = some (.ref dd)) (r92 : ρ 92 = some (.int way)) (r96 : ρ 96 = some (.bool behind)) (r67 : ρ 67 = some (.int at9)) (r66 : ρ 66 = some (.int m)) (r52 : ρ 52 = some p2) (r68 : ρ 68 = some (.int b)) (r76 : ρ 76 = some (.int e))
    (k : ∀ h', Qr (.bool true) h') : vB (CC (n + 10)) iniT lw_5 ρ h (fun _ _ => False) Qr := by
  simp -dsimp [lw_5, r90]
  refine lawProps_spec (n := n + 1) R.l R.r (by have := R.s; lia) fun pr1 tr1 X1 g1 T1 c1 e1 b1 hp1 => ?_
  have x1 : Ext h g1 := b1.keep
  have R1 := R.ext x1
  simp -dsimp [r90]
  refine lawProps_spec (n := n + 1) R1.l R1.r (by have := R.s; lia) fun pr2 tr2 X2 g2 T2 c2 e2 b2 hp2 => ?_
  have x2 : Ext g1 g2 := b2.keep
  have T1' := T1.ext x2
  refine ⟨by first | lia | (unfold lim; lia) | exact of_decide_eq_true rfl, fun t ht => ?_⟩
  have x3 := Ext.set ht (.tup [.ref pr1, .ref pr2])
  have T1'' := T1'.ext x3
  have T2'' := T2.ext x3
  have al : ∀ d, d = tr1 ∨ d ∈ adr (rws X1) → g1 d ≠ none := fun d hd => by obtain ⟨_, _, e⟩ := T1.t.isIn d hd; rw [e]; simp -dsimp
  have ap : Apart (g2.set t (.tup [.ref pr1, .ref pr2])) tr1 X1 tr2 X2 := ⟨fun q => al tr1 (.inl rfl) (by rw [q]; exact b2.tr), fun q => al tr1 (.inl rfl) (b2.ad _ q), fun q => al tr2 (.inr q) b2.tr, fun d hd q => al d (.inr hd) (b2.ad d q)⟩
  have xa := (x1.trans x2).trans x3
  have es : asum X1 = sumR B := by
    have a1 := chars_len T1.g
    rw [e1] at a1
    have : ∀ {us : List V} {B : Rn}, RunsAt h us B → ((charsR B).length : Int) = sumR B := by
      intro us B
      induction B generalizing us with
      | nil => intro _; rfl
      | cons x B ih =>
        intro r
        cases us with
        | nil => exact r.tu.elim
        | cons u us =>
          have := ih r.tail
          have := (r.ok x (by simp -dsimp)).1
          simp -dsimp; lia
    have := this R.r
    lia
  simp -dsimp
  exact law_end (n := n) T1'' T2'' ap c1 c2 (by rw [e1, e2]) (by rw [es]; have := R.s; lia) (xa.at hd) (P.ext xa) ok (P2.ext xa) ok2 hb hbe (by rw [es]; exact he) hw hm hm2 (by rw [es]; exact h1) h2 (by simp -dsimp) (by simp -dsimp) (by simp -dsimp [r91]) (by simp -dsimp [r92]) (by simp -dsimp [r96]) (by simp -dsimp [r67]) (by simp -dsimp [r66]) (by simp -dsimp [r52]) (by simp -dsimp [r68]) (by simp -dsimp [r76]) k
theorem law_4 {h : H} {ρ : R} {i : Int} {rl dd : Nat} {us : List V} {B : Rn} {way0 way b e lo hi : Int} {behind : Bool} {p : V} {kvs : KV} (R : RS h dk sc xs i rl us B) (hi9 : i ≤ 100)
    (hd : h dd = some (.tup [.int way0, .int b, .int e, p])) (P : PL h p kvs) (ok : okKs kvs)
    (hb : 0 ≤ b) (hbe : b ≤ e) (he : e ≤ sumR B) (hw : way = 0 ∨ way = 1 ∨ way = 2)
    (h1 : behind = true → lo = e ∧ hi = sumR B) (h2 : behind = false → lo = 0 ∧ hi = b)
    (r89 : ρ 89 = some (.ref dk)) (r90 : ρ 90 = some (.ref rl)) (r91 : ρ 91 = some (.ref dd)) (r92 : ρ 92 = some (.int way)) (r96 : ρ 96 = some (.bool behind)) (r98 : ρ 98 = some (.int lo)) (r97 : ρ 97 = some (.int hi)) (r68 : ρ 68 = some (.int b)) (r76 : ρ 76 = some (.int e))
    (k : ∀ h', Qr (.bool true) h') : vB (CC (n + 10)) iniT lw_4 ρ h (fun _ _ => False) Qr := by
  have hlh : 0 ≤ lo ∧ lo ≤ hi ∧ hi ≤ sumR B := by
    cases behind with
    | true => have := h1 rfl; lia
    | false => have := h2 rfl; lia
  have hs := R.s
  simp -dsimp [lw_4, r98, r89, r97]
  refine draw_spec R.D (by lia) (by lia) fun r g1 r0 r1 D1 x1 => ?_
  have x1' : ExtD dk h g1 := fun d _ hd => x1 d hd
  have R1 := R.d D1 x1'
  have hd1 := x1'.tup R.D hd
  have P1 := P.d R.D x1'
  -- behind the second draw
  have fin : ∀ (m : Int) (g2 : H) (j : Int), j ≤ 110 → DeckAt g2 dk sc xs j → ExtD dk g1 g2 → 0 ≤ m → m ≤ 400 → (way ≠ 0 → lo + r + m ≤ hi) →
      CC (n + 10) 44 [.ref dk] g2 (fun v h => vB (CC (n + 10)) iniT lw_5 (((ρ.set 67 (.int (lo + r))).set 66 (.int m)).set 52 v) h (fun _ _ => False) Qr) := by
    intro m g2 j hj D2 x2 hm hm2 hmw
    refine lawPlist_spec (n := n + 8) D2 (by lia) fun p2 g3 kvs2 P2 ok2 D3 x3 => ?_
    have R3 := (R1.d D2 x2).d D3 x3
    have hd3 := x3.tup D2 (x2.tup D1 hd1)
    have P3 := (P1.d D1 x2).d D2 x3
    refine law_5 R3 hd3 P3 ok P2 ok2 hb hbe he hw hm hm2 (at9 := lo + r) (behind := behind) (fun q => ?_) (fun q => ?_) (by simp -dsimp [r90]) (by simp -dsimp [r91]) (by simp -dsimp [r92]) (by simp -dsimp [r96]) (by simp -dsimp) (by simp -dsimp) (by simp -dsimp) (by simp -dsimp [r68]) (by simp -dsimp [r76]) k
    · have := h1 q
      exact ⟨by lia, by lia, fun w => by have := hmw w; lia⟩
    · have := h2 q
      exact ⟨by lia, by lia, fun w => by have := hmw w; lia⟩
  by_cases w0 : way = 0
  · simp -dsimp [r92, w0, r89]
    refine draw_spec D1 (by lia) (by lia) fun r2 g2 r20 r21 D2 x2 => ?_
    have := fin (1 + r2) g2 _ (by lia) D2 (fun d _ hd => x2 d hd) (by lia) (by lia) (fun q => absurd w0 q)
    simp -dsimp [r89]
    exact this
  · simp -dsimp [r92, w0, r89, r97]
    refine draw_spec D1 (by lia) (by lia) fun r2 g2 r20 r21 D2 x2 => ?_
    have := fin r2 g2 _ (by lia) D2 (fun d _ hd => x2 d hd) (by omega) (by lia) (fun q => by lia)
    simp -dsimp [r89]
    exact this
theorem law_3 {h : H} {ρ : R} {i : Int} {rl dd : Nat} {us : List V} {B : Rn} {way0 b e : Int} {p : V} {kvs : KV} (R : RS h dk sc xs i rl us B) (hi9 : i ≤ 90)
    (hd : h dd = some (.tup [.int way0, .int b, .int e, p])) (P : PL h p kvs) (ok : okKs kvs) (hb : 0 ≤ b) (hbe : b ≤ e) (he : e ≤ sumR B)
    (r89 : ρ 89 = some (.ref dk)) (r90 : ρ 90 = some (.ref rl)) (r91 : ρ 91 = some (.ref dd)) (r99 : ρ 99 = some (.int (sumR B))) (r68 : ρ 68 = some (.int b)) (r76 : ρ 76 = some (.int e))
    (k : ∀ h', Qr (.bool true) h') : vB (CC (n + 10)) iniT lw_3 ρ h (fun _ _ => False) Qr := by
  simp -dsimp [lw_3, r89]
  refine draw_spec R.D (by lia) (by lia) fun r g1 r0 r1 D1 x1 => ?_
  have x1' : ExtD dk h g1 := fun d _ hd => x1 d hd
  simp -dsimp [r89]
  refine draw_spec D1 (by lia) (by lia) fun r2 g2 r20 r21 D2 x2 => ?_
  have x2' : ExtD dk g1 g2 := fun d _ hd => x2 d hd
  have R2 := (R.d D1 x1').d D2 x2'
  have hd2 := x2'.tup D1 (x1'.tup R.D hd)
  have P2 := (P.d R.D x1').d D1 x2'
  simp -dsimp
  refine ⟨by first | (unfold lim; lia) | exact of_decide_eq_true rfl, fun t ht => ?_⟩
  have x3 := Ext.set ht (.tup [.int r, .bool (decide (r2 = 1))])
  have R3 := R2.ext x3
  simp -dsimp
  have hw : r = 0 ∨ r = 1 ∨ r = 2 := by lia
  by_cases c : r2 = 1
  · simp -dsimp [c, r76, r99]
    refine ⟨by first | (unfold lim; lia) | exact of_decide_eq_true rfl, fun t2 ht2 => ?_⟩
    have x4 := Ext.set ht2 (.tup [.int e, .int (sumR B)])
    simp -dsimp [c] at x3 x4 R3 ⊢
    refine law_4 (R3.ext x4) (by lia) (x4.at (x3.at hd2)) ((P2.ext x3).ext x4) ok hb hbe he hw (behind := true) (lo := e) (hi := sumR B) (fun _ => ⟨rfl, rfl⟩) (fun q => nomatch q) (by simp -dsimp [r89]) (by simp -dsimp [r90]) (by simp -dsimp [r91]) (by simp -dsimp [c]) (by simp -dsimp [c]) (by simp -dsimp [c]) (by simp -dsimp [c]) (by simp -dsimp [r68]) (by simp -dsimp [r76]) k
  · simp -dsimp [c, r68]
    refine ⟨by first | (unfold lim; lia) | exact of_decide_eq_true rfl, fun t2 ht2 => ?_⟩
    have x4 := Ext.set ht2 (.tup [.int 0, .int b])
    simp -dsimp [c] at x3 x4 R3 ⊢
    refine law_4 (R3.ext x4) (by lia) (x4.at (x3.at hd2)) ((P2.ext x3).ext x4) ok hb hbe he hw (behind := false) (lo := 0) (hi := b) (fun q => nomatch q) (fun _ => ⟨rfl, rfl⟩) (by simp -dsimp [r89]) (by simp -dsimp [r90]) (by simp -dsimp [r91]) (by simp -dsimp [c]) (by simp -dsimp [c]) (by simp -dsimp [c]) (by simp -dsimp [c]) (by simp -dsimp [r68]) (by simp -dsimp [r76]) k
theorem law_2 {h : H} {ρ : R} {i : Int} {rl : Nat} {us : List V} {B : Rn} (R : RS h dk sc xs i rl us B) (hi9 : i ≤ 80)
    (r89 : ρ 89 = some (.ref dk)) (r90 : ρ 90 = some (.ref rl)) (r99 : ρ 99 = some (.int (sumR B)))
    (k : ∀ h', Qr (.bool true) h') : vB (CC (n + 10)) iniT lw_2 ρ h (fun _ _ => False) Qr := by
  have hp := R.p
  simp -dsimp [lw_2, r89, r99]
  refine draw_spec R.D (by lia) (by lia) fun b g1 b0 b1 D1 x1 => ?_
  have x1' : ExtD dk h g1 := fun d _ hd => x1 d hd
  simp -dsimp [r89, r99]
  refine draw_spec D1 (by lia) (by lia) fun r g2 r0 r1 D2 x2 => ?_
  have x2' : ExtD dk g1 g2 := fun d _ hd => x2 d hd
  simp -dsimp [r89]
  refine draw_spec D2 (by lia) (by lia) fun w g3 w0 w1 D3 x3 => ?_
  have x3' : ExtD dk g2 g3 := fun d _ hd => x3 d hd
  simp -dsimp [r89]
  refine lawPlist_spec (n := n + 8) D3 (by lia) fun p g4 kvs P4 ok D4 x4 => ?_
  have R4 := (((R.d D1 x1').d D2 x2').d D3 x3').d D4 x4
  refine ⟨by first | (unfold lim; lia) | exact of_decide_eq_true rfl, fun t ht => ?_⟩
  have x5 := Ext.set ht (.tup [.int w, .int b, .int (b + r), p])
  refine law_3 (R4.ext x5) (by lia) hs_self (P4.ext x5) ok b0 (by lia) (by lia) (by simp -dsimp [r89]) (by simp -dsimp [r90]) (by simp -dsimp) (by simp -dsimp [r99]) (by simp -dsimp) (by simp -dsimp) k
theorem law_1 {h : H} {ρ : R} (D : DeckAt h dk sc xs 0) (r89 : ρ 89 = some (.ref dk)) (k : ∀ h', Qr (.bool true) h') : vB (CC (n + 10)) iniT lawTail ρ h (fun _ _ => False) Qr := by
  rw [lawTail_eq]
  simp -dsimp only [lw_1, b_cons, s_assign, x_comp]
  refine ⟨by simp -dsimp [r89], ?_⟩
  simp -dsimp only [x_bin, x_int, x_call, xs_cons, xs_nil, x_var, r89, ned_some]
  refine draw_spec D (by lia) (by lia) fun r g1 r0 r1 D1 x1 => ?_
  simp -dsimp only [bi_add]
  have e9 : srcItems true g1 (.int (1 + r)) = some ((List.range (1 + r).toNat).map fun i => V.int (i : Nat)) := by
    simp -dsimp only [srcItems, io_int, Option.bind_some]
    rw [if_pos (by lia)]
  rw [e9, ned_some]
  have hlen : ((List.range (1 + r).toNat).map fun i => V.int (i : Nat)).length = (1 + r).toNat := by simp -dsimp
  refine ⟨by rw [hlen]; unfold lim; lia, ?_⟩
  refine runs_go (n := n + 7) (ρ0 := ρ) (live := sameAt (.int (1 + r)) g1) r89 (fun _ => trivial) (fun x h k q => q) _ [] [] _ g1 D1 (by rw [hlen]; lia) ⟨trivial, fun _ h => (nomatch h), fun _ h => (nomatch h)⟩ fun acc A g2 D2 ra eA sA => ?_
  rw [hlen] at D2 eA sA
  intro rl hrl
  have x3 := Ext.set hrl (.list acc)
  have ra3 := ra.ext x3
  have D3 := D2.keep x3
  have hnn := sumR_nn ra
  have hl : acc.length = A.length := by rw [ra.tu.len, List.length_map]
  simp -dsimp only [List.length_nil, Nat.zero_add, sumR_nil, Int.zero_add] at eA sA
  have hlen3 : A.length ≤ 3 := by lia
  have R3 : RS (g2.set rl (.list acc)) dk sc xs (0 + 1 + 4 * ((1 + r).toNat : Int)) rl acc A := ⟨D3, hs_self, ra3, by lia, by lia⟩
  simp -dsimp only [b_cons, s_assign, x_sum, x_comp]
  refine ⟨by simp -dsimp, ?_⟩
  simp -dsimp only [x_var]
  simp -dsimp only [srcItems, io_list hs_self, ned_some]
  refine ⟨by first | lia | (unfold lim; lia) | exact of_decide_eq_true rfl, ?_⟩
  refine many_go (n := n + 10) (ρ0 := ρ.set 90 (.ref rl)) (live := sameAt (.ref rl) (g2.set rl (.list acc))) rfl (fun x k q => q) A acc [] ra3.tu ?_
  intro q hq
  have x4 := Ext.set hq (.list ([] ++ A.map fun x => V.int x.1))
  simp -dsimp only [la_list hs_self, ned_some, List.nil_append, intsOf_runs]
  refine ⟨by simp -dsimp; first | lia | (unfold lim; lia), ?_⟩
  exact law_2 (R3.ext x4) (by lia) (by simp -dsimp [r89]) (by simp -dsimp) (by simp -dsimp [sumR]) k
end
end Mine

namespace Mine
open PySem PySem.W PySem.Calls PyProof.Rows

section
variable {prog : Program} {w : World} {A : Around} {E : Value → Shared → Prop} {K : Frag} {h₀ : Heap} {L : Addr} {X : List (Addr × Obj)} {m : Str → Option Value} {h : H} {s : Shared} {Q : V → H → Prop}
/-- a slice of a list that is none of ours -/
theorem slice_L {value slice : Expr} {a : Addr} {vs : List Value} {vl vu : Value} {lo hi : Option Int} {xs ys : List V} (S : At K h₀ L X m h s.heap) (hl : s.heap.IsList a vs.toArray) (hv : vs.map ab = xs.map some) (pl : IsPart vl lo) (pu : IsPart vu hi) (hz : xs.length ≤ lim)
    (hp : ∀ vs : List Value, vs.map ab = xs.map some → ∃ us : List Value, slicePick vs.toArray lo hi none = us.toArray ∧ us.map ab = ys.map some) (q : newO h (.list ys) Q)
    (hs : ∀ r, subscripted slice false (.ref a) (.ref r) = operate [.ref r, .ref a] (getItem (.ref a) (.ref r))) :
    wpAny (model prog w) A (subscriptTail value slice (.ref a) (.ref s.heap.objs.size)) (Post K h₀ L X m s Q) E { s with heap := s.heap.push { cls := .type "slice", data := .fields #[vl, vu, .none] } } := by
  refine e2_3 S.led fun led D N nd R => ?_
  refine e1_2 (hp vs hv) fun us hu hau => ?_
  have hlen := ab_len hv
  refine tail_any (ops := [.ref s.heap.objs.size, .ref a]) (Heap.IsList.typeIs (s := { s with heap := s.heap.push { cls := .type "slice", data := .fields #[vl, vu, .none] } }) (hl.push _)) slot_list_getitem.lookup
    (wpAny_getItem_list_slice (hl.push _) (Heap.IsSliceOf.new ..) pl pu .none (by simp) ?_ (by rw [List.size_toArray, hlen, sizeLine_eq]; unfold lim at hz; lia)) (hs _)
  have N1 := News.push (S.fr.push { cls := .type "slice", data := .fields #[vl, vu, .none] }) (N.grown fun _ _ e => Heap.get?_push_of_some _ e) { cls := .type "list", data := .seq us.toArray }
  rw [Heap.size_push] at N1
  rw [hu]
  show Post K h₀ L X m s Q (.ref (s.heap.push _).objs.size) _
  rw [Heap.size_push]
  have hlt : ∀ p ∈ X ++ led, p.1 < s.heap.objs.size + 1 := fun p hp => Nat.lt_succ_of_lt (Heap.lt_size (N p hp).1)
  exact Post.intro rfl ⟨S.cx, (S.fr.push _).push _, _, D, news_perm N1, nd_add nd hlt, R.add (o := .list ys) (fun z => z) ⟨us, 0, List.mem_singleton.mpr rfl, hau⟩⟩ (q _ (S.fresh_ge (Nat.le_succ _)))
end

theorem ab_of_ints {vs : List Value} {ns : List Int} (h : IntsAre vs ns) : vs.map ab = (ns.map V.int).map some := by
  induction h with
  | nil => rfl
  | cons n t _ ih => simp only [List.map_cons, ab, ih]
theorem ints_of_map : ∀ ns : List Int, intsOf (ns.map V.int) = some ns
  | [] => rfl
  | n :: ns => by simp [intsOf, ints_of_map ns]

/-- the form of the law's text -/
noncomputable def okSrc : EB := vSub fun v s => kVar 93 v && vSli (fun a b c => oN a && (oN c && oS (kInt 63) b)) s
noncomputable def okCmp (sc : Scope) : EB := vCom fun elt' gs csc _ => okComp sc csc [] && (okE (.abs (.var 101)) (relab sc csc) elt' && l1 (kGen (okT (relab sc csc) false [101]) l0 okSrc) gs)
noncomputable def okDeck (sc : Scope) (t v : PySem.Expr) : Bool := kVar 89 t && vList (l2 fun a b => okCmp sc a && kInt 0 b) v
noncomputable def okLaw (sc : Scope) : List PySem.Stmt → Bool := lc fun s rest => wAss (fun ts v => l1 (fun t => okDeck sc t v) ts) s && (okB lawTail sc rest && noWs lawTail)
@[elab_as_elim] theorem okSrc_el {P : PySem.Expr → Prop} {e : PySem.Expr} (h : okSrc e = true) (kk : ∀ sp kc cp slp p, P (.Subscript (.Name (nm 93) sp) (.Slice none (some (.Constant (.int 63) kc cp)) none slp) p)) : P e :=
  vSub_el h fun v _ p h => kVar_el (P := fun v => P (.Subscript v _ p)) (a1 h) fun sp => vSli_el (P := fun s => P (.Subscript (.Name (nm 93) sp) s p)) (a2 h) fun _ b c slp h => oN_el (P := fun a => P (.Subscript (.Name (nm 93) sp) (.Slice a b c slp) p)) (a1 h) (oN_el (P := fun c => P (.Subscript (.Name (nm 93) sp) (.Slice none b c slp) p)) (a1 (a2 h))
    (oS_el (P := fun b => P (.Subscript (.Name (nm 93) sp) (.Slice none b none slp) p)) (a2 (a2 h)) fun u h => kInt_el (P := fun u => P (.Subscript (.Name (nm 93) sp) (.Slice none (some u) none slp) p)) h fun kc cp => kk sp kc cp slp p))
@[elab_as_elim] theorem okCmp_el {P : PySem.Expr → Prop} {e : PySem.Expr} {sc : Scope} (h : okCmp sc e = true) (kk : ∀ a t i csc p, okComp sc csc [] = true → okE (.abs (.var 101)) (relab sc csc) a = true → okT (relab sc csc) false [101] t = true → okSrc i = true → P (.ListComp a [⟨t, i, [], 0⟩] csc p)) : P e :=
  vCom_el h fun a _ csc p h => l1_el (P := fun gs => P (.ListComp a gs csc p)) (a2 (a2 h)) fun _ h' => kGen_el (P := fun g => P (.ListComp a [g] csc p)) h' fun t i _ h1 h2 h3 => l0_el (P := fun c => P (.ListComp a [⟨t, i, c, 0⟩] csc p)) h2 (kk a t i csc p (a1 h) (a1 (a2 h)) h1 h3)
@[elab_as_elim] theorem okDeck_el {P : List PySem.Stmt → Prop} {l : List PySem.Stmt} {sc : Scope} (h : okLaw sc l = true) (kk : ∀ np c kz zp lp p rest, okCmp sc c = true → okB lawTail sc rest = true → noWs lawTail = true → P (.Assign [.Name (nm 89) np] (.List [c, .Constant (.int 0) kz zp] lp) p :: rest)) : P l :=
  lc_el h fun _ rest h => wAss_el (P := fun s => P (s :: rest)) (a1 h) fun _ v p h' => l1_el (P := fun ts => P (.Assign ts v p :: rest)) h' fun _ h' => kVar_el (P := fun t => P (.Assign [t] v p :: rest)) (a1 h') fun np => vList_el (P := fun v => P (.Assign [.Name (nm 89) np] v p :: rest)) (a2 h') fun _ lp h' =>
    l2_el (P := fun l => P (.Assign [.Name (nm 89) np] (.List l lp) p :: rest)) h' fun c _ h' => kInt_el (P := fun b => P (.Assign [.Name (nm 89) np] (.List [c, b] lp) p :: rest)) (a2 h') fun kz zp => kk np c kz zp lp p rest (a1 h') (a1 (a2 h)) (a2 (a2 h))

theorem abs_go {n : Nat} {h : H} {fin : List V → H → Prop} {live : H → Prop} {step : V → H → (Option V → H → Prop) → Prop} {ρ0 : R} (lv : live h)
    (hs : ∀ x k, (bindT [101] false x (ρ0.only []) h fun ρ' => wpT (CC n) iniT (.bool true) ρ' h fun c h => if c = true then wpE (CC n) iniT (.abs (.var 101)) ρ' h (fun y h => k (some y) h) else k none h) → step x h k) :
    ∀ (ns ms : List Int), (∀ ms' : List Int, ms'.length = ms.length + ns.length → fin (ms'.map V.int) h) → compL live step (ns.map V.int) (ms.map V.int) h fin := by
  intro ns
  induction ns with
  | nil => intro ms k; exact ⟨lv, k ms (by simp)⟩
  | cons x ns ih =>
    intro ms k
    refine ⟨lv, hs _ _ ?_⟩
    show compL live step (ns.map V.int) (ms.map V.int ++ [V.int x.natAbs]) h fin
    have := ih (ms ++ [(x.natAbs : Int)]) fun ms' e => k ms' (by rw [e]; simp; lia)
    simpa using this

section
variable {prog : Program} {w : World} {K : Frag}
theorem law_S {env : Env} {body : List PySem.Stmt} {h₀ : Heap} {L c l : Addr} {co : Obj} {v0 : Option Value} {m : Str → Option Value} {s : Shared} {A : Around} {E : Value → Shared → Prop} {vs : List Value} {ns : List Int}
    (hK : KOk K) (hF : allFn K = true) (cx : Cx K h₀) (F : Fr h₀ L s.heap m) (N : News h₀ L s.heap [(c, co)]) (hco : co.data = .cell v0) (O : EnvOk env L) (hcell : env.cells.lookup (nm 89) = some c) (hk89 : env.kindOf (nm 89) = some .cell) (hk93 : env.kindOf (nm 93) = some .local)
    (hm : m (nm 93) = some (.ref l)) (hl : s.heap.IsList l vs.toArray) (hI : IntsAre vs ns) (hlen : ns.length ≤ 63) (rm : Room A 30) (ok : okLaw env.scope body = true) :
    wpAny (model prog w) A (execs body env) (fun f s' => f = .ret (.bool true) ∧ Rest s s' ∧ ∃ m', Fr h₀ L s'.heap m') E s := by
  have hΦ : CallSnd prog w K (CC 10) 20 := by rw [CC_eq]; exact Call_S hK (fnOk_of hF) 10
  have rm' : Room A (20 + 1) := rm.mono (by lia)
  refine okDeck_el ok fun np cm kz zp lp pos rest k1 k2 k3 => ?_
  refine okCmp_el (P := fun cm => wpAny _ _ (execs (.Assign [.Name (nm 89) np] (.List [cm, .Constant (.int 0) kz zp] lp) pos :: rest) env) _ _ _) k1 fun elt' target iter csc cp q3 q5 q4 q6 => ?_
  refine okSrc_el (P := fun iter => wpAny _ _ (execs (.Assign [.Name (nm 89) np] (.List [.ListComp elt' [⟨target, iter, [], 0⟩] csc cp, .Constant (.int 0) kz zp] lp) pos :: rest) env) _ _ _) q6 fun sp kc cpos slp subp => ?_
  · · skip
      have S0 : At K h₀ L [(c, co)] m (fun _ => none) s.heap := ⟨cx, F, [], fun _ => 0, N, by simp, ⟨fun a b ha => ha.elim, fun a o e => nomatch e⟩⟩
      have lo0 : Loc env m [(c, co)] R.empty := fun x v e => nomatch e
      have hxs := ab_of_ints hI
      have hvl : vs.length = ns.length := by have := ab_len hxs; simpa using this
      -- script[:63]
      have src : ∀ {Q : V → H → Prop} {E : Value → Shared → Prop}, newO (fun _ => none) (.list (ns.map V.int)) Q → wpAny (model prog w) A (eval (.Subscript (.Name (nm 93) sp) (.Slice none (some (.Constant (.int 63) kc cpos)) none slp) subp) env) (Post K h₀ L [(c, co)] m s Q) E s := fun {Q E} q => by
        refine Subscript_ (wpAny_Name (wpAny_loadName_local O.kind hk93 (O.loc ▸ F.ns) hm ?_) (nm_debug 93 (by decide)).1)
        refine wpAny_Slice (wpAny_pure ?_)
        rw [evalPart_some]
        refine wpAny_Constant_int (wpAny_pure ?_)
        refine wpAny_mono (slice_L (s := { s with toks := _ }) S0 hl hxs .none (.int 63 _) (by rw [List.length_map]; unfold lim; lia) (ys := ns.map V.int) (fun us hus => ?_) q (fun _ => rfl)) (fun _ _ p => p.from ⟨rfl, rfl⟩) fun _ _ x => x
        refine e1_2 (pick_upto (k := 63) hus (by decide)) fun ws e1 e2 => ?_
        exact ⟨ws, e1, by rw [e2, List.take_of_length_le (by rw [List.length_map]; exact hlen)]⟩
      -- the ints, as they go into the deck
      have cmp : ∀ {Q : V → H → Prop} {E : Value → Shared → Prop}, (∀ c2 (ms : List Int) h', ms.length ≤ 63 → h' c2 = some (.list (ms.map V.int)) → Q (.ref c2) h') →
          wpAny (model prog w) A (eval (.ListComp elt' [⟨target, .Subscript (.Name (nm 93) sp) (.Slice none (some (.Constant (.int 63) kc cpos)) none slp) subp, [], 0⟩] csc cp) env) (Post K h₀ L [(c, co)] m s Q) E s := fun {Q E} q => by
        show wpAny _ _ (comprehension (.ListComp elt' [⟨target, .Subscript (.Name (nm 93) sp) (.Slice none (some (.Constant (.int 63) kc cpos)) none slp) subp, [], 0⟩] csc cp) csc env (firstIterPos [⟨target, .Subscript (.Name (nm 93) sp) (.Slice none (some (.Constant (.int 63) kc cpos)) none slp) subp, [], 0⟩] cp) (newList []) false (eval (.Subscript (.Name (nm 93) sp) (.Slice none (some (.Constant (.int 63) kc cpos)) none slp) subp) env) none) _ _ _
        refine comp_S rm'.hh S0 O lo0 q3 q4 (fun x hx => nomatch hx) rfl (fun ρ h k => wpT (CC 10) iniT (.bool true) ρ h k) (fun ρ h k => wpE (CC 10) iniT (.abs (.var 101)) ρ h k) (fin := fun acc h => ∃ ms : List Int, ms.length ≤ 63 ∧ acc = ms.map V.int)
          (fun O' e S' l' q' => cond_S (d := 20) (cond := .bool true) ST_bool rm' rfl O' S' l' q') (fun O' e S' l' q' => (sndE hK hΦ (.abs (.var 101))).1 (by rw [e]; exact q5) rm' O' l' S' q')
          (srcIter_S (rng := false) (a := .Name (nm 93) sp) (n := "range") (np := sp) (cp := sp) S0 O (fun Q => newO (fun _ => none) (.list (ns.map V.int)) Q) (fun e1 _ q => by rw [e1 rfl]; exact src q) (fun z => nomatch z) ?_) ?_
        · intro c1 hc1
          refine need_at (x := ns.map V.int) (io_list hs_self) ⟨by rw [List.length_map]; unfold lim; lia, ?_⟩
          refine abs_go (n := 10) (ρ0 := R.empty) (live := sameAt (.ref c1) (H.set (fun _ => none) c1 (.list (ns.map V.int)))) rfl (fun x k q => q) ns [] fun ms' e => ⟨ms', by simp at e; lia, rfl⟩
        · rintro D C n vs' accs h' s' ⟨mC, hns⟩ Sc hv hl9 r ⟨ms, hms, rfl⟩
          refine ⟨mC, hns, fun h'' hs => ?_⟩
          obtain ⟨g1, g2⟩ := (Sc.at hs).adopt hv
          exact Post.intro rfl g2 (q D ms _ hms hs_self) r
      refine wpAny_execs_cons (wpAny_Assign_Name ?_ (hs := rfl))
      -- the display
      refine List_ ?_
      refine wpAny_items_cons (wpAny_mono (cmp (Q := fun v h => ∃ c2 ms, v = .ref c2 ∧ ms.length ≤ 63 ∧ h c2 = some (.list (ms.map V.int))) fun c2 ms h' a b => ⟨c2, ms, rfl, a, b⟩) (fun rv s1 ⟨av, g1, hav, S1, r1, c2, ms, e1, hms, hc2⟩ => ?_) fun _ _ x => x) rfl
      subst e1
      refine wpAny_items_cons (wpAny_Constant_int (wpAny_items_nil ?_)) rfl
      refine wpAny_mono (newList_S (s := _) (xs := [.ref c2, .int 0]) (Q := fun v h => ∃ dk, v = .ref dk ∧ DeckAt h dk c2 (ms.map V.int) 0) S1 (by rw [List.map_cons, List.map_cons, hav]; rfl) (by simp; unfold lim; lia) fun dk hdk => ⟨dk, rfl, hs_self, ?_, ⟨ms, ints_of_map ms⟩, by rw [List.length_map]; exact hms, Int.le_refl _, by decide⟩) (fun rv2 s2 ⟨av2, g2, hav2, S2, r2, dk, e2, D2⟩ => ?_) fun _ _ x => x
      · have : dk ≠ c2 := by rintro rfl; rw [hc2] at hdk; cases hdk
        rw [H.set_ne (Ne.symm this)]; exact hc2
      subst e2
      cases ab_ref hav2
      -- into the cell
      refine e0_3 S2.here fun gc1 gc2 gc3 => ?_
      refine wpAny_storeName_cell O.kind hk89 hcell ⟨co, gc1, hco⟩ fun h' hv hs => ?_
      refine e1_2 hv fun o' ho' hd' => ?_
      clear hv
      have S3 : At K h₀ L [(c, o')] m g2 h' := S2.reIter (fun b o hb e => (hs.2 b fun q => hb (by rw [q]; exact List.mem_singleton.mpr rfl)).trans e) ho'
      have lo3 : Loc env m [(c, o')] (R.empty.set 89 (.ref dk)) := fun x v e => by
        rcases R.set_at e with ⟨rfl, rfl⟩ | ⟨_, e⟩
        · exact ⟨by decide, .ref dk, rfl, .inr ⟨.inl hk89, c, o', hcell, List.mem_singleton.mpr rfl, hd'⟩⟩
        · exact nomatch e
      have r3 : Rest s { s2 with heap := h' } := (r1.trans r2).trans ⟨rfl, rfl⟩
      refine wpAny_mono (sndB hK hΦ lawTail (s := { s2 with heap := h' }) (Qn := fun _ _ => False) (Qr := fun v _ => v = .bool true) k2 rm' O lo3 S3 (law_1 (n := 0) D2 (by simp) fun _ => rfl) (.inl k3)) (fun f s' p => ?_) fun _ _ x => x
      cases f with
      | next => obtain ⟨_, _, _, _, _, _, q⟩ := p; exact q.elim
      | ret rv =>
        refine e3_4 p fun av m' g' hav S' r' q => ?_
        clear p
        subst q
        cases ab_bool hav
        exact ⟨rfl, r3.trans r', m', S'.fr⟩
      | brk => exact p.elim
      | cont => exact p.elim
end
end Mine

set_option maxRecDepth 1000000
set_option maxHeartbeats 8000000
set_option tactic.hygienic true
namespace Mine
open PySem PySem.W PySem.Calls PyProof.Rows
/-! the names under which k_head would lay copies of the head's constants: taken, so that it goes on without the copies (they would fill 60 MB) -/
theorem fin9.tw10003783540914639981 : True := trivial
theorem fin9.tw10025126571955105344 : True := trivial
theorem fin9.tw10044411282248114694 : True := trivial
theorem fin9.tw10075855109483655575 : True := trivial
theorem fin9.tw10085464369725786067 : True := trivial
theorem fin9.tw10127665822311206420 : True := trivial
theorem fin9.tw10279250742288780785 : True := trivial
theorem fin9.tw10322913853660394023 : True := trivial
theorem fin9.tw1035659436043268855 : True := trivial
theorem fin9.tw10357289240669624496 : True := trivial
theorem fin9.tw10481787112400960062 : True := trivial
theorem fin9.tw1048287501322924376 : True := trivial
theorem fin9.tw10502787430849598544 : True := trivial
theorem fin9.tw10550868169384235098 : True := trivial
theorem fin9.tw10605746983057682089 : True := trivial
theorem fin9.tw10693839406118622329 : True := trivial
theorem fin9.tw10710973275371599078 : True := trivial
theorem fin9.tw10711501556381917534 : True := trivial
theorem fin9.tw10731305925705035615 : True := trivial
theorem fin9.tw10748609737854677293 : True := trivial
theorem fin9.tw10823041735773780026 : True := trivial
theorem fin9.tw10920545256273322125 : True := trivial
theorem fin9.tw11049128630946327794 : True := trivial
theorem fin9.tw1105070101072916164 : True := trivial
theorem fin9.tw111346570910040737 : True := trivial
theorem fin9.tw11151361010145225636 : True := trivial
theorem fin9.tw11159984389146771621 : True := trivial
theorem fin9.tw11183535037647803249 : True := trivial
theorem fin9.tw11200697161792409292 : True := trivial
theorem fin9.tw11244733931021638479 : True := trivial
theorem fin9.tw11245659186517138499 : True := trivial
theorem fin9.tw11270288462902180047 : True := trivial
theorem fin9.tw11273925562458926681 : True := trivial
theorem fin9.tw11296874724209907874 : True := trivial
theorem fin9.tw11302132027025913244 : True := trivial
theorem fin9.tw11313968463352813425 : True := trivial
theorem fin9.tw11382044248720552788 : True := trivial
theorem fin9.tw11386316523581408710 : True := trivial
theorem fin9.tw11409660975456628498 : True := trivial
theorem fin9.tw11410418798010459906 : True := trivial
theorem fin9.tw11455044307822739629 : True := trivial
theorem fin9.tw11563121827015541011 : True := trivial
theorem fin9.tw11584601210319866837 : True := trivial
theorem fin9.tw11587802073346767769 : True := trivial
theorem fin9.tw11602188136023204748 : True := trivial
theorem fin9.tw11632054585995047393 : True := trivial
theorem fin9.tw11682359916320276446 : True := trivial
theorem fin9.tw11718267118456531328 : True := trivial
theorem fin9.tw11857355619288668912 : True := trivial
theorem fin9.tw11864200616406787485 : True := trivial
theorem fin9.tw11872059328660193725 : True := trivial
theorem fin9.tw11881203733606890893 : True := trivial
theorem fin9.tw11939859659778215196 : True := trivial
theorem fin9.tw11941342764106048819 : True := trivial
theorem fin9.tw11945321872912807473 : True := trivial
theorem fin9.tw11968058866895771484 : True := trivial
theorem fin9.tw11981165041461288710 : True := trivial
theorem fin9.tw12061048679946885844 : True := trivial
theorem fin9.tw12097328559410098931 : True := trivial
theorem fin9.tw12120007608026656056 : True := trivial
theorem fin9.tw12122007032697455304 : True := trivial
theorem fin9.tw1217818989097787803 : True := trivial
theorem fin9.tw1220755151055930024 : True := trivial
theorem fin9.tw1221123044493602516 : True := trivial
theorem fin9.tw1225188845743916804 : True := trivial
theorem fin9.tw1225378325247277181 : True := trivial
theorem fin9.tw12268095608234287793 : True := trivial
theorem fin9.tw12288460284547944335 : True := trivial
theorem fin9.tw12290735739913840388 : True := trivial
theorem fin9.tw12328957044412994229 : True := trivial
theorem fin9.tw12386172409829658269 : True := trivial
theorem fin9.tw12403003350241556609 : True := trivial
theorem fin9.tw12406416032751721754 : True := trivial
theorem fin9.tw12449262279038112747 : True := trivial
theorem fin9.tw12468056269640297159 : True := trivial
theorem fin9.tw12612146736057956382 : True := trivial
theorem fin9.tw12707309986519513520 : True := trivial
theorem fin9.tw12759326724591237072 : True := trivial
theorem fin9.tw1279745330242308119 : True := trivial
theorem fin9.tw12886386829459192502 : True := trivial
theorem fin9.tw12904677130115756797 : True := trivial
theorem fin9.tw12942467906437557547 : True := trivial
theorem fin9.tw12945261313739335857 : True := trivial
theorem fin9.tw1294773327045104813 : True := trivial
theorem fin9.tw13023784585123604236 : True := trivial
theorem fin9.tw13036383861946961047 : True := trivial
theorem fin9.tw13047799979252550914 : True := trivial
theorem fin9.tw13052707480724006263 : True := trivial
theorem fin9.tw1311375673930471224 : True := trivial
theorem fin9.tw13157245345430625468 : True := trivial
theorem fin9.tw13224330531441486269 : True := trivial
theorem fin9.tw1324634777166529284 : True := trivial
theorem fin9.tw13251891285294919214 : True := trivial
theorem fin9.tw13270918279971833903 : True := trivial
theorem fin9.tw13279363011802077239 : True := trivial
theorem fin9.tw13286644939265231894 : True := trivial
theorem fin9.tw13387872892344388375 : True := trivial
theorem fin9.tw13436300676043689538 : True := trivial
theorem fin9.tw13549788318386891723 : True := trivial
theorem fin9.tw13559807199706616731 : True := trivial
theorem fin9.tw13564065439508386236 : True := trivial
theorem fin9.tw13577625914278124923 : True := trivial
theorem fin9.tw13658063920201388862 : True := trivial
theorem fin9.tw13674813221429780312 : True := trivial
theorem fin9.tw13734659917832218704 : True := trivial
theorem fin9.tw137443709329951520 : True := trivial
theorem fin9.tw13756571135466785340 : True := trivial
theorem fin9.tw13889536398754332488 : True := trivial
theorem fin9.tw13964442446329324032 : True := trivial
theorem fin9.tw13982892371980364929 : True := trivial
theorem fin9.tw14039350986312145263 : True := trivial
theorem fin9.tw14149271445756882572 : True := trivial
theorem fin9.tw14251462989713621962 : True := trivial
theorem fin9.tw14277418324729593277 : True := trivial
theorem fin9.tw14282073363828620742 : True := trivial
theorem fin9.tw14284492290663021248 : True := trivial
theorem fin9.tw14310299797591128757 : True := trivial
theorem fin9.tw14383020627315863669 : True := trivial
theorem fin9.tw14412293005114722453 : True := trivial
theorem fin9.tw14457314753221945015 : True := trivial
theorem fin9.tw14464543286176227651 : True := trivial
theorem fin9.tw145444726099443861 : True := trivial
theorem fin9.tw14547699108807632537 : True := trivial
theorem fin9.tw1456120003414044162 : True := trivial
theorem fin9.tw14563411510986817162 : True := trivial
theorem fin9.tw14571308702528376971 : True := trivial
theorem fin9.tw14591737166004883409 : True := trivial
theorem fin9.tw14746692929366768996 : True := trivial
theorem fin9.tw14781147028814410281 : True := trivial
theorem fin9.tw14868457829138690253 : True := trivial
theorem fin9.tw14910824677851202760 : True := trivial
theorem fin9.tw15026122783547951860 : True := trivial
theorem fin9.tw15166103178391779823 : True := trivial
theorem fin9.tw15237825846282377501 : True := trivial
theorem fin9.tw15262113037309436252 : True := trivial
theorem fin9.tw15270769522395025388 : True := trivial
theorem fin9.tw15296883598229131145 : True := trivial
theorem fin9.tw15402670643191248112 : True := trivial
theorem fin9.tw15427946325723967680 : True := trivial
theorem fin9.tw15536993540552631672 : True := trivial
theorem fin9.tw15559140559914535481 : True := trivial
theorem fin9.tw15576241871318686940 : True := trivial
theorem fin9.tw15579475173967448399 : True := trivial
theorem fin9.tw15597218156003884097 : True := trivial
theorem fin9.tw15602945592922741171 : True := trivial
theorem fin9.tw15631050883227655709 : True := trivial
theorem fin9.tw15712597760315058334 : True := trivial
theorem fin9.tw15722904545093314989 : True := trivial
theorem fin9.tw15785716504094894966 : True := trivial
theorem fin9.tw15795404231670548890 : True := trivial
theorem fin9.tw15810094661935058123 : True := trivial
theorem fin9.tw15830398121999477814 : True := trivial
theorem fin9.tw15872388442731064025 : True := trivial
theorem fin9.tw15873612292369653009 : True := trivial
theorem fin9.tw15885624643110234983 : True := trivial
theorem fin9.tw15937342840573757247 : True := trivial
theorem fin9.tw15963239704849255889 : True := trivial
theorem fin9.tw15969006072515270805 : True := trivial
theorem fin9.tw15983141208140906675 : True := trivial
theorem fin9.tw16098001045613726019 : True := trivial
theorem fin9.tw16101459220358305095 : True := trivial
theorem fin9.tw16191284757653548659 : True := trivial
theorem fin9.tw16205048900808020096 : True := trivial
theorem fin9.tw16324572858677203783 : True := trivial
theorem fin9.tw16359941316841683193 : True := trivial
theorem fin9.tw16383593065106020431 : True := trivial
theorem fin9.tw16390336421314443370 : True := trivial
theorem fin9.tw16392540647238602203 : True := trivial
theorem fin9.tw16446459688877678260 : True := trivial
theorem fin9.tw1649676750019205731 : True := trivial
theorem fin9.tw16541056055197138617 : True := trivial
theorem fin9.tw16546968117348362633 : True := trivial
theorem fin9.tw16554596225325541104 : True := trivial
theorem fin9.tw16581216484555162793 : True := trivial
theorem fin9.tw16624111719813756513 : True := trivial
theorem fin9.tw16675243507814738524 : True := trivial
theorem fin9.tw16688649415420239475 : True := trivial
theorem fin9.tw16710419064829216107 : True := trivial
theorem fin9.tw16721319040095005657 : True := trivial
theorem fin9.tw16740274282120751043 : True := trivial
theorem fin9.tw16854864199904752169 : True := trivial
theorem fin9.tw16863397778695247123 : True := trivial
theorem fin9.tw16887774578298450466 : True := trivial
theorem fin9.tw16900342875098626205 : True := trivial
theorem fin9.tw16912289691217616955 : True := trivial
theorem fin9.tw16939360127585961159 : True := trivial
theorem fin9.tw17009081808168896199 : True := trivial
theorem fin9.tw17009649401749884886 : True := trivial
theorem fin9.tw17013173398840485663 : True := trivial
theorem fin9.tw17028959821906746449 : True := trivial
theorem fin9.tw17044454380483385554 : True := trivial
theorem fin9.tw1707582868731723909 : True := trivial
theorem fin9.tw17151008238836529090 : True := trivial
theorem fin9.tw17253222180712905621 : True := trivial
theorem fin9.tw17288465288089095589 : True := trivial
theorem fin9.tw17332547635764656701 : True := trivial
theorem fin9.tw17351420645657690335 : True := trivial
theorem fin9.tw17401965006388511250 : True := trivial
theorem fin9.tw17460252924220969775 : True := trivial
theorem fin9.tw17498004902548882490 : True := trivial
theorem fin9.tw17499071143658043744 : True := trivial
theorem fin9.tw17556532782719629223 : True := trivial
theorem fin9.tw17774606751643115566 : True := trivial
theorem fin9.tw1777845342320650139 : True := trivial
theorem fin9.tw17848497463216217503 : True := trivial
theorem fin9.tw17854487893190248772 : True := trivial
theorem fin9.tw17872953615424273480 : True := trivial
theorem fin9.tw1791528497104317752 : True := trivial
theorem fin9.tw17915317347688692564 : True := trivial
theorem fin9.tw17965542296329554269 : True := trivial
theorem fin9.tw18018853978136153279 : True := trivial
theorem fin9.tw18117753783189053412 : True := trivial
theorem fin9.tw18137542564534139765 : True := trivial
theorem fin9.tw18142459581586102266 : True := trivial
theorem fin9.tw18268973411071435057 : True := trivial
theorem fin9.tw18286904724921213854 : True := trivial
theorem fin9.tw18323463856086461092 : True := trivial
theorem fin9.tw1832636242459966954 : True := trivial
theorem fin9.tw18329561815898734616 : True := trivial
theorem fin9.tw18333398943298263218 : True := trivial
theorem fin9.tw18355756306578141635 : True := trivial
theorem fin9.tw18367625881734545232 : True := trivial
theorem fin9.tw1873859950419856832 : True := trivial
theorem fin9.tw189897415034622506 : True := trivial
theorem fin9.tw1905880200428420793 : True := trivial
theorem fin9.tw1918056084777515418 : True := trivial
theorem fin9.tw2189344457720942832 : True := trivial
theorem fin9.tw2228432199058475068 : True := trivial
theorem fin9.tw2231128334556354084 : True := trivial
theorem fin9.tw2242384970174631303 : True := trivial
theorem fin9.tw2254341998675802357 : True := trivial
theorem fin9.tw2279117837790224105 : True := trivial
theorem fin9.tw2286762271217935680 : True := trivial
theorem fin9.tw2310736805530513048 : True := trivial
theorem fin9.tw2368066753218598319 : True := trivial
theorem fin9.tw2401012895652929017 : True := trivial
theorem fin9.tw2455339321143335605 : True := trivial
theorem fin9.tw2476780191413800361 : True := trivial
theorem fin9.tw2487902230451048796 : True := trivial
theorem fin9.tw2646285251785756380 : True := trivial
theorem fin9.tw2647451703811985822 : True := trivial
theorem fin9.tw2747442887732670205 : True := trivial
theorem fin9.tw284945920242229790 : True := trivial
theorem fin9.tw2855810966927807981 : True := trivial
theorem fin9.tw2867176239869329575 : True := trivial
theorem fin9.tw2884136366754656573 : True := trivial
theorem fin9.tw2946686898916519101 : True := trivial
theorem fin9.tw2968512065689025082 : True := trivial
theorem fin9.tw3025698475039231214 : True := trivial
theorem fin9.tw3159789369756948891 : True := trivial
theorem fin9.tw3218998810836172054 : True := trivial
theorem fin9.tw3247661036668050592 : True := trivial
theorem fin9.tw3276778948756633768 : True := trivial
theorem fin9.tw3365022933243187245 : True := trivial
theorem fin9.tw3368629972241648232 : True := trivial
theorem fin9.tw3370099306225148546 : True := trivial
theorem fin9.tw3374022877596010170 : True := trivial
theorem fin9.tw341590294063468044 : True := trivial
theorem fin9.tw3458972224404098977 : True := trivial
theorem fin9.tw3460640763496504549 : True := trivial
theorem fin9.tw3537973159587155410 : True := trivial
theorem fin9.tw3553093968563484625 : True := trivial
theorem fin9.tw3685880474690065941 : True := trivial
theorem fin9.tw3686264085763761319 : True := trivial
theorem fin9.tw3832026231919772275 : True := trivial
theorem fin9.tw3869686425100938348 : True := trivial
theorem fin9.tw3892079411972896684 : True := trivial
theorem fin9.tw3925210779189201554 : True := trivial
theorem fin9.tw3949134413121943214 : True := trivial
theorem fin9.tw3967861436672291509 : True := trivial
theorem fin9.tw3977715507328831908 : True := trivial
theorem fin9.tw399871926913678200 : True := trivial
theorem fin9.tw4020920983504580548 : True := trivial
theorem fin9.tw4035819341440157451 : True := trivial
theorem fin9.tw4106380163603553736 : True := trivial
theorem fin9.tw4107274897356468049 : True := trivial
theorem fin9.tw4160527875775626468 : True := trivial
theorem fin9.tw4202576594703767251 : True := trivial
theorem fin9.tw4270379316377509601 : True := trivial
theorem fin9.tw4300802757243794710 : True := trivial
theorem fin9.tw4357845571413356493 : True := trivial
theorem fin9.tw4373253971884574118 : True := trivial
theorem fin9.tw4391315482623559207 : True := trivial
theorem fin9.tw4462545922194750173 : True := trivial
theorem fin9.tw4520544762746251157 : True := trivial
theorem fin9.tw4533525052060209945 : True := trivial
theorem fin9.tw4649093345700198951 : True := trivial
theorem fin9.tw4677453811738517235 : True := trivial
theorem fin9.tw474189776152772524 : True := trivial
theorem fin9.tw4768231898478895155 : True := trivial
theorem fin9.tw4776272695201823949 : True := trivial
theorem fin9.tw479255753084272643 : True := trivial
theorem fin9.tw4840575505668794775 : True := trivial
theorem fin9.tw4842194128609775814 : True := trivial
theorem fin9.tw487017308048893717 : True := trivial
theorem fin9.tw4934551120020043192 : True := trivial
theorem fin9.tw4994930756052512975 : True := trivial
theorem fin9.tw5105034079578784363 : True := trivial
theorem fin9.tw5137788255482604800 : True := trivial
theorem fin9.tw5147146007465706598 : True := trivial
theorem fin9.tw5194214537150169082 : True := trivial
theorem fin9.tw5338436291614759201 : True := trivial
theorem fin9.tw5350027264443560773 : True := trivial
theorem fin9.tw5358568499874105771 : True := trivial
theorem fin9.tw5372158987514062012 : True := trivial
theorem fin9.tw5385507141383594046 : True := trivial
theorem fin9.tw5390622282384716584 : True := trivial
theorem fin9.tw5419471546970484560 : True := trivial
theorem fin9.tw5421790499271520102 : True := trivial
theorem fin9.tw5425995384288331144 : True := trivial
theorem fin9.tw5435348472758170850 : True := trivial
theorem fin9.tw5495062379596271671 : True := trivial
theorem fin9.tw5521109665754633202 : True := trivial
theorem fin9.tw5543062624557007157 : True := trivial
theorem fin9.tw556015494718148991 : True := trivial
theorem fin9.tw5594460446387356311 : True := trivial
theorem fin9.tw5616829738084941233 : True := trivial
theorem fin9.tw5684549000559398229 : True := trivial
theorem fin9.tw5715737321978752633 : True := trivial
theorem fin9.tw572258808263256000 : True := trivial
theorem fin9.tw5757754243374832269 : True := trivial
theorem fin9.tw5816152988023741223 : True := trivial
theorem fin9.tw5871087224634065869 : True := trivial
theorem fin9.tw5880865948145192755 : True := trivial
theorem fin9.tw5917016883416621128 : True := trivial
theorem fin9.tw5950917337806102970 : True := trivial
theorem fin9.tw6012533419423763773 : True := trivial
theorem fin9.tw601408416719583134 : True := trivial
theorem fin9.tw6077845537523332635 : True := trivial
theorem fin9.tw6121932810701341097 : True := trivial
theorem fin9.tw6146455166624386449 : True := trivial
theorem fin9.tw6292443062524215569 : True := trivial
theorem fin9.tw6309010520759891196 : True := trivial
theorem fin9.tw6311014306334824589 : True := trivial
theorem fin9.tw6328511031388529446 : True := trivial
theorem fin9.tw6338743761768992047 : True := trivial
theorem fin9.tw6345126748860227666 : True := trivial
theorem fin9.tw6494574894278170495 : True := trivial
theorem fin9.tw6541835020006655179 : True := trivial
theorem fin9.tw658384118946774834 : True := trivial
theorem fin9.tw658798434083336128 : True := trivial
theorem fin9.tw6591304806207539802 : True := trivial
theorem fin9.tw6627465676805414972 : True := trivial
theorem fin9.tw6628038642645055023 : True := trivial
theorem fin9.tw6631294110119182474 : True := trivial
theorem fin9.tw6642289760630832287 : True := trivial
theorem fin9.tw6650905973067481202 : True := trivial
theorem fin9.tw6672500296519459832 : True := trivial
theorem fin9.tw6783781022376789938 : True := trivial
theorem fin9.tw6831847976553994699 : True := trivial
theorem fin9.tw689841164068632298 : True := trivial
theorem fin9.tw6947139823282153627 : True := trivial
theorem fin9.tw6964478756187211311 : True := trivial
theorem fin9.tw7030122903880928357 : True := trivial
theorem fin9.tw7072509472415488499 : True := trivial
theorem fin9.tw7088390251836439135 : True := trivial
theorem fin9.tw7136026982504642463 : True := trivial
theorem fin9.tw7287249908346906482 : True := trivial
theorem fin9.tw729697129352557224 : True := trivial
theorem fin9.tw7320717583507171154 : True := trivial
theorem fin9.tw7451048457196832493 : True := trivial
theorem fin9.tw7520466653275169220 : True := trivial
theorem fin9.tw7537961457551267867 : True := trivial
theorem fin9.tw7559774887802780959 : True := trivial
theorem fin9.tw7641014493178747267 : True := trivial
theorem fin9.tw7693036949535458641 : True := trivial
theorem fin9.tw7730456635979600423 : True := trivial
theorem fin9.tw7758701839162996800 : True := trivial
theorem fin9.tw7768332622718265103 : True := trivial
theorem fin9.tw7773194572126995625 : True := trivial
theorem fin9.tw7824221797377313324 : True := trivial
theorem fin9.tw7863310018656542681 : True := trivial
theorem fin9.tw7864742447227859146 : True := trivial
theorem fin9.tw7891761257489683960 : True := trivial
theorem fin9.tw8001134487998958967 : True := trivial
theorem fin9.tw801870772642534399 : True := trivial
theorem fin9.tw8032462273992916662 : True := trivial
theorem fin9.tw805558548801970935 : True := trivial
theorem fin9.tw8083315406283313447 : True := trivial
theorem fin9.tw8126762813215157473 : True := trivial
theorem fin9.tw8130924586051365264 : True := trivial
theorem fin9.tw8164842639306932585 : True := trivial
theorem fin9.tw8196705684940036677 : True := trivial
theorem fin9.tw8292609982948093476 : True := trivial
theorem fin9.tw8403365978887621652 : True := trivial
theorem fin9.tw8455294044999099453 : True := trivial
theorem fin9.tw8456053149597704238 : True := trivial
theorem fin9.tw8596303247505085144 : True := trivial
theorem fin9.tw8611028846562324303 : True := trivial
theorem fin9.tw8662793180387191081 : True := trivial
theorem fin9.tw8741383095097605636 : True := trivial
theorem fin9.tw8768529646744938721 : True := trivial
theorem fin9.tw8909056205598026390 : True := trivial
theorem fin9.tw8998349181366050084 : True := trivial
theorem fin9.tw9004415884739111081 : True := trivial
theorem fin9.tw9032541462576914296 : True := trivial
theorem fin9.tw9053255175881889720 : True := trivial
theorem fin9.tw9070653488089492979 : True := trivial
theorem fin9.tw9155732065983234559 : True := trivial
theorem fin9.tw9175726226062127462 : True := trivial
theorem fin9.tw9183121103908090139 : True := trivial
theorem fin9.tw918618510047672374 : True := trivial
theorem fin9.tw9212070883067812329 : True := trivial
theorem fin9.tw9227621389502853040 : True := trivial
theorem fin9.tw9281208232187554717 : True := trivial
theorem fin9.tw9293410642758842541 : True := trivial
theorem fin9.tw9328239350217746019 : True := trivial
theorem fin9.tw9439580238089016023 : True := trivial
theorem fin9.tw9463543969314476578 : True := trivial
theorem fin9.tw948929378985193341 : True := trivial
theorem fin9.tw952093058763156075 : True := trivial
theorem fin9.tw9523842623593713130 : True := trivial
theorem fin9.tw9630962105749485083 : True := trivial
theorem fin9.tw9639328915023845011 : True := trivial
theorem fin9.tw9661759184961105762 : True := trivial
theorem fin9.tw9677877991181455286 : True := trivial
theorem fin9.tw9679437999073141480 : True := trivial
theorem fin9.tw9800683703705751004 : True := trivial
theorem fin9.tw9809186865410910485 : True := trivial
theorem fin9.tw9841189908725139121 : True := trivial
theorem fin9.tw9842862670488564540 : True := trivial
theorem fin9.tw9862337528296362515 : True := trivial
theorem fin9.tw9936964076231930962 : True := trivial
theorem fin9.tw9949659503789232756 : True := trivial
set_option Elab.async true in
theorem fin9 : PySem.Challenge.rw_np0076_01.Holds := by
  w_on
  o_law
  k_head
  case hw => w_witness2
  k_go0
  have KX := ‹Frag.In _ _›
  rename_i ns hs hlay0 hL1 hr1 hl2 w5 w4 l vs w1 hL ra w1' r0 hI hr hc1 hc2 K0 hD h1 tk F co hco N0 X0
  refine wpAny_mono (law_S (K := _) (vs := vs) (ns := ns) (l := l) (kOk_of ?zkok) ?zkall ⟨KX, _, _, _, _, topRead_of (by assumption)⟩ F N0 hco ⟨rfl, rfl, rfl, rfl⟩ ?zhcell ?zhk89 ?zhk93 ?zhm ?zhl hI ?zhlen ?zrm ?zok) ?zpost fun _ _ x => x
  case zkok => kernel_rfl!
  case zkall => kernel_rfl!
  case zhcell => kernel_rfl!
  case zhk89 => kernel_rfl!
  case zhk93 => kernel_rfl!
  case zhm => kernel_rfl!
  case zrm => exact ⟨rfl, show (301 + 1) + 3 * 30 + 3 < 1000 by decide, show (4 + 3) + 20 * 30 + 64 < 9900 by decide⟩
  case zok => kernel_rfl!
  case zhl => exact let ⟨o, a, b⟩ := hL; ⟨o, F.keep _ _ a, b⟩
  case zhlen => omega
  case zpost =>
    rintro f s' ⟨rfl, r, m', F'⟩
    exact goodW_bool F' (r.1.trans (by assumption)) (fun _ => rfl) (by kernel_rfl!) r.2
end Mine

theorem PySem.Challenge.cw_np0076_01_holds : PySem.Challenge.rw_np0076_01.Holds := by
  exact Mine.fin9
