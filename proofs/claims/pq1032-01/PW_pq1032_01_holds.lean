import PyProof.Rows.All
import Wide.All
import OpenK.AllK
import Wide.FinOn
import PySem.Challenge.RW_pq1032_01
set_option Elab.async false
set_option linter.unusedVariables false
namespace Mine
open PySem PySem.W PySem.Calls PyProof.Rows
noncomputable section
theorem x0_2 {a1 a2 : Prop} {r : Prop} (h : a1 ∧ a2) (k : a1 → a2 → r) : r := k h.1 h.2
theorem x0_3 {a1 a2 a3 : Prop} {r : Prop} (h : a1 ∧ a2 ∧ a3) (k : a1 → a2 → a3 → r) : r := k h.1 h.2.1 h.2.2
theorem x0_4 {a1 a2 a3 a4 : Prop} {r : Prop} (h : a1 ∧ a2 ∧ a3 ∧ a4) (k : a1 → a2 → a3 → a4 → r) : r := k h.1 h.2.1 h.2.2.1 h.2.2.2
theorem x0_5 {a1 a2 a3 a4 a5 : Prop} {r : Prop} (h : a1 ∧ a2 ∧ a3 ∧ a4 ∧ a5) (k : a1 → a2 → a3 → a4 → a5 → r) : r := k h.1 h.2.1 h.2.2.1 h.2.2.2.1 h.2.2.2.2
theorem x0_7 {a1 a2 a3 a4 a5 a6 a7 : Prop} {r : Prop} (h : a1 ∧ a2 ∧ a3 ∧ a4 ∧ a5 ∧ a6 ∧ a7) (k : a1 → a2 → a3 → a4 → a5 → a6 → a7 → r) : r := k h.1 h.2.1 h.2.2.1 h.2.2.2.1 h.2.2.2.2.1 h.2.2.2.2.2.1 h.2.2.2.2.2.2
theorem x1_1.{u1} {α1 : Sort u1} {a1 : α1 → Prop} {r : Prop} (h : ∃ x1, a1 x1) (k : ∀ x1, a1 x1 → r) : r := Exists.elim h fun x1 h => k x1 h
theorem x1_2.{u1} {α1 : Sort u1} {a1 a2 : α1 → Prop} {r : Prop} (h : ∃ x1, a1 x1 ∧ a2 x1) (k : ∀ x1, a1 x1 → a2 x1 → r) : r := Exists.elim h fun x1 h => k x1 h.1 h.2
theorem x1_3.{u1} {α1 : Sort u1} {a1 a2 a3 : α1 → Prop} {r : Prop} (h : ∃ x1, a1 x1 ∧ a2 x1 ∧ a3 x1) (k : ∀ x1, a1 x1 → a2 x1 → a3 x1 → r) : r := Exists.elim h fun x1 h => k x1 h.1 h.2.1 h.2.2
theorem x1_4.{u1} {α1 : Sort u1} {a1 a2 a3 a4 : α1 → Prop} {r : Prop} (h : ∃ x1, a1 x1 ∧ a2 x1 ∧ a3 x1 ∧ a4 x1) (k : ∀ x1, a1 x1 → a2 x1 → a3 x1 → a4 x1 → r) : r := Exists.elim h fun x1 h => k x1 h.1 h.2.1 h.2.2.1 h.2.2.2
theorem x1_5.{u1} {α1 : Sort u1} {a1 a2 a3 a4 a5 : α1 → Prop} {r : Prop} (h : ∃ x1, a1 x1 ∧ a2 x1 ∧ a3 x1 ∧ a4 x1 ∧ a5 x1) (k : ∀ x1, a1 x1 → a2 x1 → a3 x1 → a4 x1 → a5 x1 → r) : r := Exists.elim h fun x1 h => k x1 h.1 h.2.1 h.2.2.1 h.2.2.2.1 h.2.2.2.2
theorem x2_1.{u1,u2} {α1 : Sort u1} {α2 : Sort u2} {a1 : α1 → α2 → Prop} {r : Prop} (h : ∃ x1 x2, a1 x1 x2) (k : ∀ x1 x2, a1 x1 x2 → r) : r := Exists.elim h fun x1 h => Exists.elim h fun x2 h => k x1 x2 h
theorem x2_2.{u1,u2} {α1 : Sort u1} {α2 : Sort u2} {a1 a2 : α1 → α2 → Prop} {r : Prop} (h : ∃ x1 x2, a1 x1 x2 ∧ a2 x1 x2) (k : ∀ x1 x2, a1 x1 x2 → a2 x1 x2 → r) : r := Exists.elim h fun x1 h => Exists.elim h fun x2 h => k x1 x2 h.1 h.2
theorem x2_3.{u1,u2} {α1 : Sort u1} {α2 : Sort u2} {a1 a2 a3 : α1 → α2 → Prop} {r : Prop} (h : ∃ x1 x2, a1 x1 x2 ∧ a2 x1 x2 ∧ a3 x1 x2) (k : ∀ x1 x2, a1 x1 x2 → a2 x1 x2 → a3 x1 x2 → r) : r := Exists.elim h fun x1 h => Exists.elim h fun x2 h => k x1 x2 h.1 h.2.1 h.2.2
theorem x2_4.{u1,u2} {α1 : Sort u1} {α2 : Sort u2} {a1 a2 a3 a4 : α1 → α2 → Prop} {r : Prop} (h : ∃ x1 x2, a1 x1 x2 ∧ a2 x1 x2 ∧ a3 x1 x2 ∧ a4 x1 x2) (k : ∀ x1 x2, a1 x1 x2 → a2 x1 x2 → a3 x1 x2 → a4 x1 x2 → r) : r := Exists.elim h fun x1 h => Exists.elim h fun x2 h => k x1 x2 h.1 h.2.1 h.2.2.1 h.2.2.2
theorem x2_7.{u1,u2} {α1 : Sort u1} {α2 : Sort u2} {a1 a2 a3 a4 a5 a6 a7 : α1 → α2 → Prop} {r : Prop} (h : ∃ x1 x2, a1 x1 x2 ∧ a2 x1 x2 ∧ a3 x1 x2 ∧ a4 x1 x2 ∧ a5 x1 x2 ∧ a6 x1 x2 ∧ a7 x1 x2) (k : ∀ x1 x2, a1 x1 x2 → a2 x1 x2 → a3 x1 x2 → a4 x1 x2 → a5 x1 x2 → a6 x1 x2 → a7 x1 x2 → r) : r := Exists.elim h fun x1 h => Exists.elim h fun x2 h => k x1 x2 h.1 h.2.1 h.2.2.1 h.2.2.2.1 h.2.2.2.2.1 h.2.2.2.2.2.1 h.2.2.2.2.2.2
theorem x2_9.{u1,u2} {α1 : Sort u1} {α2 : Sort u2} {a1 a2 a3 a4 a5 a6 a7 a8 a9 : α1 → α2 → Prop} {r : Prop} (h : ∃ x1 x2, a1 x1 x2 ∧ a2 x1 x2 ∧ a3 x1 x2 ∧ a4 x1 x2 ∧ a5 x1 x2 ∧ a6 x1 x2 ∧ a7 x1 x2 ∧ a8 x1 x2 ∧ a9 x1 x2) (k : ∀ x1 x2, a1 x1 x2 → a2 x1 x2 → a3 x1 x2 → a4 x1 x2 → a5 x1 x2 → a6 x1 x2 → a7 x1 x2 → a8 x1 x2 → a9 x1 x2 → r) : r := Exists.elim h fun x1 h => Exists.elim h fun x2 h => k x1 x2 h.1 h.2.1 h.2.2.1 h.2.2.2.1 h.2.2.2.2.1 h.2.2.2.2.2.1 h.2.2.2.2.2.2.1 h.2.2.2.2.2.2.2.1 h.2.2.2.2.2.2.2.2
theorem x2_11.{u1,u2} {α1 : Sort u1} {α2 : Sort u2} {a1 a2 a3 a4 a5 a6 a7 a8 a9 a10 a11 : α1 → α2 → Prop} {r : Prop} (h : ∃ x1 x2, a1 x1 x2 ∧ a2 x1 x2 ∧ a3 x1 x2 ∧ a4 x1 x2 ∧ a5 x1 x2 ∧ a6 x1 x2 ∧ a7 x1 x2 ∧ a8 x1 x2 ∧ a9 x1 x2 ∧ a10 x1 x2 ∧ a11 x1 x2) (k : ∀ x1 x2, a1 x1 x2 → a2 x1 x2 → a3 x1 x2 → a4 x1 x2 → a5 x1 x2 → a6 x1 x2 → a7 x1 x2 → a8 x1 x2 → a9 x1 x2 → a10 x1 x2 → a11 x1 x2 → r) : r := Exists.elim h fun x1 h => Exists.elim h fun x2 h => k x1 x2 h.1 h.2.1 h.2.2.1 h.2.2.2.1 h.2.2.2.2.1 h.2.2.2.2.2.1 h.2.2.2.2.2.2.1 h.2.2.2.2.2.2.2.1 h.2.2.2.2.2.2.2.2.1 h.2.2.2.2.2.2.2.2.2.1 h.2.2.2.2.2.2.2.2.2.2
theorem x3_1.{u1,u2,u3} {α1 : Sort u1} {α2 : Sort u2} {α3 : Sort u3} {a1 : α1 → α2 → α3 → Prop} {r : Prop} (h : ∃ x1 x2 x3, a1 x1 x2 x3) (k : ∀ x1 x2 x3, a1 x1 x2 x3 → r) : r := Exists.elim h fun x1 h => Exists.elim h fun x2 h => Exists.elim h fun x3 h => k x1 x2 x3 h
theorem x3_2.{u1,u2,u3} {α1 : Sort u1} {α2 : Sort u2} {α3 : Sort u3} {a1 a2 : α1 → α2 → α3 → Prop} {r : Prop} (h : ∃ x1 x2 x3, a1 x1 x2 x3 ∧ a2 x1 x2 x3) (k : ∀ x1 x2 x3, a1 x1 x2 x3 → a2 x1 x2 x3 → r) : r := Exists.elim h fun x1 h => Exists.elim h fun x2 h => Exists.elim h fun x3 h => k x1 x2 x3 h.1 h.2
theorem x3_3.{u1,u2,u3} {α1 : Sort u1} {α2 : Sort u2} {α3 : Sort u3} {a1 a2 a3 : α1 → α2 → α3 → Prop} {r : Prop} (h : ∃ x1 x2 x3, a1 x1 x2 x3 ∧ a2 x1 x2 x3 ∧ a3 x1 x2 x3) (k : ∀ x1 x2 x3, a1 x1 x2 x3 → a2 x1 x2 x3 → a3 x1 x2 x3 → r) : r := Exists.elim h fun x1 h => Exists.elim h fun x2 h => Exists.elim h fun x3 h => k x1 x2 x3 h.1 h.2.1 h.2.2
theorem x3_4.{u1,u2,u3} {α1 : Sort u1} {α2 : Sort u2} {α3 : Sort u3} {a1 a2 a3 a4 : α1 → α2 → α3 → Prop} {r : Prop} (h : ∃ x1 x2 x3, a1 x1 x2 x3 ∧ a2 x1 x2 x3 ∧ a3 x1 x2 x3 ∧ a4 x1 x2 x3) (k : ∀ x1 x2 x3, a1 x1 x2 x3 → a2 x1 x2 x3 → a3 x1 x2 x3 → a4 x1 x2 x3 → r) : r := Exists.elim h fun x1 h => Exists.elim h fun x2 h => Exists.elim h fun x3 h => k x1 x2 x3 h.1 h.2.1 h.2.2.1 h.2.2.2
theorem x3_5.{u1,u2,u3} {α1 : Sort u1} {α2 : Sort u2} {α3 : Sort u3} {a1 a2 a3 a4 a5 : α1 → α2 → α3 → Prop} {r : Prop} (h : ∃ x1 x2 x3, a1 x1 x2 x3 ∧ a2 x1 x2 x3 ∧ a3 x1 x2 x3 ∧ a4 x1 x2 x3 ∧ a5 x1 x2 x3) (k : ∀ x1 x2 x3, a1 x1 x2 x3 → a2 x1 x2 x3 → a3 x1 x2 x3 → a4 x1 x2 x3 → a5 x1 x2 x3 → r) : r := Exists.elim h fun x1 h => Exists.elim h fun x2 h => Exists.elim h fun x3 h => k x1 x2 x3 h.1 h.2.1 h.2.2.1 h.2.2.2.1 h.2.2.2.2
theorem x3_6.{u1,u2,u3} {α1 : Sort u1} {α2 : Sort u2} {α3 : Sort u3} {a1 a2 a3 a4 a5 a6 : α1 → α2 → α3 → Prop} {r : Prop} (h : ∃ x1 x2 x3, a1 x1 x2 x3 ∧ a2 x1 x2 x3 ∧ a3 x1 x2 x3 ∧ a4 x1 x2 x3 ∧ a5 x1 x2 x3 ∧ a6 x1 x2 x3) (k : ∀ x1 x2 x3, a1 x1 x2 x3 → a2 x1 x2 x3 → a3 x1 x2 x3 → a4 x1 x2 x3 → a5 x1 x2 x3 → a6 x1 x2 x3 → r) : r := Exists.elim h fun x1 h => Exists.elim h fun x2 h => Exists.elim h fun x3 h => k x1 x2 x3 h.1 h.2.1 h.2.2.1 h.2.2.2.1 h.2.2.2.2.1 h.2.2.2.2.2
theorem x3_7.{u1,u2,u3} {α1 : Sort u1} {α2 : Sort u2} {α3 : Sort u3} {a1 a2 a3 a4 a5 a6 a7 : α1 → α2 → α3 → Prop} {r : Prop} (h : ∃ x1 x2 x3, a1 x1 x2 x3 ∧ a2 x1 x2 x3 ∧ a3 x1 x2 x3 ∧ a4 x1 x2 x3 ∧ a5 x1 x2 x3 ∧ a6 x1 x2 x3 ∧ a7 x1 x2 x3) (k : ∀ x1 x2 x3, a1 x1 x2 x3 → a2 x1 x2 x3 → a3 x1 x2 x3 → a4 x1 x2 x3 → a5 x1 x2 x3 → a6 x1 x2 x3 → a7 x1 x2 x3 → r) : r := Exists.elim h fun x1 h => Exists.elim h fun x2 h => Exists.elim h fun x3 h => k x1 x2 x3 h.1 h.2.1 h.2.2.1 h.2.2.2.1 h.2.2.2.2.1 h.2.2.2.2.2.1 h.2.2.2.2.2.2
theorem x4_2.{u1,u2,u3,u4} {α1 : Sort u1} {α2 : Sort u2} {α3 : Sort u3} {α4 : Sort u4} {a1 a2 : α1 → α2 → α3 → α4 → Prop} {r : Prop} (h : ∃ x1 x2 x3 x4, a1 x1 x2 x3 x4 ∧ a2 x1 x2 x3 x4) (k : ∀ x1 x2 x3 x4, a1 x1 x2 x3 x4 → a2 x1 x2 x3 x4 → r) : r := Exists.elim h fun x1 h => Exists.elim h fun x2 h => Exists.elim h fun x3 h => Exists.elim h fun x4 h => k x1 x2 x3 x4 h.1 h.2
theorem x4_3.{u1,u2,u3,u4} {α1 : Sort u1} {α2 : Sort u2} {α3 : Sort u3} {α4 : Sort u4} {a1 a2 a3 : α1 → α2 → α3 → α4 → Prop} {r : Prop} (h : ∃ x1 x2 x3 x4, a1 x1 x2 x3 x4 ∧ a2 x1 x2 x3 x4 ∧ a3 x1 x2 x3 x4) (k : ∀ x1 x2 x3 x4, a1 x1 x2 x3 x4 → a2 x1 x2 x3 x4 → a3 x1 x2 x3 x4 → r) : r := Exists.elim h fun x1 h => Exists.elim h fun x2 h => Exists.elim h fun x3 h => Exists.elim h fun x4 h => k x1 x2 x3 x4 h.1 h.2.1 h.2.2
theorem x4_4.{u1,u2,u3,u4} {α1 : Sort u1} {α2 : Sort u2} {α3 : Sort u3} {α4 : Sort u4} {a1 a2 a3 a4 : α1 → α2 → α3 → α4 → Prop} {r : Prop} (h : ∃ x1 x2 x3 x4, a1 x1 x2 x3 x4 ∧ a2 x1 x2 x3 x4 ∧ a3 x1 x2 x3 x4 ∧ a4 x1 x2 x3 x4) (k : ∀ x1 x2 x3 x4, a1 x1 x2 x3 x4 → a2 x1 x2 x3 x4 → a3 x1 x2 x3 x4 → a4 x1 x2 x3 x4 → r) : r := Exists.elim h fun x1 h => Exists.elim h fun x2 h => Exists.elim h fun x3 h => Exists.elim h fun x4 h => k x1 x2 x3 x4 h.1 h.2.1 h.2.2.1 h.2.2.2
theorem x4_5.{u1,u2,u3,u4} {α1 : Sort u1} {α2 : Sort u2} {α3 : Sort u3} {α4 : Sort u4} {a1 a2 a3 a4 a5 : α1 → α2 → α3 → α4 → Prop} {r : Prop} (h : ∃ x1 x2 x3 x4, a1 x1 x2 x3 x4 ∧ a2 x1 x2 x3 x4 ∧ a3 x1 x2 x3 x4 ∧ a4 x1 x2 x3 x4 ∧ a5 x1 x2 x3 x4) (k : ∀ x1 x2 x3 x4, a1 x1 x2 x3 x4 → a2 x1 x2 x3 x4 → a3 x1 x2 x3 x4 → a4 x1 x2 x3 x4 → a5 x1 x2 x3 x4 → r) : r := Exists.elim h fun x1 h => Exists.elim h fun x2 h => Exists.elim h fun x3 h => Exists.elim h fun x4 h => k x1 x2 x3 x4 h.1 h.2.1 h.2.2.1 h.2.2.2.1 h.2.2.2.2
theorem x4_10.{u1,u2,u3,u4} {α1 : Sort u1} {α2 : Sort u2} {α3 : Sort u3} {α4 : Sort u4} {a1 a2 a3 a4 a5 a6 a7 a8 a9 a10 : α1 → α2 → α3 → α4 → Prop} {r : Prop} (h : ∃ x1 x2 x3 x4, a1 x1 x2 x3 x4 ∧ a2 x1 x2 x3 x4 ∧ a3 x1 x2 x3 x4 ∧ a4 x1 x2 x3 x4 ∧ a5 x1 x2 x3 x4 ∧ a6 x1 x2 x3 x4 ∧ a7 x1 x2 x3 x4 ∧ a8 x1 x2 x3 x4 ∧ a9 x1 x2 x3 x4 ∧ a10 x1 x2 x3 x4) (k : ∀ x1 x2 x3 x4, a1 x1 x2 x3 x4 → a2 x1 x2 x3 x4 → a3 x1 x2 x3 x4 → a4 x1 x2 x3 x4 → a5 x1 x2 x3 x4 → a6 x1 x2 x3 x4 → a7 x1 x2 x3 x4 → a8 x1 x2 x3 x4 → a9 x1 x2 x3 x4 → a10 x1 x2 x3 x4 → r) : r := Exists.elim h fun x1 h => Exists.elim h fun x2 h => Exists.elim h fun x3 h => Exists.elim h fun x4 h => k x1 x2 x3 x4 h.1 h.2.1 h.2.2.1 h.2.2.2.1 h.2.2.2.2.1 h.2.2.2.2.2.1 h.2.2.2.2.2.2.1 h.2.2.2.2.2.2.2.1 h.2.2.2.2.2.2.2.2.1 h.2.2.2.2.2.2.2.2.2
theorem x5_2.{u1,u2,u3,u4,u5} {α1 : Sort u1} {α2 : Sort u2} {α3 : Sort u3} {α4 : Sort u4} {α5 : Sort u5} {a1 a2 : α1 → α2 → α3 → α4 → α5 → Prop} {r : Prop} (h : ∃ x1 x2 x3 x4 x5, a1 x1 x2 x3 x4 x5 ∧ a2 x1 x2 x3 x4 x5) (k : ∀ x1 x2 x3 x4 x5, a1 x1 x2 x3 x4 x5 → a2 x1 x2 x3 x4 x5 → r) : r := Exists.elim h fun x1 h => Exists.elim h fun x2 h => Exists.elim h fun x3 h => Exists.elim h fun x4 h => Exists.elim h fun x5 h => k x1 x2 x3 x4 x5 h.1 h.2
theorem x5_3.{u1,u2,u3,u4,u5} {α1 : Sort u1} {α2 : Sort u2} {α3 : Sort u3} {α4 : Sort u4} {α5 : Sort u5} {a1 a2 a3 : α1 → α2 → α3 → α4 → α5 → Prop} {r : Prop} (h : ∃ x1 x2 x3 x4 x5, a1 x1 x2 x3 x4 x5 ∧ a2 x1 x2 x3 x4 x5 ∧ a3 x1 x2 x3 x4 x5) (k : ∀ x1 x2 x3 x4 x5, a1 x1 x2 x3 x4 x5 → a2 x1 x2 x3 x4 x5 → a3 x1 x2 x3 x4 x5 → r) : r := Exists.elim h fun x1 h => Exists.elim h fun x2 h => Exists.elim h fun x3 h => Exists.elim h fun x4 h => Exists.elim h fun x5 h => k x1 x2 x3 x4 x5 h.1 h.2.1 h.2.2
theorem x5_5.{u1,u2,u3,u4,u5} {α1 : Sort u1} {α2 : Sort u2} {α3 : Sort u3} {α4 : Sort u4} {α5 : Sort u5} {a1 a2 a3 a4 a5 : α1 → α2 → α3 → α4 → α5 → Prop} {r : Prop} (h : ∃ x1 x2 x3 x4 x5, a1 x1 x2 x3 x4 x5 ∧ a2 x1 x2 x3 x4 x5 ∧ a3 x1 x2 x3 x4 x5 ∧ a4 x1 x2 x3 x4 x5 ∧ a5 x1 x2 x3 x4 x5) (k : ∀ x1 x2 x3 x4 x5, a1 x1 x2 x3 x4 x5 → a2 x1 x2 x3 x4 x5 → a3 x1 x2 x3 x4 x5 → a4 x1 x2 x3 x4 x5 → a5 x1 x2 x3 x4 x5 → r) : r := Exists.elim h fun x1 h => Exists.elim h fun x2 h => Exists.elim h fun x3 h => Exists.elim h fun x4 h => Exists.elim h fun x5 h => k x1 x2 x3 x4 x5 h.1 h.2.1 h.2.2.1 h.2.2.2.1 h.2.2.2.2
theorem x5_6.{u1,u2,u3,u4,u5} {α1 : Sort u1} {α2 : Sort u2} {α3 : Sort u3} {α4 : Sort u4} {α5 : Sort u5} {a1 a2 a3 a4 a5 a6 : α1 → α2 → α3 → α4 → α5 → Prop} {r : Prop} (h : ∃ x1 x2 x3 x4 x5, a1 x1 x2 x3 x4 x5 ∧ a2 x1 x2 x3 x4 x5 ∧ a3 x1 x2 x3 x4 x5 ∧ a4 x1 x2 x3 x4 x5 ∧ a5 x1 x2 x3 x4 x5 ∧ a6 x1 x2 x3 x4 x5) (k : ∀ x1 x2 x3 x4 x5, a1 x1 x2 x3 x4 x5 → a2 x1 x2 x3 x4 x5 → a3 x1 x2 x3 x4 x5 → a4 x1 x2 x3 x4 x5 → a5 x1 x2 x3 x4 x5 → a6 x1 x2 x3 x4 x5 → r) : r := Exists.elim h fun x1 h => Exists.elim h fun x2 h => Exists.elim h fun x3 h => Exists.elim h fun x4 h => Exists.elim h fun x5 h => k x1 x2 x3 x4 x5 h.1 h.2.1 h.2.2.1 h.2.2.2.1 h.2.2.2.2.1 h.2.2.2.2.2
theorem x6_3.{u1,u2,u3,u4,u5,u6} {α1 : Sort u1} {α2 : Sort u2} {α3 : Sort u3} {α4 : Sort u4} {α5 : Sort u5} {α6 : Sort u6} {a1 a2 a3 : α1 → α2 → α3 → α4 → α5 → α6 → Prop} {r : Prop} (h : ∃ x1 x2 x3 x4 x5 x6, a1 x1 x2 x3 x4 x5 x6 ∧ a2 x1 x2 x3 x4 x5 x6 ∧ a3 x1 x2 x3 x4 x5 x6) (k : ∀ x1 x2 x3 x4 x5 x6, a1 x1 x2 x3 x4 x5 x6 → a2 x1 x2 x3 x4 x5 x6 → a3 x1 x2 x3 x4 x5 x6 → r) : r := Exists.elim h fun x1 h => Exists.elim h fun x2 h => Exists.elim h fun x3 h => Exists.elim h fun x4 h => Exists.elim h fun x5 h => Exists.elim h fun x6 h => k x1 x2 x3 x4 x5 x6 h.1 h.2.1 h.2.2
section -- MW1

noncomputable def er : Value → Value
  | .int i _ => .int i 0
  | .float b _ => .float b 0
  | .str s _ => .str s 0
  | .bytes b _ => .bytes b 0
  | v => v

inductive MO where
  | list (z : Bool) (xs : List Value)
  | tuple (xs : List Value)
  | inst (C d : Addr)
  | attrs (z : Bool) (fs : List (Str × Value))
  | tab (z : Bool) (es : List (Int × Value))
  | meth (f x : Addr)
  | rng (n : Int)
  | cell (v : Option Value)

abbrev Hp := Addr → Option MO
noncomputable def upd (H : Hp) (a : Addr) (o : MO) : Hp := fun b => if b = a then some o else H b
noncomputable def setm (m : Str → Option Value) (x : Str) (v : Value) : Str → Option Value := fun y => if y = x then some v else m y

structure Gl where
  prog : Program
  w : World
  K : Frag
  B : Heap
  p : Program
  loose : List Str
  mg : Str → Option Value
  mb : Str → Option Value

structure Gl.Ok (G : Gl) : Prop where
  kin : G.K.In G.B
  top : TopRead G.p G.loose G.mg G.mb G.B

inductive AttrsAre : List DictEntry → List (Str × Value) → Prop
  | nil : AttrsAre [] []
  | cons {hs : Int} {x : Str} {t : Tok} {u v : Value} {es : List DictEntry} {fs : List (Str × Value)} : er u = v → AttrsAre es fs → AttrsAre (⟨hs, .str x t, u⟩ :: es) ((x, v) :: fs)

noncomputable def MO.Is (G : Gl) : MO → Obj → Prop
  | .list _ xs, o => ∃ vs n, o = listOf vs n ∧ vs.toList.map er = xs
  | .tuple xs, o => ∃ vs n, o = { cls := .type "tuple", data := .seq vs n } ∧ vs.toList.map er = xs
  | .inst C d, o => o = instObj C d
  | .attrs _ fs, o => ∃ es n, o = dictOf es n ∧ AttrsAre es fs
  | .tab _ es, o => ∃ kvs, o.IsDictOf (intKind G.prog G.w) kvs ∧ kvs.map (fun p => (p.1, er p.2)) = es
  | .meth f x, o => o = methodObj (.ref f) (.ref x)
  | .rng n, o => ∃ t u v, o = { cls := .type "range", dict := none, data := .fields #[.int 0 t, .int n u, .int 1 v], slots := #[] }
  | .cell v, o => ∃ u, o.data = .cell u ∧ u.map er = v

/-- what no step turns -/
noncomputable def MO.fz : MO → Bool
  | .list z _ | .attrs z _ | .tab z _ => z
  | .cell _ => false
  | _ => true

structure HAbs (G : Gl) (H : Hp) (s : Shared) : Prop where
  sz : G.B.objs.size ≤ s.heap.objs.size
  keep : ∀ b o, G.B.get? b = some o → s.heap.get? b = some o
  ob : ∀ a o, H a = some o → (∃ c, s.heap.get? a = some c ∧ o.Is G c) ∧ G.B.get? a = none

structure Out (Lo : Option Addr) (H H' : Hp) (s s' : Shared) : Prop where
  sh : ∃ h tk, s' = { s with heap := h, toks := tk }
  keep : ∀ b o, some b ≠ Lo → H b = none → s.heap.get? b = some o → H' b = none ∧ s'.heap.get? b = some o

theorem Out.refl (Lo : Option Addr) (H : Hp) (s : Shared) : Out Lo H H s s := ⟨⟨s.heap, s.toks, rfl⟩, fun _ _ _ h e => ⟨h, e⟩⟩
theorem Out.trans {Lo : Option Addr} {H H' H'' : Hp} {s s' s'' : Shared} (x : Out Lo H H' s s') (y : Out Lo H' H'' s' s'') : Out Lo H H'' s s'' := by
  (refine x2_1 x.sh ?_; intro h tk rfl)
  refine x2_1 y.sh ?_; intro h' tk' rfl
  exact ⟨⟨h', tk', rfl⟩, fun b o hb hn e => let ⟨h1, h2⟩ := x.keep b o hb hn e; y.keep b o hb h1 h2⟩

structure St where
  m : Str → Option Value
  H : Hp

structure FAbs (G : Gl) (L : Addr) (σ : St) (s : Shared) : Prop where
  h : HAbs G σ.H s
  off : σ.H L = none
  fr : ∃ m, Fr G.B L s.heap m ∧ ∀ x v, σ.m x = some v → ∃ u, m x = some u ∧ er u = v

/-- what holds behind a statement; kept apart, so that the terms stay small -/
abbrev Seq (X : St → Prop) (Q : Flow → St → Prop) (f : Flow) (σ : St) : Prop := match f with
  | .next => X σ
  | f => Q f σ
abbrev Loop (X : St → Prop) (Q : Flow → St → Prop) (f : Flow) (σ : St) : Prop := match f with
  | .next | .cont => X σ
  | .brk => Q .next σ
  | .ret v => Q (.ret v) σ
abbrev LessJ (J : Nat → St → Prop) (n : Nat) (σ : St) : Prop := ∃ n', n' < n ∧ J n' σ
abbrev At (J : Nat → St → Prop) (i : Nat) (σ : St) : Prop := J i σ
abbrev PreQ (v : Value) (Q : List Value → St → Prop) (vs : List Value) (σ : St) : Prop := Q (v :: vs) σ

/-- a tree, from an abstract state; no exception -/
noncomputable def Wt {α β : Type} (G : Gl) (A : Around) (L : Addr) (ρ : α → β) (t : Sem α) (Q : β → St → Prop) (σ : St) : Prop :=
  ∀ s, FAbs G L σ s → wpAny (model G.prog G.w) A t (fun a s' => ∃ σ', FAbs G L σ' s' ∧ Out (some L) σ.H σ'.H s s' ∧ Q (ρ a) σ') (fun _ _ => False) s

noncomputable def Ends (G : Gl) (Q : Value → Hp → Prop) (H : Hp) (s : Shared) (r : Result) (s' : Shared) : Prop := match r with
  | .ok (.ret v) => ∃ H', HAbs G H' s' ∧ Out none H H' s s' ∧ Q (er v) H'
  | _ => False
/-- a call, from an abstract heap; no exception -/
noncomputable def Wc (G : Gl) (A : Around) (f : Value) (vs : List Value) (Q : Value → Hp → Prop) (H : Hp) : Prop :=
  ∀ s us, us.map er = vs → HAbs G H s → codeAny (model G.prog G.w) A (.call f ⟨us, []⟩) (Ends G Q H s) s

noncomputable def erF : Flow → Flow
  | .ret v => .ret (er v)
  | f => f

abbrev We (G : Gl) (A : Around) (env : Env) (e : PySem.Expr) (Q : Value → St → Prop) (σ : St) : Prop := Wt G A env.locals er (eval e env) Q σ
abbrev Wb (G : Gl) (A : Around) (env : Env) (e : PySem.Expr) (Q : Bool → St → Prop) (σ : St) : Prop := Wt G A env.locals id (isTrue e env (eval e env)) Q σ
abbrev Ws (G : Gl) (A : Around) (env : Env) (b : List Stmt) (Q : Flow → St → Prop) (σ : St) : Prop := Wt G A env.locals erF (execs b env) Q σ
abbrev Wst (G : Gl) (A : Around) (env : Env) (b : Stmt) (Q : Flow → St → Prop) (σ : St) : Prop := Wt G A env.locals erF (exec b env) Q σ

section
variable {α β γ δ : Type} {G : Gl} {A : Around} {L : Addr} {σ : St}

theorem Wt.mono {ρ : α → β} {t : Sem α} {Q Q' : β → St → Prop} (h : Wt G A L ρ t Q σ) (hQ : ∀ b σ', Q b σ' → Q' b σ') : Wt G A L ρ t Q' σ :=
  fun s a => wpAny_mono (h s a) (fun _ _ ⟨σ', x, y, z⟩ => ⟨σ', x, y, hQ _ _ z⟩) fun _ _ x => x



end

section
variable {G : Gl} {A : Around} {env : Env} {σ : St}

theorem noE {α : Type} {M : Model} {t : Sem α} {Q : α → Shared → Prop} {E : Value → Shared → Prop} {s : Shared} (h : wpAny M A t Q (fun _ _ => False) s) : wpAny M A t Q E s :=
  wpAny_mono h (fun _ _ x => x) fun _ _ x => x.elim

theorem Ws_nil {Q : Flow → St → Prop} (h : Q .next σ) : Ws G A env [] Q σ := fun s x => wpAny_execs_nil ⟨σ, x, Out.refl .., h⟩

theorem Ws_cons {st : Stmt} {rest : List Stmt} {Q : Flow → St → Prop} (h : Wst G A env st (Seq (Ws G A env rest Q) Q) σ) : Ws G A env (st :: rest) Q σ := fun s x => by
  refine wpAny_execs_cons (wpAny_mono (h s x) ?_ fun _ _ x => x)
  intro f s₁ hq1
  refine x1_3 hq1 ?_; (try clear hq1); intro σ₁ x₁ o₁ q
  cases f with
  | next =>
    refine wpAny_mono (q s₁ x₁) ?_ fun _ _ x => x
    intro f s₂ hq2
    refine x1_3 hq2 ?_; (try clear hq2); intro σ₂ x₂ o₂ q₂
    exact ⟨σ₂, x₂, o₁.trans o₂, q₂⟩
  | brk => exact ⟨σ₁, x₁, o₁, q⟩
  | cont => exact ⟨σ₁, x₁, o₁, q⟩
  | ret v => exact ⟨σ₁, x₁, o₁, q⟩

theorem Wst_If {test : PySem.Expr} {body orelse : List Stmt} {pos : Pos} {Q : Flow → St → Prop}
    (h : Wb G A env test (fun b σ₁ => if b = true then Ws G A env body Q σ₁ else Ws G A env orelse Q σ₁) σ) : Wst G A env (.If test body orelse pos) Q σ := fun s x => by
  refine wpAny_If (wpAny_mono (h s x) ?_ fun _ _ x => x)
  intro b s₁ hq3
  refine x1_3 hq3 ?_; (try clear hq3); intro σ₁ x₁ o₁ q
  cases b
  · refine wpAny_mono (q s₁ x₁) ?_ fun _ _ x => x
    intro f s₂ hq4
    refine x1_3 hq4 ?_; (try clear hq4); intro σ₂ x₂ o₂ q₂
    exact ⟨σ₂, x₂, o₁.trans o₂, q₂⟩
  · refine wpAny_mono (q s₁ x₁) ?_ fun _ _ x => x
    intro f s₂ hq5
    refine x1_3 hq5 ?_; (try clear hq5); intro σ₂ x₂ o₂ q₂
    exact ⟨σ₂, x₂, o₁.trans o₂, q₂⟩

theorem Wst_Return {e : PySem.Expr} {pos : Pos} {Q : Flow → St → Prop} (h : We G A env e (fun v σ₁ => Q (.ret v) σ₁) σ) : Wst G A env (.Return (some e) pos) Q σ := fun s x =>
  wpAny_Return_some (wpAny_mono (h s x) (fun _ _ ⟨σ₁, x₁, o₁, q⟩ => ⟨σ₁, x₁, o₁, q⟩) fun _ _ x => x)


theorem Fx.set {m : Str → Option Value} {L : Addr} {s : Shared} {x : Str} {v : Value} (X : FAbs G L σ s) {h' : Heap} {tk : Nat} (hm : Fr G.B L s.heap m) (hml : ∀ x v, σ.m x = some v → ∃ u, m x = some u ∧ er u = v)
    (hn : h'.Ns L (fun y => if y = x then some v else m y)) (hs : Heap.SameBut L s.heap h') :
    FAbs G L ⟨setm σ.m x (er v), σ.H⟩ { s with heap := h', toks := tk } ∧ Out (some L) σ.H σ.H s { s with heap := h', toks := tk } := by
  refine ⟨⟨⟨by show _ ≤ h'.objs.size; rw [hs.1]; exact X.h.sz, fun b o e => ?_, fun a o e => ?_⟩, X.off, _, hm.set hn hs, fun y u e => ?_⟩, ⟨⟨h', tk, rfl⟩, fun b o hb hn' e => ⟨hn', ?_⟩⟩⟩
  · exact (hm.set hn hs).keep b o e
  · refine x0_2 (X.h.ob a o e) ?_; intro hq6 hb
    refine x1_2 hq6 ?_; (try clear hq6); intro c hc hi
    exact ⟨⟨c, (hs.2 a (fun q => by subst q; rw [X.off] at e; cases e)).trans hc, hi⟩, hb⟩
  · dsimp only [setm] at e
    by_cases hy : y = x
    · rw [if_pos hy] at e ⊢; cases e; exact ⟨v, rfl, rfl⟩
    · rw [if_neg hy] at e ⊢; exact hml y u e
  · exact (hs.2 b (fun q => hb (by rw [q]))).trans e

theorem W_storeName {x : Str} {v : Value} {Q : Unit → St → Prop} (hl : env.kindOf x = some .local) (hp : (env.scope.kind == .class || (env.scope.kind == .module && env.locals != env.globals)) = false)
    (h : Q () ⟨setm σ.m x (er v), σ.H⟩) : Wt G A env.locals id (storeName env x v) Q σ := fun s X => by
  (refine x1_2 X.fr ?_; intro m hm hml)
  refine wpAny_storeName_local hl hm.ns (fun h' hn hs => ?_) hp
  refine x0_2 (Fx.set (tk := s.toks + 1) X hm hml hn hs) ?_; intro a b
  exact ⟨_, a, b, h⟩

theorem Wst_Assign {x : Str} {px : Pos} {e : PySem.Expr} {pos : Pos} {Q : Flow → St → Prop} (h : We G A env e (fun v σ₁ => Q .next ⟨setm σ₁.m x v, σ₁.H⟩) σ)
    (hl : env.kindOf x = some .local := by with_unfolding_all rfl) (hs : swapsWith e (some (.Name x px)) pos.line env = pure false := by with_unfolding_all rfl)
    (hp : (env.scope.kind == .class || (env.scope.kind == .module && env.locals != env.globals)) = false := by with_unfolding_all rfl) : Wst G A env (.Assign [.Name x px] e pos) Q σ := fun s X => by
  refine wpAny_Assign_Name (wpAny_mono (h s X) ?_ fun _ _ x => x) hs
  intro v s₁ hq7
  refine x1_3 hq7 ?_; (try clear hq7); intro σ₁ x₁ o₁ q
  refine wpAny_mono (W_storeName (σ := σ₁) (A := A) (Q := fun _ σ₂ => σ₂ = ⟨setm σ₁.m x (er v), σ₁.H⟩) hl hp rfl s₁ x₁) ?_ fun _ _ x => x
  intro _ s₂ hq8
  refine x1_3 hq8 ?_; (try clear hq8); intro σ₂ x₂ o₂ rfl
  exact ⟨_, x₂, o₁.trans o₂, q⟩

theorem We_Local {x : Str} {pos : Pos} {v : Value} {Q : Value → St → Prop} (hv : σ.m x = some v) (h : Q v σ)
    (hl : env.kindOf x = some .local := by with_unfolding_all rfl) (hk : env.scope.kind = .function := by with_unfolding_all rfl) (hd : (x == ("__debug__" : Str)) = false := by with_unfolding_all decide) : We G A env (.Name x pos) Q σ := fun s X => by
  (refine x1_2 X.fr ?_; intro m hm hml)
  refine x1_2 (hml x v hv) ?_; intro u hu hue
  exact wpAny_Name (wpAny_loadName_local hk hl hm.ns hu ⟨σ, X, Out.refl .., by rw [hue]; exact h⟩) hd

theorem We_Global (O : G.Ok) {x : Str} {pos : Pos} {v : Value} {Q : Value → St → Prop} (e : nsIn G.K mainGlobals x = some (some v)) (h : Q (er v) σ)
    (hl : env.kindOf x = some .globalImplicit := by with_unfolding_all rfl) (hk : env.scope.kind = .function := by with_unfolding_all rfl) (hg : env.globals = mainGlobals := by with_unfolding_all rfl) (hd : (x == ("__debug__" : Str)) = false := by with_unfolding_all decide) : We G A env (.Name x pos) Q σ := fun s X =>
  Name_function_global hk hl (loadGlobal_global (hg ▸ O.top.g.keeps X.h.keep) (mg_of O.kin O.top.g e) ⟨σ, X, Out.refl .., h⟩) hd

theorem We_Builtin (O : G.Ok) {x : Str} {pos : Pos} {v : Value} {Q : Value → St → Prop} (e : nsIn G.K mainGlobals x = some none) (hv : bootBuiltins x = some v) (h : Q (er v) σ)
    (hn : x ≠ "__name__" := by with_unfolding_all decide) (hl : env.kindOf x = some .globalImplicit := by with_unfolding_all rfl) (hk : env.scope.kind = .function := by with_unfolding_all rfl) (hg : env.globals = mainGlobals := by with_unfolding_all rfl) (hb : env.builtins = builtinsNs := by with_unfolding_all rfl) (hd : (x == ("__debug__" : Str)) = false := by with_unfolding_all decide) : We G A env (.Name x pos) Q σ := fun s X =>
  Name_function_global hk hl (loadGlobal_builtin (hg ▸ O.top.g.keeps X.h.keep) (mg_none_of O.kin O.top.g e) (hb ▸ O.top.b.keeps X.h.keep) ((O.top.builtins x hn).trans hv) ⟨σ, X, Out.refl .., h⟩) hd

theorem FAbs.tok {L : Addr} {s : Shared} {tk : Nat} (X : FAbs G L σ s) : FAbs G L σ { s with toks := tk } := ⟨⟨X.h.sz, X.h.keep, X.h.ob⟩, X.off, X.fr⟩
theorem Out.tok {Lo : Option Addr} {H : Hp} {s : Shared} {tk : Nat} : Out Lo H H s { s with toks := tk } := ⟨⟨s.heap, tk, rfl⟩, fun _ _ _ h e => ⟨h, e⟩⟩

theorem We_Int {i : Int} {k : Nat} {pos : Pos} {Q : Value → St → Prop} (h : Q (.int i 0) σ) : We G A env (.Constant (.int i) k pos) Q σ := fun s X =>
  wpAny_Constant_int ⟨σ, X.tok, Out.tok, h⟩
theorem We_Str {x : Str} {k : Nat} {pos : Pos} {Q : Value → St → Prop} (h : Q (.str x 0) σ) : We G A env (.Constant (.str x) k pos) Q σ := fun s X =>
  wpAny_Constant_str ⟨σ, X.tok, Out.tok, h⟩
theorem We_Bool {b : Bool} {k : Nat} {pos : Pos} {Q : Value → St → Prop} (h : Q (.bool b) σ) : We G A env (.Constant (.bool b) k pos) Q σ := fun s X =>
  wpAny_Constant_bool ⟨σ, X, Out.refl .., h⟩
theorem We_None {k : Nat} {pos : Pos} {Q : Value → St → Prop} (h : Q .none σ) : We G A env (.Constant .none k pos) Q σ := fun s X =>
  wpAny_Constant_none ⟨σ, X, Out.refl .., h⟩

/-- an operation on values -/
noncomputable def Wv {α β : Type} (G : Gl) (A : Around) (L : Addr) (ρ : α → β) (f : Value → Sem α) (v : Value) (Q : β → St → Prop) (σ : St) : Prop := ∀ u, er u = v → Wt G A L ρ (f u) Q σ
noncomputable def Wv2 {α β : Type} (G : Gl) (A : Around) (L : Addr) (ρ : α → β) (f : Value → Value → Sem α) (v v' : Value) (Q : β → St → Prop) (σ : St) : Prop := ∀ u u', er u = v → er u' = v' → Wt G A L ρ (f u u') Q σ

theorem W_then {α β : Type} {ρ : α → β} {t : Sem α} {Q : β → St → Prop} {L : Addr} {s s₁ : Shared} {σ₁ : St} (q : Wt G A L ρ t Q σ₁) (x₁ : FAbs G L σ₁ s₁) (o : Out (some L) σ.H σ₁.H s s₁) :
    wpAny (model G.prog G.w) A t (fun a s' => ∃ σ', FAbs G L σ' s' ∧ Out (some L) σ.H σ'.H s s' ∧ Q (ρ a) σ') (fun _ _ => False) s₁ := by
  refine wpAny_mono (q s₁ x₁) ?_ fun _ _ x => x
  intro f s₂ hq9
  refine x1_3 hq9 ?_; (try clear hq9); intro σ₂ x₂ o₂ q₂
  exact ⟨σ₂, x₂, o.trans o₂, q₂⟩

theorem We_BinOp {l r : PySem.Expr} {op : Operator} {pos : Pos} {Q : Value → St → Prop} (h : We G A env l (fun a σ₁ => We G A env r (fun b σ₂ => Wv2 G A env.locals er (binaryOp op) a b Q σ₂) σ₁) σ) : We G A env (.BinOp l op r pos) Q σ := fun s X => by
  refine wpAny_BinOp (wpAny_mono (h s X) ?_ fun _ _ x => x)
  intro a s₁ hq10
  refine x1_3 hq10 ?_; (try clear hq10); intro σ₁ x₁ o₁ q₁
  refine wpAny_mono (q₁ s₁ x₁) ?_ fun _ _ x => x
  intro b s₂ hq11
  refine x1_3 hq11 ?_; (try clear hq11); intro σ₂ x₂ o₂ q₂
  exact W_then (q₂ a b rfl rfl) x₂ (o₁.trans o₂)

theorem We_Compare {l r : PySem.Expr} {op : CmpOp} {pos : Pos} {Q : Value → St → Prop} (h : We G A env l (fun a σ₁ => We G A env r (fun b σ₂ => Wv2 G A env.locals er (compareOp op) a b Q σ₂) σ₁) σ)
    (hm : behindInMarks op r = false := by with_unfolding_all rfl) : We G A env (.Compare l [op] [r] pos) Q σ := fun s X => by
  refine wpAny_Compare1 (wpAny_mono (h s X) ?_ fun _ _ x => x) hm
  intro a s₁ hq12
  refine x1_3 hq12 ?_; (try clear hq12); intro σ₁ x₁ o₁ q₁
  refine wpAny_mono (q₁ s₁ x₁) ?_ fun _ _ x => x
  intro b s₂ hq13
  refine x1_3 hq13 ?_; (try clear hq13); intro σ₂ x₂ o₂ q₂
  exact W_then (q₂ a b rfl rfl) x₂ (o₁.trans o₂)

theorem Wb_Compare {l r : PySem.Expr} {op : CmpOp} {pos : Pos} {Q : Bool → St → Prop} (h : We G A env l (fun a σ₁ => We G A env r (fun b σ₂ => Wv2 G A env.locals er (compareOp op) a b (fun c σ₃ => Wv G A env.locals id truthy c Q σ₃) σ₂) σ₁) σ)
    (hm : behindInMarks op r = false := by with_unfolding_all rfl) : Wb G A env (.Compare l [op] [r] pos) Q σ := fun s X => by
  refine wpAny_isTrue_Compare1 (wpAny_mono (h s X) ?_ fun _ _ x => x) hm
  intro a s₁ hq14
  refine x1_3 hq14 ?_; (try clear hq14); intro σ₁ x₁ o₁ q₁
  refine wpAny_mono (q₁ s₁ x₁) ?_ fun _ _ x => x
  intro b s₂ hq15
  refine x1_3 hq15 ?_; (try clear hq15); intro σ₂ x₂ o₂ q₂
  refine wpAny_mono (q₂ a b rfl rfl s₂ x₂) ?_ fun _ _ x => x
  intro c s₃ hq16
  refine x1_3 hq16 ?_; (try clear hq16); intro σ₃ x₃ o₃ q₃
  exact W_then (q₃ c rfl) x₃ ((o₁.trans o₂).trans o₃)

theorem W_truthy_bool {b : Bool} {L : Addr} {Q : Bool → St → Prop} (h : Q b σ) : Wv G A L id truthy (.bool b) Q σ := fun u hu s X => by
  cases u <;> simp [er] at hu
  subst hu
  exact wpAny_truthy_bool ⟨σ, X, Out.refl .., h⟩

theorem er_int {u : Value} {i : Int} (h : er u = .int i 0) : ∃ t, u = .int i t := by cases u <;> simp_all [er]
theorem er_ref {u : Value} {a : Addr} (h : er u = .ref a) : u = .ref a := by cases u <;> simp_all [er]
theorem er_bool {u : Value} {b : Bool} (h : er u = .bool b) : u = .bool b := by cases u <;> simp_all [er]
theorem er_none {u : Value} (h : er u = .none) : u = .none := by cases u <;> simp_all [er]
theorem er_builtin {u : Value} {x : String} (h : er u = .builtin x) : u = .builtin x := by cases u <;> simp_all [er]
theorem er_type {u : Value} {x : String} (h : er u = .type x) : u = .type x := by cases u <;> simp_all [er]
theorem er_str {u : Value} {x : Str} (h : er u = .str x 0) : ∃ t, u = .str x t := by cases u <;> simp_all [er]

end

end -- MW1

section -- MW2

structure Rm (A : Around) (n : Nat) : Prop where
  hd : A.handled = none
  dp : A.depth + n < recursionLimit
  un : A.units + 10 * n < cLine

theorem Rm.le {A : Around} {n k : Nat} (h : Rm A n) (hk : k ≤ n) : Rm A k := ⟨h.hd, by have := h.dp; lia, by have := h.un; lia⟩
theorem Rm.deeper {A : Around} {n : Nat} {env : Env} (h : Rm A (n + 1)) : Rm (A.deeper env) n := ⟨h.hd, by have := h.dp; show A.depth + 1 + n < _; lia, by have := h.un; show A.units + 3 + 10 * n < _; lia⟩

section
variable {G : Gl} {A : Around} {env : Env} {σ : St} {L : Addr}

/-- the values of the call's arguments -/
abbrev Wargs (G : Gl) (A : Around) (env : Env) (pos : Pos) (es : List PySem.Expr) (Q : List Value → St → Prop) (σ : St) : Prop := Wt G A env.locals (List.map er) (spliced (backTo pos (starEach es env))) Q σ
theorem Wargs_nil {pos : Pos} {Q : List Value → St → Prop} (h : Q [] σ) : Wargs G A env pos [] Q σ := fun s X => args_nil ⟨σ, X, Out.refl .., h⟩
theorem Wargs_cons {pos : Pos} {e : PySem.Expr} {rest : List PySem.Expr} {Q : List Value → St → Prop} (h : We G A env e (fun v σ₁ => Wargs G A env pos rest (PreQ v Q) σ₁) σ)
    (he : starEach (e :: rest) env = (false, eval e env) :: starEach rest env := by with_unfolding_all rfl) : Wargs G A env pos (e :: rest) Q σ := fun s X => by
  refine args_cons (wpAny_mono (h s X) ?_ fun _ _ x => x) he
  intro a s₁ hq1
  refine x1_3 hq1 ?_; (try clear hq1); intro σ₁ x₁ o₁ q₁
  refine wpAny_mono (q₁ s₁ x₁) ?_ fun _ _ x => x
  intro b s₂ hq2
  refine x1_3 hq2 ?_; (try clear hq2); intro σ₂ x₂ o₂ q₂
  exact ⟨σ₂, x₂, o₁.trans o₂, q₂⟩

noncomputable def Wcall (G : Gl) (A : Around) (L : Addr) (f : Value) (vs : List Value) (Q : Value → St → Prop) (σ : St) : Prop := ∀ us, us.map er = vs → Wt G A L er (call f us) Q σ

theorem FAbs.back {s s' : Shared} {H' : Hp} (X : FAbs G L σ s) (h : HAbs G H' s') (o : Out none σ.H H' s s') : FAbs G L ⟨σ.m, H'⟩ s' ∧ Out (some L) σ.H H' s s' := by
  (refine x1_2 X.fr ?_; intro m F hm)
  refine x3_2 F.ns ?_; intro oL es ep hL r
  have z := o.keep L oL (by intro q; cases q) X.off hL
  exact ⟨⟨h, z.1, m, ⟨⟨oL, es, ep, z.2, r⟩, h.keep, F.above⟩, hm⟩, ⟨o.sh, fun b ob _ hb e => o.keep b ob (by intro q; cases q) hb e⟩⟩

theorem Wcall_of {f : Value} {vs : List Value} {Q : Value → St → Prop} (h : Wc G A f vs (fun r H' => Q r ⟨σ.m, H'⟩) σ.H) : Wcall G A L f vs Q σ := fun us hu s X => by
  refine wpAny_call (codeAny_mono (h s us hu X.h) ?_)
  intro r s' z
  rcases r with e | f
  · exact z.elim
  · cases f <;> first | exact z.elim | skip
    refine x1_3 z ?_; (try clear z); intro H' h' o q
    refine x0_2 (X.back h' o) ?_; intro a b
    exact ⟨_, a, b, q⟩

noncomputable def bindm (ns : List Str) (vs : List Value) : Str → Option Value := fun x => (ns.zip vs).reverse.lookup x

theorem lookup_er (x : Str) (v : Value) : ∀ l : List (Str × Value), (l.map fun p => (p.1, er p.2)).lookup x = some v → ∃ u, l.lookup x = some u ∧ er u = v
  | [], h => by cases h
  | p :: l, h => by
    rw [List.map_cons, List.lookup_cons] at h
    rw [List.lookup_cons]
    cases q : (x == p.1) with
    | true =>
      have h' : some (er p.2) = some v := by simpa [q] using h
      exact ⟨_, rfl, Option.some.inj h'⟩
    | false => exact lookup_er x v l (by simpa [q] using h)
theorem bindm_er {ns : List Str} {us : List Value} {x : Str} {v : Value} (h : bindm ns (us.map er) x = some v) : ∃ u, (ns.zip us).reverse.lookup x = some u ∧ er u = v := by
  refine lookup_er x v _ ?_
  unfold bindm at h
  rw [← h]
  congr 1
  rw [List.map_reverse]
  congr 1
  clear h
  induction ns generalizing us with
  | nil => rfl
  | cons n ns ih => cases us with
    | nil => rfl
    | cons u us => simp [ih]

noncomputable def retOf : Flow → Value
  | .ret v => v
  | _ => .none

theorem Wc_def (O : G.Ok) {f : Addr} {oc : Value} {od : Option Addr} {osl : Array (Option Value)} {name qual : Str} {params : Arguments} {body : List Stmt} {scope : Scope} {dV kV doc pm cdv ct : Value} {an : Option Addr} {vs : List Value} {H : Hp} {Q : Value → Hp → Prop}
    (ho : G.K.lookup f = some ⟨oc, od, .func (fnOf name qual params body scope dV kV doc pm an cdv ct), osl⟩) (hcd : codeIn G.K cdv qual = true) (hroom : A.depth < recursionLimit) (ns : List Str)
    (hbind : ∀ us : List Value, us.length = vs.length → bindArgs (fnOf name qual params body scope dV kV doc pm an cdv ct) ⟨us, []⟩ = pure (ns.zip us)) (hloc : ns.all (fun x => scope.names.lookup x == some .local) = true)
    (hcell : scope.names.all (fun x => x.2 != .cell) = true) (hco : scope.isCoroutine = false) (hgen : scope.isGenerator = false) (hk : scope.kind = .function)
    (h : ∀ L, H L = none → Ws G (A.deeper (envOf qual scope L f cdv)) (envOf qual scope L f cdv) body (fun fl σ' => Q (retOf fl) σ'.H) ⟨bindm ns vs, H⟩) : Wc G A (.ref f) vs Q H := fun s us hu X => by
  have hl : us.length = vs.length := by rw [← hu, List.length_map]
  have KX := O.kin.keeps X.keep
  refine (codeAny_call_def (fd := fnOf name qual params body scope dV kV doc pm an cdv ct) (body := body) (binds := ns.zip us) hroom (KX _ _ ho) rfl (O.top.nolimit.keeps X.keep) (codeRec_of KX hcd) rfl (.of_eq (hbind us hl)) ?_ ?_ (fun h₀ hns hk₀ => ?_) hco hgen hk)
  · intro x hx
    have := List.all_eq_true.mp hcell x hx
    simpa using this
  · intro x hx
    have := List.all_eq_true.mp hloc x.1 (List.of_mem_zip hx).1
    simpa using this
  have hL : H s.heap.objs.size = none := by
    cases q : H s.heap.objs.size with
    | none => rfl
    | some o => (refine x0_2 (X.ob _ _ q) ?_; rintro ⟨c, hc, _⟩ _); exact absurd (Heap.lt_size hc) (Nat.lt_irrefl _)
  have F : FAbs G s.heap.objs.size ⟨bindm ns vs, H⟩ { s with heap := h₀, toks := s.toks + (ns.zip us).length } := by
    refine ⟨⟨?_, fun b o e => hk₀ b o (X.keep b o e), fun a o e => ?_⟩, hL, _, ⟨hns, fun b o e => hk₀ b o (X.keep b o e), X.sz⟩, fun x v e => ?_⟩
    · refine x3_2 hns ?_; (try clear hns); intro oL _ _ hL' _
      exact Nat.le_of_lt (Nat.lt_of_le_of_lt X.sz (Heap.lt_size hL'))
    · refine x0_2 (X.ob a o e) ?_; intro hq3 hb
      refine x1_2 hq3 ?_; (try clear hq3); intro c hc hi
      exact ⟨⟨c, hk₀ a c hc, hi⟩, hb⟩
    · subst hu; exact bindm_er e
  refine wpAny_mono (h _ hL _ F) ?_ fun _ _ x => x.elim
  intro fl s' hq4
  refine x1_3 hq4 ?_; (try clear hq4); intro σ' x' o' q
  refine (show ∃ H', _ from ⟨σ'.H, x'.h, ⟨?_, fun b o _ hb e => ?_⟩, ?_⟩)
  · refine x2_1 o'.sh ?_; intro h' tk e
    exact ⟨h', tk, e⟩
  · refine o'.keep b o (fun q => ?_) hb (hk₀ b o e)
    have := Option.some.inj q
    exact absurd (Heap.lt_size e) (by rw [show b = s.heap.objs.size from this]; exact Nat.lt_irrefl _)
  · cases fl <;> exact q

/-- call of a def or class that stands at the top: name(args) -/
theorem We_Call {func : PySem.Expr} {args : List PySem.Expr} {pos : Pos} {Q : Value → St → Prop}
    (h : We G A env func (fun f σ₁ => ∀ f', er f' = f → Wt G A env.locals er (callWith pos f' [] (backTo pos (starEach args env)) []) Q σ₁) σ)
    (he : eval (.Call func args [] pos) env = (do callWith pos (← eval func env) [] (backTo pos (starEach args env)) (backToKw pos (keywordEach [] env))) := by with_unfolding_all rfl) : We G A env (.Call func args [] pos) Q σ := fun s X => by
  refine Call_ (wpAny_mono (h s X) ?_ fun _ _ x => x) he
  intro f s₁ hq5
  refine x1_3 hq5 ?_; (try clear hq5); intro σ₁ x₁ o₁ q₁
  exact W_then (q₁ f rfl) x₁ o₁

theorem FAbs.kin (O : G.Ok) {s : Shared} (X : FAbs G L σ s) : G.K.In s.heap := O.kin.keeps X.h.keep

/-- the call behind the arguments, the callee's keeper by what it is in the written part -/
theorem W_callWith_K0 (O : G.Ok) {f : Value} {first : List Value} {pos : Pos} {Q : Value → St → Prop} (hk : keepIn G.K f = true)
    (h : Wcall G A env.locals f (first.map er) Q σ) : Wt G A env.locals er (callWith pos f first (backTo pos (starEach [] env)) []) Q σ := fun s X =>
  callWith_K0 (X.kin O) hk (h (first ++ []) (by simp) s X)
theorem W_callWith_K (O : G.Ok) {f : Value} {first : List Value} {e : PySem.Expr} {rest : List PySem.Expr} {pos : Pos} {Q : Value → St → Prop} (hk : keepIn G.K f = true)
    (h : Wargs G A env pos (e :: rest) (fun vs σ₁ => Wcall G A env.locals f (first.map er ++ vs) Q σ₁) σ)
    (he : starEach (e :: rest) env = (false, eval e env) :: starEach rest env := by with_unfolding_all rfl) (hplain : (backTo pos (starEach rest env)).any (·.1) = false := by with_unfolding_all rfl) :
    Wt G A env.locals er (callWith pos f first (backTo pos (starEach (e :: rest) env)) []) Q σ := fun s X => by
  refine callWith_K (h₀ := G.B) O.kin hk ?_ he hplain
  refine wpAny_mono (h s X) ?_ fun _ _ x => x
  intro vs s₁ hq6
  refine x1_3 hq6 ?_; (try clear hq6); intro σ₁ x₁ o₁ q₁
  exact ⟨x₁.kin O, W_then (q₁ (first ++ vs) (by rw [List.map_append])) x₁ o₁⟩
theorem W_callWith_B {id : String} {first : List Value} {e : PySem.Expr} {rest : List PySem.Expr} {pos : Pos} {Q : Value → St → Prop}
    (h : Wargs G A env pos (e :: rest) (fun vs σ₁ => Wcall G A env.locals (.builtin id) (first.map er ++ vs) Q σ₁) σ)
    (he : starEach (e :: rest) env = (false, eval e env) :: starEach rest env := by with_unfolding_all rfl) (hplain : (backTo pos (starEach rest env)).any (·.1) = false := by with_unfolding_all rfl) :
    Wt G A env.locals er (callWith pos (.builtin id) first (backTo pos (starEach (e :: rest) env)) []) Q σ := fun s X => by
  have h := h s X
  rw [he] at h ⊢
  refine callWith_builtin (by show (false || (backTo pos (starEach rest env)).any (·.1)) = false; rw [hplain]; rfl) (evalArgs_plain ?_)
  refine wpAny_mono h ?_ fun _ _ x => x
  intro vs s₁ hq7
  refine x1_3 hq7 ?_; (try clear hq7); intro σ₁ x₁ o₁ q₁
  exact W_then (q₁ (first ++ vs) (by rw [List.map_append])) x₁ o₁
theorem W_callWith_B0 {id : String} {first : List Value} {pos : Pos} {Q : Value → St → Prop}
    (h : Wcall G A env.locals (.builtin id) (first.map er) Q σ) : Wt G A env.locals er (callWith pos (.builtin id) first (backTo pos (starEach [] env)) []) Q σ := fun s X =>
  callWith_builtin rfl (PyProof.Rows.evalArgs_none (h (first ++ []) (by simp) s X))
theorem W_callWith_M {q g x : Addr} {e : PySem.Expr} {rest : List PySem.Expr} {pos : Pos} {Q : Value → St → Prop} (O : G.Ok) (hf : fnIn G.K g = true)
    (h : Wargs G A env pos (e :: rest) (fun vs σ₁ => σ₁.H q = some (.meth g x) ∧ Wcall G A env.locals (.ref q) vs Q σ₁) σ)
    (he : starEach (e :: rest) env = (false, eval e env) :: starEach rest env := by with_unfolding_all rfl) (hplain : (backTo pos (starEach rest env)).any (·.1) = false := by with_unfolding_all rfl) :
    Wt G A env.locals er (callWith pos (.ref q) [] (backTo pos (starEach (e :: rest) env)) []) Q σ := fun s X => by
  refine callWith_of (P := MethP G.K q g (.ref x)) (by rw [he]; show ((false || (backTo pos (starEach rest env)).any (·.1)) || false) = false; rw [hplain]; rfl) (keeps_M hf) ?_
  have h := h s X
  rw [he] at h ⊢
  refine evalArgs_plain ?_
  refine wpAny_mono h ?_ fun _ _ x => x
  intro vs s₁ hq8
  refine x1_4 hq8 ?_; (try clear hq8); intro σ₁ x₁ o₁ hq q₁
  refine x0_2 (x₁.h.ob _ _ hq) ?_; intro hq9 _
  refine x1_2 hq9 ?_; (try clear hq9); intro c hc hi
  exact ⟨⟨by rw [hc, show c = methodObj (.ref g) (.ref x) from hi], x₁.kin O⟩, W_then (q₁ ([] ++ vs) (by simp)) x₁ o₁⟩
end

end -- MW2

section -- MW3

/-- every object that stands, but the frame's and the base's -/
noncomputable def full (B h : Heap) (L : Addr) : List (Addr × Obj) :=
  (List.range h.objs.size).filterMap fun a => if a = L then none else if (B.get? a).isSome then none else (h.get? a).map fun o => (a, o)

theorem mem_full {B h : Heap} {L a : Addr} {o : Obj} : (a, o) ∈ full B h L ↔ h.get? a = some o ∧ a ≠ L ∧ B.get? a = none := by
  unfold full
  rw [List.mem_filterMap]
  constructor
  · intro hq1
    refine x1_2 hq1 ?_; (try clear hq1); intro b hb e
    by_cases h1 : b = L
    · rw [if_pos h1] at e; cases e
    · rw [if_neg h1] at e
      by_cases h2 : (B.get? b).isSome = true
      · rw [if_pos h2] at e; cases e
      · rw [if_neg h2] at e
        refine x1_2 (Option.map_eq_some_iff.mp e) ?_; intro o' ho e
        cases e
        exact ⟨ho, h1, by simpa using h2⟩
  · intro hq2
    refine x0_3 hq2 ?_; (try clear hq2); intro h1 h2 h3
    refine ⟨a, List.mem_range.mpr (Heap.lt_size h1), ?_⟩
    rw [if_neg h2, h3, h1]
    rfl

theorem full_nodup (B h : Heap) (L : Addr) : ((full B h L).map (·.1)).Nodup := by
  unfold full
  generalize hn : h.objs.size = n
  clear hn
  have key : ∀ n, ((List.range n).filterMap fun a => if a = L then none else if (B.get? a).isSome then none else (h.get? a).map fun o => (a, o)).map (·.1) =
      (List.range n).filter fun a => !(decide (a = L)) && !(B.get? a).isSome && (h.get? a).isSome := by
    intro n
    induction (List.range n) with
    | nil => rfl
    | cons x l ih =>
      rw [List.filterMap_cons, List.filter_cons]
      by_cases h1 : x = L
      · simp only [h1, if_true, decide_true, Bool.not_true, Bool.false_and, Bool.false_eq_true, if_false]; simpa [h1] using ih
      · cases h2 : (B.get? x).isSome
        · cases h3 : h.get? x with
          | none => simp [h1, h2, h3, ih]
          | some o => simp [h1, h2, h3, ih]
        · simp [h1, h2, ih]
  rw [key]
  exact List.Pairwise.filter _ List.nodup_range

section
variable {G : Gl} {L : Addr} {σ : St} {s : Shared} {m : Str → Option Value}

theorem FAbs.full (X : FAbs G L σ s) : News G.B L s.heap (full G.B s.heap L) := fun p hp => by
  obtain ⟨a, o⟩ := p
  exact mem_full.mp hp

/-- nothing that stood is other than it was -/
theorem FAbs.same (X : FAbs G L σ s) (hm : ∀ x v, σ.m x = some v → ∃ u, m x = some u ∧ er u = v) {h' : Heap} {tk : Nat} {news' : List (Addr × Obj)} (F' : Fr G.B L h' m) (N' : News G.B L h' news') (hs : ∀ p ∈ Mine.full G.B s.heap L, p ∈ news') :
    FAbs G L σ { s with heap := h', toks := tk } ∧ Out (some L) σ.H σ.H s { s with heap := h', toks := tk } := by
  have keep : ∀ b o, b ≠ L → s.heap.get? b = some o → h'.get? b = some o := fun b o hb e => by
    cases q : G.B.get? b with
    | some o' => have := X.h.keep b o' q; rw [e] at this; cases this; exact F'.keep b o q
    | none => exact (N' (b, o) (hs _ (mem_full.mpr ⟨e, hb, q⟩))).1
  refine ⟨⟨⟨Nat.le_of_lt (Nat.lt_of_le_of_lt F'.above F'.ns.lt), F'.keep, fun a o e => ?_⟩, X.off, m, F', hm⟩, ⟨⟨h', tk, rfl⟩, fun b o hb hn e => ⟨hn, keep b o (fun q => hb (by rw [q])) e⟩⟩⟩
  refine x0_2 (X.h.ob a o e) ?_; intro hq3 hb
  refine x1_2 hq3 ?_; (try clear hq3); intro c hc hi
  exact ⟨⟨c, keep a c (fun q => by subst q; rw [X.off] at e; cases e) hc, hi⟩, hb⟩

theorem FAbs.noneAt (X : FAbs G L σ s) {a : Addr} (ha : s.heap.get? a = none) : σ.H a = none := by
  cases q : σ.H a with
  | none => rfl
  | some o => (refine x0_2 (X.h.ob a o q) ?_; rintro ⟨c, hc, _⟩ _); rw [ha] at hc; cases hc
theorem HAbs.noneAt {H : Hp} (X : HAbs G H s) {a : Addr} (ha : s.heap.get? a = none) : H a = none := by
  cases q : H a with
  | none => rfl
  | some o => (refine x0_2 (X.ob a o q) ?_; rintro ⟨c, hc, _⟩ _); rw [ha] at hc; cases hc

theorem get_ge {h : Heap} {a : Addr} (ha : h.objs.size ≤ a) : h.get? a = none := by
  cases q : h.get? a with
  | none => rfl
  | some o => exact absurd (Heap.lt_size q) (Nat.not_lt.mpr ha)

theorem upd_ne {H : Hp} {a b : Addr} {o : MO} (h : b ≠ a) : upd H a o b = H b := if_neg h
theorem upd_eq {H : Hp} {a : Addr} {o : MO} : upd H a o a = some o := if_pos rfl

/-- a new object -/
theorem FAbs.new (X : FAbs G L σ s) (hm : ∀ x v, σ.m x = some v → ∃ u, m x = some u ∧ er u = v) {h' : Heap} {tk : Nat} {news' : List (Addr × Obj)} {a : Addr} {o : Obj} {mo : MO} (F' : Fr G.B L h' m) (N' : News G.B L h' news') (hs : ∀ p ∈ Mine.full G.B s.heap L, p ∈ news')
    (ha : (a, o) ∈ news') (hf : s.heap.get? a = none) (hi : mo.Is G o) :
    FAbs G L ⟨σ.m, upd σ.H a mo⟩ { s with heap := h', toks := tk } ∧ Out (some L) σ.H (upd σ.H a mo) s { s with heap := h', toks := tk } ∧ σ.H a = none ∧ a ≠ L := by
  (refine x0_2 (X.same (tk := tk) hm F' N' hs) ?_; intro Y O)
  have ha' := N' _ ha
  refine ⟨⟨⟨Y.h.sz, Y.h.keep, fun b o' e => ?_⟩, (upd_ne (Ne.symm ha'.2.1)).trans X.off, m, F', hm⟩, ⟨O.sh, fun b o' hb hn e => ?_⟩, X.noneAt hf, ha'.2.1⟩
  · by_cases h1 : b = a
    · subst h1; cases upd_eq.symm.trans e; exact ⟨⟨o, ha'.1, hi⟩, ha'.2.2⟩
    · exact Y.h.ob b o' (by rw [← e]; exact (upd_ne h1).symm)
  · have h1 : b ≠ a := fun q => by rw [q, hf] at e; cases e
    exact ⟨(upd_ne h1).trans hn, (O.keep b o' hb hn e).2⟩

/-- one object turned -/
theorem FAbs.turn (X : FAbs G L σ s) (hm : ∀ x v, σ.m x = some v → ∃ u, m x = some u ∧ er u = v) {h' : Heap} {tk : Nat} {d : Addr} {mo₀ mo : MO} {o o' : Obj} {news' : List (Addr × Obj)} (hd : σ.H d = some mo₀) (F' : Fr G.B L h' m) (N' : News G.B L h' news')
    (U : Upd d o o' (Mine.full G.B s.heap L) news') (hi : mo.Is G o') :
    FAbs G L ⟨σ.m, upd σ.H d mo⟩ { s with heap := h', toks := tk } ∧ Out (some L) σ.H (upd σ.H d mo) s { s with heap := h', toks := tk } := by
  (refine x2_4 U.split ?_; intro pre post e1 rfl c1 c2)
  have keep : ∀ b o, b ≠ L → b ≠ d → s.heap.get? b = some o → h'.get? b = some o := fun b ob hb hbd e => by
    cases q : G.B.get? b with
    | some o' => have := X.h.keep b o' q; rw [e] at this; cases this; exact F'.keep b _ q
    | none =>
      have hmem := mem_full.mpr ⟨e, hb, q⟩
      rw [e1] at hmem
      refine (N' (b, ob) ?_).1
      rcases List.mem_append.mp hmem with z | z
      · exact List.mem_append_left _ z
      · rcases List.mem_cons.mp z with z | z
        · exact absurd (congrArg Prod.fst z) hbd
        · exact List.mem_append_right _ (.tail _ z)
  have hdn := N' (d, o') (List.mem_append_right _ (.head _))
  refine ⟨⟨⟨Nat.le_of_lt (Nat.lt_of_le_of_lt F'.above F'.ns.lt), F'.keep, fun a ob e => ?_⟩, (upd_ne (Ne.symm hdn.2.1)).trans X.off, m, F', hm⟩, ⟨⟨h', tk, rfl⟩, fun b ob hb hn e => ?_⟩⟩
  · by_cases h1 : a = d
    · subst h1; cases upd_eq.symm.trans e; exact ⟨⟨o', hdn.1, hi⟩, hdn.2.2⟩
    · replace e := (upd_ne h1).symm.trans e
      refine x0_2 (X.h.ob a ob e) ?_; intro hq4 hb
      refine x1_2 hq4 ?_; (try clear hq4); intro c hc hi'
      exact ⟨⟨c, keep a c (fun q => by subst q; rw [X.off] at e; cases e) h1 hc, hi'⟩, hb⟩
  · have h1 : b ≠ d := fun q => by rw [q, hd] at hn; cases hn
    exact ⟨(upd_ne h1).trans hn, keep b ob (fun q => hb (by rw [q])) h1 e⟩

theorem upd_exists {d : Addr} {o o' : Obj} : ∀ {l : List (Addr × Obj)}, (l.map (·.1)).Nodup → (d, o) ∈ l → ∃ l', Upd d o o' l l'
  | p :: r, hn, hm => by
    rw [List.map_cons, List.nodup_cons] at hn
    rcases List.mem_cons.mp hm with rfl | h
    · exact ⟨_, .head fun q hq e => hn.1 (List.mem_map.mpr ⟨q, hq, e⟩)⟩
    · refine x1_1 (upd_exists (o' := o') hn.2 h) ?_; intro l' u
      exact ⟨_, .tail (fun e => hn.1 (List.mem_map.mpr ⟨_, h, e.symm⟩)) u⟩

theorem FAbs.at (X : FAbs G L σ s) {d : Addr} {mo : MO} (hd : σ.H d = some mo) : ∃ o, s.heap.get? d = some o ∧ mo.Is G o ∧ (d, o) ∈ Mine.full G.B s.heap L := by
  (refine x0_2 (X.h.ob d mo hd) ?_; intro hq5 hb)
  refine x1_2 hq5 ?_; (try clear hq5); intro c hc hi
  exact ⟨c, hc, hi, mem_full.mpr ⟨hc, (fun q => by subst q; rw [X.off] at hd; cases hd), hb⟩⟩
end

section
variable {G : Gl} {A : Around} {env : Env} {σ : St} {L : Addr}


theorem W_newList {vs : List Value} {Q : Value → St → Prop} (hsz : vs.length ≤ 1000000) (h : ∀ a, σ.H a = none → a ≠ L → Q (.ref a) ⟨σ.m, upd σ.H a (.list false (vs.map er))⟩) : Wt G A L er (newList vs) Q σ := fun s X => by
  (refine x1_2 X.fr ?_; intro m F hm)
  refine newList_N F X.full (fun h' F' N' => ?_) (by rw [sizeLine_eq]; lia)
  refine x0_4 (X.new (tk := s.toks) (mo := .list false (vs.map er)) hm F' N' (fun p hp => .tail _ hp) (.head _) (get_ge (Nat.le_refl _)) ⟨vs.toArray, 0, rfl, by simp⟩) ?_; intro a b c d
  exact ⟨_, a, b, h _ c d⟩
theorem W_newTuple {vs : List Value} {Q : Value → St → Prop} (hsz : vs.length ≤ 1000000) (h : ∀ a, σ.H a = none → a ≠ L → Q (.ref a) ⟨σ.m, upd σ.H a (.tuple (vs.map er))⟩) : Wt G A L er (newTuple vs) Q σ := fun s X => by
  (refine x1_2 X.fr ?_; intro m F hm)
  refine newTuple_N F X.full (fun h' F' N' => ?_) (by rw [sizeLine_eq]; lia)
  refine x0_4 (X.new (tk := s.toks) (mo := .tuple (vs.map er)) hm F' N' (fun p hp => .tail _ hp) (.head _) (get_ge (Nat.le_refl _)) ⟨vs.toArray, 0, rfl, by simp⟩) ?_; intro a b c d
  exact ⟨_, a, b, h _ c d⟩

theorem We_List {elts : List PySem.Expr} {pos : Pos} {Q : Value → St → Prop} (h : Wargs G A env pos elts (fun vs σ₁ => vs.length ≤ 1000000 ∧ ∀ a, σ₁.H a = none → a ≠ env.locals → Q (.ref a) ⟨σ₁.m, upd σ₁.H a (.list false vs)⟩) σ) : We G A env (.List elts pos) Q σ := fun s X => by
  refine List_ (wpAny_mono (h s X) ?_ fun _ _ x => x)
  intro vs s₁ hq6
  refine x1_4 hq6 ?_; (try clear hq6); intro σ₁ x₁ o₁ hl q
  exact W_then (W_newList (by simpa using hl) q) x₁ o₁
theorem We_Tuple {elts : List PySem.Expr} {k : Nat} {pos : Pos} {Q : Value → St → Prop} (h : Wargs G A env pos elts (fun vs σ₁ => vs.length ≤ 1000000 ∧ ∀ a, σ₁.H a = none → a ≠ env.locals → Q (.ref a) ⟨σ₁.m, upd σ₁.H a (.tuple vs)⟩) σ) : We G A env (.Tuple elts k pos) Q σ := fun s X => by
  refine Tuple_ (wpAny_mono (h s X) ?_ fun _ _ x => x)
  intro vs s₁ hq7
  refine x1_4 hq7 ?_; (try clear hq7); intro σ₁ x₁ o₁ hl q
  exact W_then (W_newTuple (by simpa using hl) q) x₁ o₁

theorem isList_of {s : Shared} {a : Addr} {z : Bool} {xs : List Value} (X : FAbs G L σ s) (h : σ.H a = some (.list z xs)) : ∃ vs n, s.heap.get? a = some (listOf vs n) ∧ vs.toList.map er = xs ∧ (a, listOf vs n) ∈ full G.B s.heap L := by
  (refine x1_3 (X.at h) ?_; intro o ho hq8 hm)
  refine x2_2 hq8 ?_; (try clear hq8); intro vs n rfl e
  exact ⟨vs, n, ho, e, hm⟩

theorem W_len_list {a : Addr} {z : Bool} {xs : List Value} {Q : Value → St → Prop} (h : σ.H a = some (.list z xs)) (hsz : xs.length ≤ 1000000) (q : Q (.int xs.length 0) σ) : Wcall G A L (.builtin "len") [.ref a] Q σ := fun us hu s X => by
  obtain ⟨u, rfl⟩ : ∃ u, us = [u] := by cases us with | nil => simp at hu | cons u r => cases r with | nil => exact ⟨u, rfl⟩ | cons _ _ => simp at hu
  obtain rfl := er_ref (List.cons.inj hu).1
  refine x2_3 (isList_of X h) ?_; intro vs n ho e _
  have hl : (vs.size : Int) = xs.length := by rw [← e, List.length_map, Array.length_toList]
  refine call_len_list (items := vs) ⟨_, ho, rfl, n, rfl⟩ (by rw [hl]; lia) ⟨σ, X.tok, Out.tok, ?_⟩
  rw [hl]; exact q

theorem W_append {a : Addr} {xs : List Value} {v : Value} {Q : Value → St → Prop} (h : σ.H a = some (.list false xs)) (hsz : xs.length ≤ 1000000) (q : Q .none ⟨σ.m, upd σ.H a (.list false (xs ++ [v]))⟩) : Wcall G A L (.builtin "list.append") [.ref a, v] Q σ := fun us hu s X => by
  obtain ⟨u, u', rfl⟩ : ∃ u u', us = [u, u'] := by
    rcases us with _ | ⟨u, _ | ⟨u', _ | _⟩⟩ <;> first | exact ⟨_, _, rfl⟩ | simp at hu
  obtain rfl := er_ref (List.cons.inj hu).1
  have hv : er u' = v := (List.cons.inj (List.cons.inj hu).2).1
  refine x2_3 (isList_of X h) ?_; intro vs n ho e hm
  refine x1_2 X.fr ?_; intro m F hml
  refine x1_1 (upd_exists (o' := listOf (vs.push u') (n + 1)) (full_nodup G.B s.heap L) hm) ?_; intro news' U
  have hl : vs.size = xs.length := by rw [← e, List.length_map, Array.length_toList]
  refine append_K F X.full U (fun h' F' N' => ?_) (by rw [hl, sizeLine_eq]; lia)
  refine x0_2 (X.turn (tk := s.toks) (mo := .list false (xs ++ [v])) hml h F' N' U ⟨_, _, rfl, by rw [Array.toList_push, List.map_append, e, List.map_cons, List.map_nil, hv]⟩) ?_; intro x y
  exact ⟨_, x, y, q⟩

theorem W_pop {a : Addr} {xs : List Value} {v : Value} {Q : Value → St → Prop} (h : σ.H a = some (.list false (xs ++ [v]))) (hsz : xs.length ≤ 1000000) (q : Q v ⟨σ.m, upd σ.H a (.list false xs)⟩) : Wcall G A L (.builtin "list.pop") [.ref a] Q σ := fun us hu s X => by
  obtain ⟨u, rfl⟩ : ∃ u, us = [u] := by cases us with | nil => simp at hu | cons u r => cases r with | nil => exact ⟨u, rfl⟩ | cons _ _ => simp at hu
  obtain rfl := er_ref (List.cons.inj hu).1
  refine x2_3 (isList_of X h) ?_; intro vs n ho e hm
  refine x1_2 X.fr ?_; intro m F hml
  obtain ⟨p, y, hp⟩ : ∃ p y, kl_last vs.toList = some (p, y) := by
    cases q : kl_last vs.toList with
    | none => rw [kl_last_none q] at e; simp at e
    | some z => exact ⟨z.1, z.2, rfl⟩
  have e2 := kl_last_spec hp
  rw [e2, List.map_append, List.map_cons, List.map_nil] at e
  refine x0_2 (List.append_inj' e rfl) ?_; intro e3 e4
  have hv : er y = v := (List.cons.inj e4).1
  refine x1_1 (upd_exists (o' := listOf p.toArray (n + 1)) (full_nodup G.B s.heap L) hm) ?_; intro news' U
  have hl : p.length = xs.length := by rw [← e3, List.length_map]
  refine kl_pop F X.full hp U (by rw [e2, List.length_append, sizeLine_eq]; simp only [List.length_cons, List.length_nil]; lia) fun h' F' N' => ?_
  refine x0_2 (X.turn (tk := s.toks) (mo := .list false xs) hml h F' N' U ⟨_, _, rfl, by simpa using e3⟩) ?_; intro x z
  exact ⟨_, x, z, by rw [hv]; exact q⟩
end

end -- MW3

section -- MW4

noncomputable def geta (x : Str) : List (Str × Value) → Option Value
  | [] => none
  | p :: r => if p.1 = x then some p.2 else geta x r
noncomputable def puta (x : Str) (v : Value) : List (Str × Value) → List (Str × Value)
  | [] => [(x, v)]
  | p :: r => if p.1 = x then (p.1, v) :: r else p :: puta x v r

theorem AttrsAre.refKey {es : List DictEntry} {fs : List (Str × Value)} (h : AttrsAre es fs) : es.any (·.refKey) = false := by
  induction h with
  | nil => rfl
  | cons _ _ ih => rw [List.any_cons, ih]; rfl
theorem AttrsAre.getL {es : List DictEntry} {fs : List (Str × Value)} (h : AttrsAre es fs) (x : Str) : match geta x fs with
    | some v => ∃ u, PySem.W.getL x es = some (some u) ∧ er u = v
    | none => PySem.W.getL x es = some none := by
  have key : match geta x fs with
    | some v => ∃ e, es.find? (·.key.isStr x) = some e ∧ er e.val = v
    | none => es.find? (·.key.isStr x) = none := by
    induction h with
    | nil => rfl
    | @cons hs y t u v es fs he hr ih =>
      unfold geta
      rw [List.find?_cons]
      by_cases e : y = x
      · subst e
        have : (Value.str y t).isStr y = true := by simp [Value.isStr]
        simp only [this, if_true]
        exact ⟨_, rfl, he⟩
      · have : (Value.str y t).isStr x = false := by simp [Value.isStr, e]
        simp only [this, if_neg e]
        exact ih
  unfold PySem.W.getL
  cases q : geta x fs with
  | some v =>
    rw [q] at key
    refine x1_2 key ?_; (try clear key); intro e h1 h2
    exact ⟨e.val, by rw [h1], h2⟩
  | none =>
    rw [q] at key
    dsimp only at key ⊢
    rw [key]
    dsimp only
    rw [h.refKey]
    rfl
theorem AttrsAre.putL {es : List DictEntry} {fs : List (Str × Value)} (h : AttrsAre es fs) (x : Str) (hs : Int) (t : Tok) (u : Value) : AttrsAre (PySem.W.putL x hs (.str x t) u es) (puta x (er u) fs) := by
  induction h with
  | nil => exact .cons rfl .nil
  | @cons hs' y t' u' v' es fs he hr ih =>
    unfold PySem.W.putL puta
    by_cases e : y = x
    · subst e
      have : (Value.str y t').isStr y = true := by simp [Value.isStr]
      simp only [this, if_true]
      exact .cons rfl hr
    · have : (Value.str y t').isStr x = false := by simp [Value.isStr, e]
      simp only [this, if_neg e, Bool.false_eq_true, if_false]
      exact .cons he ih
theorem AttrsAre.length {es : List DictEntry} {fs : List (Str × Value)} (h : AttrsAre es fs) : es.length = fs.length := by
  induction h with
  | nil => rfl
  | cons _ _ ih => rw [List.length_cons, List.length_cons, ih]
theorem puta_length (x : Str) (v : Value) : ∀ fs : List (Str × Value), (puta x v fs).length ≤ fs.length + 1
  | [] => Nat.le_refl _
  | p :: r => by
    unfold puta
    split
    · rw [List.length_cons, List.length_cons]; lia
    · rw [List.length_cons, List.length_cons]; have := puta_length x v r; lia

section
variable {G : Gl} {A : Around} {env : Env} {σ : St} {L : Addr}

theorem inst_of {s : Shared} (X : FAbs G L σ s) {x C d : Addr} {z : Bool} {fs : List (Str × Value)} (hx : σ.H x = some (.inst C d)) (hd : σ.H d = some (.attrs z fs)) :
    ∃ es n, AttrsAre es fs ∧ PySem.W.InstAt s.heap x (instObj C d) C (some (dictOf es n)) ∧ (d, dictOf es n) ∈ full G.B s.heap L := by
  (refine x1_3 (X.at hx) ?_; intro o ho hi _)
  refine x1_3 (X.at hd) ?_; intro o' ho' hq1 hm
  refine x2_2 hq1 ?_; (try clear hq1); intro es n rfl ha
  obtain rfl : o = instObj C d := hi
  exact ⟨es, n, ha, ⟨ho, rfl, rfl, ho'⟩, hm⟩

theorem handed_er {u : Value} (h : handedIn (er u) = true) : handedIn u = true := by cases u <;> first | rfl | exact h

theorem We_Attribute {value : PySem.Expr} {attr : Str} {pos : Pos} {Q : Value → St → Prop} (h : We G A env value (fun v σ₁ => Wv G A env.locals er (fun u => getAttr u attr true) v Q σ₁) σ)
    (he : eval (.Attribute value attr pos) env = (do
      let o ← eval value env
      standAt pos.atName
      let r ← holding [o] (getAttr o attr true)
      letTemporaryGo value o r
      pure r) := by with_unfolding_all rfl) : We G A env (.Attribute value attr pos) Q σ := fun s X => by
  refine Attribute_any_ (wpAny_mono (h s X) ?_ fun _ _ x => x) he
  intro a s₁ hq2
  refine x1_3 hq2 ?_; (try clear hq2); intro σ₁ x₁ o₁ q₁
  exact W_then (q₁ a rfl) x₁ o₁

/-- the instance's own -/
theorem W_attr_own (O : G.Ok) {x C d : Addr} {fs : List (Str × Value)} {name : Str} {attr : Option Value} {v : Value} {ex : Bool} {Q : Value → St → Prop} (hx : σ.H x = some (.inst C d)) {z : Bool} (hd : σ.H d = some (.attrs z fs)) (hl : geta name fs = some v)
    (ha : findIn G.K (.ref C) name = some attr) (hg : plainGet G.K C name = true) (hh : hasDictIn G.K C = true) (hn : noGet G.K attr = true) (hv : handedIn v = true) (q : Q v σ) : Wv G A L er (fun u => getAttr u name ex) (.ref x) Q σ := fun u hu s X => by
  obtain rfl := er_ref hu
  refine x1_2 X.fr ?_; intro m F hm
  refine x2_3 (inst_of X hx hd) ?_; intro es n hA I _
  have := hA.getL name
  rw [hl] at this
  refine x1_2 this ?_; (try clear this); intro u h1 rfl
  exact get_own F O.kin I hg hh ha hn h1 (handed_er hv) ⟨σ, X.tok, Out.tok, q⟩

/-- the class's own: a plain value -/
theorem W_attr_cls (O : G.Ok) {x C d : Addr} {fs : List (Str × Value)} {name : Str} {v : Value} {ex : Bool} {Q : Value → St → Prop} (hx : σ.H x = some (.inst C d)) {z : Bool} (hd : σ.H d = some (.attrs z fs)) (hl : geta name fs = none)
    (ha : findIn G.K (.ref C) name = some (some v)) (hg : plainGet G.K C name = true) (hh : hasDictIn G.K C = true) (hn : specialIn G.K v "__get__" = some none) (hv : handedIn v = true) (hc : copiedNames.contains name = false) (q : Q (er v) σ) : Wv G A L er (fun u => getAttr u name ex) (.ref x) Q σ := fun u hu s X => by
  obtain rfl := er_ref hu
  refine x1_2 X.fr ?_; intro m F hm
  refine x2_3 (inst_of X hx hd) ?_; intro es n hA I _
  have := hA.getL name
  rw [hl] at this
  exact get_cls F O.kin I hg hh ha hn hv hc this ⟨σ, X.tok, Out.tok, q⟩

/-- a bound method, made -/
theorem W_attr_meth (O : G.Ok) {x C d f : Addr} {fs : List (Str × Value)} {name : Str} {ex : Bool} {Q : Value → St → Prop} (hx : σ.H x = some (.inst C d)) {z : Bool} (hd : σ.H d = some (.attrs z fs)) (hl : geta name fs = none)
    (ha : findIn G.K (.ref C) name = some (some (.ref f))) (hg : plainGet G.K C name = true) (hh : hasDictIn G.K C = true) (hf : isFn G.K (.ref f) = true)
    (hgf : specialIn G.K (.ref f) "__get__" = some (some (.builtin "function.__get__"))) (ht : takesIn G.K (.ref f) = some false) (hc : copiedNames.contains name = false)
    (q : ∀ a, σ.H a = none → a ≠ L → Q (.ref a) ⟨σ.m, upd σ.H a (.meth f x)⟩) : Wv G A L er (fun u => getAttr u name ex) (.ref x) Q σ := fun u hu s X => by
  obtain rfl := er_ref hu
  refine x1_2 X.fr ?_; intro m F hm
  refine x2_3 (inst_of X hx hd) ?_; intro es n hA I _
  have := hA.getL name
  rw [hl] at this
  refine kbm_bound F O.kin X.full I hg hh ha hf hgf ht hc this fun qa h' F' N' l => ?_
  have hnew : s.heap.get? qa = none := by
    cases z : s.heap.get? qa with
    | none => rfl
    | some o =>
      exfalso
      have nq := N' _ (.head _)
      by_cases hb : (G.B.get? qa).isSome = true
      · rw [nq.2.2] at hb; cases hb
      · have := l (qa, o) (mem_full.mpr ⟨z, nq.2.1, nq.2.2⟩)
        exact absurd this (Nat.lt_irrefl _)
  refine x0_4 (X.new (tk := s.toks + 1) (mo := .meth f x) hm F' N' (fun p hp => .tail _ hp) (.head _) hnew rfl) ?_; intro a b c e
  exact ⟨_, a, b, q _ c e⟩

theorem W_setAttr (O : G.Ok) {x C d : Addr} {fs : List (Str × Value)} {name : Str} {v : Value} {Q : Unit → St → Prop} (hx : σ.H x = some (.inst C d)) (hd : σ.H d = some (.attrs false fs))
    (hs : findIn G.K (.ref C) "__setattr__" = some (some (.builtin "object.__setattr__"))) (hp : plainOver G.K C = true) (ht : takerIn G.K C name = some none) (hh : hasDictIn G.K C = true) (hz : fs.length ≤ 100)
    (q : Q () ⟨σ.m, upd σ.H d (.attrs false (puta name (er v) fs))⟩) : Wt G A L id (setAttr (.ref x) name v) Q σ := fun s X => by
  (refine x1_2 X.fr ?_; intro m F hm)
  refine x2_3 (inst_of X hx hd) ?_; intro es n hA I hmem
  refine x1_1 (upd_exists (o' := dictOf (PySem.W.putL name (PyData.keyHash G.w.params name) (.str name (s.toks + 1)) v es) (putN name es n)) (full_nodup G.B s.heap L) hmem) ?_; intro news' U
  have hA' := hA.putL name (PyData.keyHash G.w.params name) (s.toks + 1) v
  refine set_dict F O.kin X.full I rfl hs hp ht hh ?_ rfl U ?_ fun h' F' N' => ?_
  · have := hA.getL name
    cases z : geta name fs with
    | none => rw [z] at this; dsimp only at this; rw [this]; rfl
    | some v => rw [z] at this; refine x1_2 this ?_; (try clear this); intro u h1 _; rw [h1]; rfl
  · rw [hA'.length]; have := puta_length name (er v) fs; lia
  · refine x0_2 (X.turn (tk := s.toks + 2) (mo := .attrs false (puta name (er v) fs)) hm hd F' N' U ⟨_, _, rfl, hA'⟩) ?_; intro a b
    exact ⟨_, a, b, q⟩

theorem W_getMethod_inst (O : G.Ok) {x C d f : Addr} {fs : List (Str × Value)} {name : Str} {pl : Sem Bool} {Q : Value × List Value → St → Prop} (hx : σ.H x = some (.inst C d)) {z : Bool} (hd : σ.H d = some (.attrs z fs)) (hl : geta name fs = none)
    (hf : findIn G.K (.ref C) name = some (some (.ref f))) (hg : plainGet G.K C name = true) (ht : isFn G.K (.ref f) = true) (q : Q (.ref f, [.ref x]) σ) : Wt G A L (fun p => (er p.1, p.2.map er)) (getMethod (.ref x) name pl) Q σ := fun s X => by
  (refine x1_2 X.fr ?_; intro m F hm)
  refine x2_3 (inst_of X hx hd) ?_; intro es n hA I _
  have := hA.getL name
  rw [hl] at this
  exact method_inst F O.kin I hg hf ht this ⟨σ, X, Out.refl .., q⟩

theorem W_getMethod_list {l : Addr} {z : Bool} {xs : List Value} {name : Str} {id : String} {pl : Sem Bool} {Q : Value × List Value → St → Prop} (h : σ.H l = some (.list z xs)) (slot : Slot "list" name id) (hty : typeOf (.builtin id) = pure (.type "method_descriptor"))
    (q : Q (.builtin id, [.ref l]) σ) : Wt G A L (fun p => (er p.1, p.2.map er)) (getMethod (.ref l) name pl) Q σ := fun s X => by
  (refine x2_3 (isList_of X h) ?_; intro vs n ho e _)
  exact getMethod_builtin ⟨_, ho, rfl⟩ PySem.F.plainAttrs_list slot hty (fun a e => by cases e; exact ⟨_, ho, rfl⟩) ⟨σ, X, Out.refl .., q⟩

/-- o.name(args): the method is looked up, then called -/
theorem We_MethodCall {o : PySem.Expr} {name : Str} {apos pos : Pos} {args : List PySem.Expr} {pl : Sem Bool} {Q : Value → St → Prop}
    (h : We G A env o (fun v σ₁ => ∀ u, er u = v → Wt G A env.locals (fun p => (er p.1, p.2.map er)) (getMethod u name pl) (fun fx σ₂ => ∀ p : Value × List Value, (er p.1, p.2.map er) = fx → Wt G A env.locals er (callWith pos p.1 p.2 (backTo pos (starEach args env)) []) Q σ₂) σ₁) σ)
    (he : eval (.Call (.Attribute o name apos) args [] pos) env = (do
      let ov ← eval o env
      standAt apos.atName
      let (f, first) ← holding [ov] (getMethod ov name pl)
      callWith pos f first (backTo pos (starEach args env)) []) := by with_unfolding_all rfl) : We G A env (.Call (.Attribute o name apos) args [] pos) Q σ := fun s X => by
  refine MethodCall_ (pl := pl) (wpAny_mono (h s X) ?_ fun _ _ x => x) he
  intro a s₁ hq3
  refine x1_3 hq3 ?_; (try clear hq3); intro σ₁ x₁ o₁ q₁
  refine wpAny_mono (q₁ a rfl s₁ x₁) ?_ fun _ _ x => x
  intro fx s₂ hq4
  refine x1_3 hq4 ?_; (try clear hq4); intro σ₂ x₂ o₂ q₂
  exact W_then (q₂ fx rfl) x₂ (o₁.trans o₂)

theorem Wc_meth {q f x : Addr} {vs : List Value} {Q : Value → Hp → Prop} {H : Hp} (hq : H q = some (.meth f x)) (h : Wc G A (.ref f) (.ref x :: vs) Q H) : Wc G A (.ref q) vs Q H := fun s us hu X => by
  (refine x0_2 (X.ob _ _ hq) ?_; intro hq5 _)
  refine x1_2 hq5 ?_; (try clear hq5); intro c hc hi
  obtain rfl : c = methodObj (.ref f) (.ref x) := hi
  have := h s (.ref x :: us) (by rw [List.map_cons, hu]; rfl) X
  exact method_call hc this
end

end -- MW4

section -- MW5

section
variable {G : Gl} {A : Around} {env : Env} {σ : St} {L : Addr}

theorem Rm.make {A : Around} {n : Nat} {C : Addr} {vs : List Value} {kw : List (Str × Value)} (h : Rm A (n + 1)) : Rm (A.under (.builtin "type.__call__" ⟨.ref C :: vs, kw⟩)) n := by
  refine ⟨h.hd, ?_, ?_⟩
  · have : (A.under (.builtin "type.__call__" ⟨.ref C :: vs, kw⟩)).depth = A.depth + 1 := by
      rfl
    rw [this]; have := h.dp; lia
  · have : (A.under (.builtin "type.__call__" ⟨.ref C :: vs, kw⟩)).units ≤ A.units + 10 := by
      exact Nat.add_le_add_left (Nat.le_of_ble_eq_true rfl) A.units
    have := h.un; lia

/-- an instance made -/
theorem Wcall_new (O : G.Ok) {C fI : Addr} {vs : List Value} {Q : Value → St → Prop} (hm : makesIn G.K C = true) (hi : findIn G.K (.ref C) "__init__" = some (some (.ref fI))) (hf : isFn G.K (.ref fI) = true)
    (q : ∀ x d, σ.H x = none → σ.H d = none → x ≠ d → x ≠ L → d ≠ L → ∀ us, us.map er = vs → Wc G (A.under (.builtin "type.__call__" ⟨.ref C :: us, []⟩)) (.ref fI) (.ref x :: vs) (fun r H' => r = .none ∧ Q (.ref x) ⟨σ.m, H'⟩) (upd (upd σ.H d (.attrs false [])) x (.inst C d))) :
    Wcall G A L (.ref C) vs Q σ := fun us hu s X => by
  (refine x1_2 X.fr ?_; intro m F hml)
  refine call_cls F O.kin X.full hm hi hf fun x d h' F' N' l1 l2 => ?_
  have hdN := N' (d, dictOf [] 0) (.tail _ (.head _))
  have hxN := N' (x, instObj C d) (.head _)
  have fresh : ∀ a, d ≤ a → a ≠ L → G.B.get? a = none → s.heap.get? a = none := fun a ha hL hb => by
    cases z : s.heap.get? a with
    | none => rfl
    | some o => exact absurd (l1 (a, o) (mem_full.mpr ⟨z, hL, hb⟩)) (Nat.not_lt.mpr ha)
  have hd0 := fresh d (Nat.le_refl _) hdN.2.1 hdN.2.2
  have hx0 := fresh x (Nat.le_of_lt l2) hxN.2.1 hxN.2.2
  have hne : x ≠ d := Nat.ne_of_gt l2
  refine x0_2 (X.same (tk := s.toks) hml F' N' (fun p hp => .tail _ (.tail _ hp))) ?_; intro Y O1
  have hH : HAbs G (upd (upd σ.H d (.attrs false [])) x (.inst C d)) { s with heap := h' } := by
    refine ⟨Y.h.sz, Y.h.keep, fun a o e => ?_⟩
    by_cases h1 : a = x
    · subst h1; cases upd_eq.symm.trans e; exact ⟨⟨_, hxN.1, rfl⟩, hxN.2.2⟩
    · replace e := (upd_ne h1).symm.trans e
      by_cases h2 : a = d
      · subst h2; cases upd_eq.symm.trans e; exact ⟨⟨_, hdN.1, [], 0, rfl, .nil⟩, hdN.2.2⟩
      · exact Y.h.ob a o ((upd_ne h2).symm.trans e)
  have z := q x d (X.noneAt hx0) (X.noneAt hd0) hne hxN.2.1 hdN.2.1 us hu { s with heap := h' } (.ref x :: us) (by rw [List.map_cons, hu]; rfl) hH
  refine codeAny_mono z ?_
  intro r s' z
  rcases r with e | f
  · exact z.elim
  · cases f with
    | ret v =>
      (refine x1_4 z ?_; (try clear z); intro H' hh o hr hq)
      have hv : v = .none := er_none hr
      subst hv
      refine ⟨rfl, ⟨σ.m, H'⟩, ?_⟩
      refine x1_2 Y.fr ?_; intro m' F1 hm1
      refine x3_2 F1.ns ?_; intro oL es ep hL r
      have zL := o.keep L oL (by intro q; cases q) ((upd_ne (Ne.symm hxN.2.1)).trans ((upd_ne (Ne.symm hdN.2.1)).trans X.off)) hL
      refine ⟨⟨hh, zL.1, m', ⟨⟨oL, es, ep, zL.2, r⟩, hh.keep, F1.above⟩, hm1⟩, ⟨?_, fun b ob hb hn e => ?_⟩, hq⟩
      · refine x2_1 o.sh ?_; intro h2 tk e
        exact ⟨h2, tk, e⟩
      · have hbx : b ≠ x := fun q => by rw [q, hx0] at e; cases e
        have hbd : b ≠ d := fun q => by rw [q, hd0] at e; cases e
        exact o.keep b ob (by intro q; cases q) ((upd_ne hbx).trans ((upd_ne hbd).trans hn)) (O1.keep b ob hb hn e).2
    | _ => exact z.elim

theorem Wst_Expr {e : PySem.Expr} {pos : Pos} {Q : Flow → St → Prop} (h : We G A env e (fun v σ₁ => (∀ a, v ≠ .ref a) ∧ Q .next σ₁) σ)
    (hi : interactive env = false := by with_unfolding_all rfl) (hs : swapsWith e none pos.line env = pure false := by with_unfolding_all rfl) : Wst G A env (.Expr e pos) Q σ := fun s X => by
  refine wpAny_Expr (wpAny_mono (h s X) ?_ fun _ _ x => x) hi hs
  intro v s₁ hq1
  refine x1_4 hq1 ?_; (try clear hq1); intro σ₁ x₁ o₁ hv q
  cases v <;> first | exact (hv _ rfl).elim | exact ⟨σ₁, x₁, o₁, q⟩

theorem We_Subscript {value slice : PySem.Expr} {pos : Pos} {Q : Value → St → Prop} (h : We G A env value (fun v σ₁ => We G A env slice (fun i σ₂ => Wv2 G A env.locals er (fun o i => subscriptTail value slice o i) v i Q σ₂) σ₁) σ) : We G A env (.Subscript value slice pos) Q σ := fun s X => by
  refine Subscript_ (wpAny_mono (h s X) ?_ fun _ _ x => x)
  intro a s₁ hq2
  refine x1_3 hq2 ?_; (try clear hq2); intro σ₁ x₁ o₁ q₁
  refine wpAny_mono (q₁ s₁ x₁) ?_ fun _ _ x => x
  intro b s₂ hq3
  refine x1_3 hq3 ?_; (try clear hq3); intro σ₂ x₂ o₂ q₂
  exact W_then (q₂ a b rfl rfl) x₂ (o₁.trans o₂)

theorem getElem_er {vs : List Value} {xs : List Value} (e : vs.map er = xs) {k : Nat} {x : Value} (h : xs[k]? = some x) : ∃ u, vs[k]? = some u ∧ er u = x := by
  subst e
  rw [List.getElem?_map] at h
  refine x1_2 (Option.map_eq_some_iff.mp h) ?_; intro u h1 h2
  exact ⟨u, h1, h2⟩

theorem W_item_list {value slice : PySem.Expr} {l : Addr} {z : Bool} {xs : List Value} {k : Int} {x : Value} {Q : Value → St → Prop} (h : σ.H l = some (.list z xs)) (h0 : 0 ≤ k) (hfit : k < 2 ^ 63) (hx : xs[k.toNat]? = some x) (q : Q x σ)
    (hs : ∀ t, subscripted slice false (.ref l) (.int k t) = operate [.ref l, .int k t] (getItem (.ref l) (.int k t)) := by intro _; with_unfolding_all rfl) :
    Wv2 G A L er (fun o i => subscriptTail value slice o i) (.ref l) (.int k 0) Q σ := fun u u' hu hu' s X => by
  obtain rfl := er_ref hu
  refine x1_1 (er_int hu') ?_; intro t rfl
  refine x2_3 (isList_of X h) ?_; intro vs n ho e _
  refine x1_2 (getElem_er e hx) ?_; intro y h1 rfl
  have hl : s.heap.IsList l vs := ⟨_, ho, rfl, n, rfl⟩
  exact tail_any hl.typeIs slot_list_getitem.lookup (wpAny_getItem_list hl h0 hfit (by simpa using h1) ⟨σ, X, Out.refl .., q⟩) (hs t)

theorem isTup_of {s : Shared} {a : Addr} {xs : List Value} (X : FAbs G L σ s) (h : σ.H a = some (.tuple xs)) : ∃ vs, IsTup s.heap a vs ∧ vs.toList.map er = xs := by
  (refine x1_3 (X.at h) ?_; intro o ho hq4 hm)
  refine x2_2 hq4 ?_; (try clear hq4); intro vs n rfl e
  exact ⟨vs, ⟨_, ho, rfl, n, rfl⟩, e⟩

theorem W_item_tuple {value slice : PySem.Expr} {l : Addr} {xs : List Value} {k : Int} {x : Value} {Q : Value → St → Prop} (h : σ.H l = some (.tuple xs)) (h0 : 0 ≤ k) (hfit : k < 2 ^ 63) (hx : xs[k.toNat]? = some x) (q : Q x σ)
    (hs : ∀ t, subscripted slice false (.ref l) (.int k t) = operate [.ref l, .int k t] (getItem (.ref l) (.int k t)) := by intro _; with_unfolding_all rfl) :
    Wv2 G A L er (fun o i => subscriptTail value slice o i) (.ref l) (.int k 0) Q σ := fun u u' hu hu' s X => by
  obtain rfl := er_ref hu
  refine x1_1 (er_int hu') ?_; intro t rfl
  refine x1_2 (isTup_of X h) ?_; intro vs ht e
  refine x1_2 (getElem_er e hx) ?_; intro y h1 rfl
  have hlen : k.toNat < vs.toList.length := (List.getElem?_eq_some_iff.mp h1).1
  have e2 : vs = vs.toList.toArray := by simp
  rw [e2] at ht
  refine item_tupleT ht (by lia) hfit (j := k.toNat) ?_ h1 ⟨σ, X, Out.refl .., q⟩ (hs t)
  unfold seqIndex?
  have : ¬ k < 0 := by lia
  have h2 : k < (vs.toList.length : Int) := by lia
  simp only [this, if_false, h0, h2, decide_true, Bool.and_self, if_true]


/-- nothing tracked is turned, nothing that stood is lost -/
theorem FAbs.raw {s : Shared} (X : FAbs G L σ s) {h' : Heap} {tk : Nat} (kp : ∀ b o, s.heap.get? b = some o → h'.get? b = some o) :
    FAbs G L σ { s with heap := h', toks := tk } ∧ Out (some L) σ.H σ.H s { s with heap := h', toks := tk } := by
  (refine x1_2 X.fr ?_; intro m F hm)
  refine x3_2 F.ns ?_; intro oL es ep hL r
  refine ⟨⟨⟨Nat.le_of_lt (Nat.lt_of_le_of_lt F.above (Heap.lt_size (kp _ _ hL))), fun b o e => kp b o (X.h.keep b o e), fun a o e => ?_⟩, X.off, m, ⟨⟨oL, es, ep, kp _ _ hL, r⟩, fun b o e => kp b o (X.h.keep b o e), F.above⟩, hm⟩, ⟨⟨h', tk, rfl⟩, fun b o _ hn e => ⟨hn, kp b o e⟩⟩⟩
  refine x0_2 (X.h.ob a o e) ?_; intro hq5 hb
  refine x1_2 hq5 ?_; (try clear hq5); intro c hc hi
  exact ⟨⟨c, kp a c hc, hi⟩, hb⟩




noncomputable def erB : Bool → Bool := id

theorem Wst_While {test : PySem.Expr} {body : List Stmt} {pos : Pos} {Q : Flow → St → Prop} (J : Nat → St → Prop) (n₀ : Nat) (h0 : J n₀ σ)
    (turn : ∀ n σ₁, J n σ₁ → Wb G A env test (fun b σ₂ => if b = true then Ws G A env body (Loop (LessJ J n) Q) σ₂ else Q .next σ₂) σ₁) : Wst G A env (.While test body [] pos) Q σ := fun s X => by
  refine wpAny_While (codeAny_whileLoop (fun n s' => ∃ σ', FAbs G env.locals σ' s' ∧ Out (some env.locals) σ.H σ'.H s s' ∧ J n σ') ?_ n₀ ⟨σ, X, Out.refl .., h0⟩)
  intro n s₁ hq6
  refine x1_3 hq6 ?_; (try clear hq6); intro σ₁ x₁ o₁ j₁
  refine noE (wpAny_mono (turn n σ₁ j₁ s₁ x₁) ?_ fun _ _ x => x)
  intro b s₂ hq7
  refine x1_3 hq7 ?_; (try clear hq7); intro σ₂ x₂ o₂ q₂
  cases b with
  | false =>
    have q₂' : Q .next σ₂ := by simpa using q₂
    exact wpAny_execs_nil ⟨σ₂, x₂, o₁.trans o₂, q₂'⟩
  | true =>
    simp only [id_eq, if_true] at q₂
    refine noE (wpAny_mono (q₂ s₂ x₂) ?_ fun _ _ x => x)
    intro f s₃ hq8
    refine x1_3 hq8 ?_; (try clear hq8); intro σ₃ x₃ o₃ q₃
    cases f with
    | next => (refine x1_2 q₃ ?_; (try clear q₃); intro n' hn j); exact ⟨n', hn, σ₃, x₃, (o₁.trans o₂).trans o₃, j⟩
    | cont => (refine x1_2 q₃ ?_; (try clear q₃); intro n' hn j); exact ⟨n', hn, σ₃, x₃, (o₁.trans o₂).trans o₃, j⟩
    | brk => exact ⟨σ₃, x₃, (o₁.trans o₂).trans o₃, q₃⟩
    | ret v => exact ⟨σ₃, x₃, (o₁.trans o₂).trans o₃, q₃⟩
end

end -- MW5

section -- MW6

section
variable {G : Gl} {A : Around} {env : Env} {σ : St} {L : Addr}

/-- writes at untracked places that are newer than s₁ -/
theorem FAbs.wrote {s : Shared} (X : FAbs G L σ s) {h' : Heap} {tk : Nat} {wr : List Addr} (hw : ∀ b ∈ wr, σ.H b = none ∧ b ≠ L ∧ G.B.get? b = none) (kp : ∀ b o, b ∉ wr → s.heap.get? b = some o → h'.get? b = some o) : FAbs G L σ { s with heap := h', toks := tk } := by
  (refine x1_2 X.fr ?_; intro m F hm)
  refine x3_2 F.ns ?_; intro oL es ep hL r
  have hL' : h'.get? L = some oL := kp L oL (fun q => (hw L q).2.1 rfl) hL
  have kB : ∀ b o, G.B.get? b = some o → h'.get? b = some o := fun b o e => kp b o (fun q => by rw [(hw b q).2.2] at e; cases e) (X.h.keep b o e)
  refine ⟨⟨Nat.le_of_lt (Nat.lt_of_le_of_lt F.above (Heap.lt_size hL')), kB, fun a o e => ?_⟩, X.off, m, ⟨⟨oL, es, ep, hL', r⟩, kB, F.above⟩, hm⟩
  refine x0_2 (X.h.ob a o e) ?_; intro hq1 hb
  refine x1_2 hq1 ?_; (try clear hq1); intro c hc hi
  exact ⟨⟨c, kp a c (fun q => by rw [(hw a q).1] at e; cases e) hc, hi⟩, hb⟩

theorem Out.wrote {H H' : Hp} {Lo : Option Addr} {s₁ s : Shared} (O : Out Lo H H' s₁ s) {h' : Heap} {tk : Nat} {wr : List Addr} (hw : ∀ b ∈ wr, s₁.heap.get? b = none) (kp : ∀ b o, b ∉ wr → s.heap.get? b = some o → h'.get? b = some o) : Out Lo H H' s₁ { s with heap := h', toks := tk } := by
  refine ⟨?_, fun b o hb hn e => ?_⟩
  · refine x2_1 O.sh ?_; intro h t rfl; exact ⟨h', tk, rfl⟩
  · refine x0_2 (O.keep b o hb hn e) ?_; intro z1 z2
    exact ⟨z1, kp b o (fun q => by rw [hw b q] at e; cases e) z2⟩

/-- untracked and new things stay so over a step -/
theorem Out.stay {H H' : Hp} {s s' : Shared} (O : Out (some L) H H' s s') {b : Addr} {o : Obj} (hL : b ≠ L) (hn : H b = none) (e : s.heap.get? b = some o) : H' b = none ∧ s'.heap.get? b = some o := O.keep b o (fun q => hL (Option.some.inj q)) hn e

theorem go_list {target : PySem.Expr} {I l : Addr} {i : Nat} {u : Value} {M : Model} {E : Value → Shared → Prop} {s : Shared} {Q : Unit → Shared → Prop} (hit : s.heap.IsListIter I l i) (q : Q () s) : wpAny M A (letOwnedTupleGo target (.ref I) u) Q E s := by
  (refine x1_3 hit ?_; (try clear hit); intro o ho hc hd)
  cases target <;> first | exact wpAny_pure q | skip
  all_goals (
    cases u <;> first | exact wpAny_pure q | skip
    unfold letOwnedTupleGo
    refine wpAny_bind (wpAny_load ho ?_)
    rw [hc, hd]
    refine wpAny_ite ?_
    rw [if_neg (by
      intro h
      simp at h)]
    exact wpAny_pure q)

structure ForL (G : Gl) (A : Around) (env : Env) (target : PySem.Expr) (body : List Stmt) (Q : Flow → St → Prop) (l : Addr) (xs : List Value) (J : Nat → St → Prop) (σ₁ : St) : Prop where
  start : J 0 σ₁
  at_ : ∀ i σ₂, J i σ₂ → ∃ z, σ₂.H l = some (.list z xs)
  turn : ∀ i x σ₂, xs[i]? = some x → J i σ₂ → ∀ u, er u = x → Wt G A env.locals id (assign target env u) (fun _ σ₃ => Ws G A env body (Loop (At J (i + 1)) Q) σ₃) σ₂
  fin : ∀ σ₂, J xs.length σ₂ → Q .next σ₂

theorem Wst_For_list {target iter : PySem.Expr} {body : List Stmt} {pos : Pos} {Q : Flow → St → Prop} (hr : A.handled = none)
    (h : We G A env iter (fun v σ₁ => ∃ l xs J, v = .ref l ∧ ForL G A env target body Q l xs J σ₁) σ)
    (hs : ∀ x, foldedSetIterable iter env x = pure x := by intro _; with_unfolding_all rfl) : Wst G A env (.For target iter body [] pos) Q σ := fun s X => by
  refine wpAny_For (wpAny_mono (h s X) ?_ fun _ _ x => x) hs
  intro v s₁ hq2
  obtain ⟨σ₁, x₁, o₁, l, xs, J, hv, FL⟩ := hq2
  obtain rfl := er_ref hv
  refine x1_1 (FL.at_ _ _ FL.start) ?_; intro z₁ hz₁
  refine x2_3 (isList_of x₁ hz₁) ?_; intro vs n hl e _
  refine wpAny_pyIter_list ⟨_, hl, rfl, n, rfl⟩ ?_
  have hI0 : s₁.heap.get? s₁.heap.objs.size = none := get_ge (Nat.le_refl _)
  generalize hIe : s₁.heap.objs.size = I at hI0
  refine x0_2 (x₁.raw (h' := s₁.heap.push { cls := .type "list_iterator", data := .fields #[.ref l, .int 0 0] }) (tk := s₁.toks) (fun b o e => Heap.get?_push_of_some _ e)) ?_; intro X2 O2
  have hIL : I ≠ env.locals := fun q => by
    (refine x1_2 x₁.fr ?_; intro m F _)
    have h3 : env.locals < I := hIe ▸ F.ns.lt
    rw [q] at h3
    exact Nat.lt_irrefl _ h3
  have hIB : G.B.get? I = none := by
    cases z : G.B.get? I with
    | none => rfl
    | some o => have := x₁.h.keep I o z; rw [hI0] at this; cases this
  refine codeAny_forLoop_any (fun n s' => ∃ i σ', n = xs.length + 1 - i ∧ i ≤ xs.length ∧ FAbs G env.locals σ' s' ∧ Out (some env.locals) σ₁.H σ'.H s₁ s' ∧ σ'.H I = none ∧ s'.heap.IsListIter I l i ∧ J i σ') ?_ (xs.length + 1)
    ⟨0, σ₁, rfl, Nat.zero_le _, X2, O2, x₁.noneAt hI0, ⟨_, by rw [← hIe]; exact Heap.get?_push_size _ rfl, rfl, rfl⟩, FL.start⟩
  intro n' s' hq3
  refine x2_7 hq3 ?_; (try clear hq3); intro i σ' rfl hi x' o' hHI hit j
  refine x1_1 (FL.at_ _ _ j) ?_; intro z₂ hz₂
  refine x2_3 (isList_of x' hz₂) ?_; intro vs' n2 hl' e' _
  have hw : ∀ b ∈ [I], σ'.H b = none ∧ b ≠ env.locals ∧ G.B.get? b = none := fun b hb => by rw [List.mem_singleton.mp hb]; exact ⟨hHI, hIL, hIB⟩
  have hw' : ∀ b ∈ [I], s₁.heap.get? b = none := fun b hb => by rw [List.mem_singleton.mp hb]; exact hI0
  by_cases hlt : i < xs.length
  · have hx : xs[i]? = some xs[i] := List.getElem?_eq_getElem hlt
    refine x1_2 (getElem_er e' hx) ?_; intro u hu hue
    refine wpAny_pyNext_list_item hit ⟨_, hl', rfl, n2, rfl⟩ (by simpa using hu) fun h₂ hit₂ hs₂ => ?_
    have kp : ∀ b o, b ∉ [I] → s'.heap.get? b = some o → h₂.get? b = some o := fun b o hb e => (hs₂.2 b (fun q => hb (by simp [q]))).trans e
    have x₂ := x'.wrote (tk := s'.toks) hw kp
    have o₂ := o'.wrote (tk := s'.toks) hw' kp
    refine noE (go_list hit₂ (noE (wpAny_mono (FL.turn i _ σ' hx j u hue _ x₂) ?_ fun _ _ x => x)))
    intro _ s₃ hq4
    refine x1_3 hq4 ?_; (try clear hq4); intro σ₃ x₃ o₃ q₃
    refine noE (wpAny_mono (q₃ s₃ x₃) ?_ fun _ _ x => x)
    intro f s₄ hq5
    refine x1_3 hq5 ?_; (try clear hq5); intro σ₄ x₄ o₄ q₄
    refine x1_3 hit₂ ?_; (try clear hit₂); intro oI hoI c1 c2
    have z := (o₃.trans o₄).stay hIL hHI hoI
    have it₄ : s₄.heap.IsListIter I l (i + 1) := ⟨oI, z.2, c1, c2⟩
    have O := (o₂.trans o₃).trans o₄
    cases f with
    | next => exact ⟨_, by lia, i + 1, σ₄, rfl, hlt, x₄, O, z.1, it₄, q₄⟩
    | cont => exact ⟨_, by lia, i + 1, σ₄, rfl, hlt, x₄, O, z.1, it₄, q₄⟩
    | brk => exact ⟨σ₄, x₄, o₁.trans O, q₄⟩
    | ret v => exact ⟨σ₄, x₄, o₁.trans O, q₄⟩
  · have hie : i = xs.length := by lia
    subst hie
    have hlen : vs'.size = xs.length := by rw [← e', List.length_map, Array.length_toList]
    refine wpAny_pyNext_list_end hr hit ⟨_, hl', rfl, n2, rfl⟩ (by simp [hlen]) fun h₂ hx₂ => ?_
    have kp : ∀ b o, b ∉ [I] → s'.heap.get? b = some o → h₂.get? b = some o := fun b o hb e => hx₂ b o (fun q => hb (by simp [q])) e
    exact wpAny_execs_nil ⟨σ', x'.wrote (tk := s'.toks) hw kp, o₁.trans (o'.wrote (tk := s'.toks) hw' kp), FL.fin σ' j⟩

theorem W_assign_Name {x : Str} {px : Pos} {u : Value} {Q : Unit → St → Prop} (q : Q () ⟨setm σ.m x (er u), σ.H⟩) (hl : env.kindOf x = some .local := by with_unfolding_all rfl) (hp : (env.scope.kind == .class || (env.scope.kind == .module && env.locals != env.globals)) = false := by with_unfolding_all rfl) : Wt G A env.locals id (assign (.Name x px) env u) Q σ := fun s X =>
  wpAny_assign_Name (W_storeName hl hp q s X)

theorem W_callWith_T {T : String} {first : List Value} {e : PySem.Expr} {rest : List PySem.Expr} {pos : Pos} {Q : Value → St → Prop}
    (h : Wargs G A env pos (e :: rest) (fun vs σ₁ => Wcall G A env.locals (.type T) (first.map er ++ vs) Q σ₁) σ)
    (he : starEach (e :: rest) env = (false, eval e env) :: starEach rest env := by with_unfolding_all rfl) (hplain : (backTo pos (starEach rest env)).any (·.1) = false := by with_unfolding_all rfl) :
    Wt G A env.locals er (callWith pos (.type T) first (backTo pos (starEach (e :: rest) env)) []) Q σ := fun s X => by
  refine callWith_of (P := fun _ => True) (by rw [he]; show ((false || (backTo pos (starEach rest env)).any (·.1)) || false) = false; rw [hplain]; rfl) (fun h _ => ⟨.machine, .inr (.inl rfl), Looks.of_pure rfl⟩) ?_
  have h := h s X
  rw [he] at h ⊢
  refine evalArgs_plain (wpAny_mono h ?_ fun _ _ x => x)
  intro vs s₁ hq6
  refine x1_3 hq6 ?_; (try clear hq6); intro σ₁ x₁ o₁ q₁
  exact ⟨trivial, W_then (q₁ (first ++ vs) (by rw [List.map_append])) x₁ o₁⟩

theorem one_arg {us : List Value} {v : Value} (h : us.map er = [v]) : ∃ u, us = [u] ∧ er u = v := by
  rcases us with _ | ⟨u, _ | ⟨u', r⟩⟩
  · simp at h
  · exact ⟨u, rfl, (List.cons.inj h).1⟩
  · simp at h
theorem two_args {us : List Value} {v v' : Value} (h : us.map er = [v, v']) : ∃ u u', us = [u, u'] ∧ er u = v ∧ er u' = v' := by
  rcases us with _ | ⟨u, _ | ⟨u', _ | _⟩⟩
  · simp at h
  · simp at h
  · exact ⟨u, u', rfl, (List.cons.inj h).1, (List.cons.inj (List.cons.inj h).2).1⟩
  · simp at h
theorem three_args {us : List Value} {v v' v'' : Value} (h : us.map er = [v, v', v'']) : ∃ u u' u'', us = [u, u', u''] ∧ er u = v ∧ er u' = v' ∧ er u'' = v'' := by
  rcases us with _ | ⟨u, _ | ⟨u', _ | ⟨u'', _ | _⟩⟩⟩
  · simp at h
  · simp at h
  · simp at h
  · exact ⟨u, u', u'', rfl, (List.cons.inj h).1, (List.cons.inj (List.cons.inj h).2).1, (List.cons.inj (List.cons.inj (List.cons.inj h).2).2).1⟩
  · simp at h

/-- a plain push of a tracked object -/
theorem FAbs.push {s : Shared} (X : FAbs G L σ s) (o : Obj) (mo : MO) {tk : Nat} (hi : mo.Is G o) (hf : o.isFreed = false) :
    FAbs G L ⟨σ.m, upd σ.H s.heap.objs.size mo⟩ { s with heap := s.heap.push o, toks := tk } ∧ Out (some L) σ.H (upd σ.H s.heap.objs.size mo) s { s with heap := s.heap.push o, toks := tk } ∧ σ.H s.heap.objs.size = none ∧ s.heap.objs.size ≠ L := by
  (refine x1_2 X.fr ?_; intro m F hm)
  exact X.new hm (F.push o) (X.full.push F o hf) (fun p hp => .tail _ hp) (.head _) (get_ge (Nat.le_refl _)) hi

theorem W_range {n : Int} {Q : Value → St → Prop} (q : ∀ a, σ.H a = none → a ≠ L → Q (.ref a) ⟨σ.m, upd σ.H a (.rng n)⟩) : Wcall G A L (.type "range") [.int n 0] Q σ := fun us hu s X => by
  (refine x1_2 (one_arg hu) ?_; intro u rfl hu')
  refine x1_1 (er_int hu') ?_; intro t rfl
  refine call_range_1 ?_
  refine x0_4 (X.push (tk := s.toks + 1 + 1) { cls := .type "range", data := .fields #[.int 0 s.toks, .int n t, .int 1 (s.toks + 1)] } (.rng n) ⟨_, _, _, rfl⟩ rfl) ?_; intro a b c d
  exact ⟨_, a, b, q _ c d⟩

theorem go_any {target : PySem.Expr} {I : Addr} {o : Obj} {u : Value} {M : Model} {E : Value → Shared → Prop} {s : Shared} {Q : Unit → Shared → Prop} (ho : s.heap.get? I = some o) (hc : o.cls = .type "range_iterator") (q : Q () s) : wpAny M A (letOwnedTupleGo target (.ref I) u) Q E s := by
  cases target <;> first | exact wpAny_pure q | skip
  all_goals (
    cases u <;> first | exact wpAny_pure q | skip
    unfold letOwnedTupleGo
    refine wpAny_bind (wpAny_load ho ?_)
    rw [hc]
    cases o.data <;> first | exact wpAny_pure q | (refine wpAny_ite ?_; rw [if_neg (by intro h; simp at h)]; exact wpAny_pure q))

structure ForR (G : Gl) (A : Around) (env : Env) (target : PySem.Expr) (body : List Stmt) (Q : Flow → St → Prop) (n : Nat) (J : Nat → St → Prop) (σ₁ : St) : Prop where
  start : J 0 σ₁
  turn : ∀ i σ₂, i < n → J i σ₂ → ∀ u, er u = .int i 0 → Wt G A env.locals id (assign target env u) (fun _ σ₃ => Ws G A env body (Loop (At J (i + 1)) Q) σ₃) σ₂
  fin : ∀ σ₂, J n σ₂ → Q .next σ₂

/-- for x in range(e) -/
theorem Wst_For_range {target iter : PySem.Expr} {body : List Stmt} {pos : Pos} {Q : Flow → St → Prop} (hr : A.handled = none)
    (h : We G A env iter (fun v σ₁ => ∃ r, ∃ n : Nat, ∃ J, v = .ref r ∧ σ₁.H r = some (.rng n) ∧ n ≤ 1000000 ∧ ForR G A env target body Q n J σ₁) σ)
    (hs : ∀ x, foldedSetIterable iter env x = pure x := by intro _; with_unfolding_all rfl) : Wst G A env (.For target iter body [] pos) Q σ := fun s X => by
  refine wpAny_For (wpAny_mono (h s X) ?_ fun _ _ x => x) hs
  intro v s₁ hq7
  obtain ⟨σ₁, x₁, o₁, r, n, J, hv, hR, hn, FR⟩ := hq7
  obtain rfl := er_ref hv
  refine x1_3 (x₁.at hR) ?_; intro ro hro hq8 _
  refine x3_1 hq8 ?_; (try clear hq8); intro t u v rfl
  refine wpAny_pyIter_range hro (small_one (by lia) (by lia) (by lia) (by lia)) ?_
  have hsz : Builtin.Range.rangeSize 0 (n : Int) 1 = (n : Int) := by
    rw [rangeSize_one]
    split <;> lia
  rw [hsz]
  have hI0 : s₁.heap.get? s₁.heap.objs.size = none := get_ge (Nat.le_refl _)
  generalize hIe : s₁.heap.objs.size = I at hI0
  refine x0_2 (x₁.raw (h' := s₁.heap.push { cls := .type "range_iterator", data := .fields #[rawInt 0, rawInt (n : Int), rawInt 1] }) (tk := s₁.toks) (fun b o e => Heap.get?_push_of_some _ e)) ?_; intro X2 O2
  have hIL : I ≠ env.locals := fun q => by
    (refine x1_2 x₁.fr ?_; intro m F _)
    have h3 : env.locals < I := hIe ▸ F.ns.lt
    rw [q] at h3
    exact Nat.lt_irrefl _ h3
  have hIB : G.B.get? I = none := by
    cases z : G.B.get? I with
    | none => rfl
    | some o => have := x₁.h.keep I o z; rw [hI0] at this; cases this
  refine codeAny_forLoop_any (fun k s' => ∃ i σ', k = n + 1 - i ∧ i ≤ n ∧ FAbs G env.locals σ' s' ∧ Out (some env.locals) σ₁.H σ'.H s₁ s' ∧ σ'.H I = none ∧ IsRangeIter s'.heap I (i : Int) ((n : Int) - (i : Int)) 1 ∧ J i σ') ?_ (n + 1)
    ⟨0, σ₁, rfl, Nat.zero_le _, X2, O2, x₁.noneAt hI0, by rw [← hIe]; simpa [IsRangeIter] using Heap.get?_push_size _ rfl, FR.start⟩
  intro k' s' hq9
  refine x2_7 hq9 ?_; (try clear hq9); intro i σ' rfl hi x' o' hHI hit j
  have hw : ∀ b ∈ [I], σ'.H b = none ∧ b ≠ env.locals ∧ G.B.get? b = none := fun b hb => by rw [List.mem_singleton.mp hb]; exact ⟨hHI, hIL, hIB⟩
  have hw' : ∀ b ∈ [I], s₁.heap.get? b = none := fun b hb => by rw [List.mem_singleton.mp hb]; exact hI0
  by_cases hlt : i < n
  · refine wpAny_pyNext_range_item hit (by lia) fun h₂ hit₂ hs₂ => ?_
    have kp : ∀ b o, b ∉ [I] → s'.heap.get? b = some o → h₂.get? b = some o := fun b o hb e => (hs₂.2 b (fun q => hb (by simp [q]))).trans e
    have x₂ := fun tk => x'.wrote (tk := tk) hw kp
    have o₂ := fun tk => o'.wrote (tk := tk) hw' kp
    refine noE (go_any hit₂ rfl (noE (wpAny_mono (FR.turn i σ' hlt j _ rfl _ (x₂ _)) ?_ fun _ _ x => x)))
    intro _ s₃ hq10
    refine x1_3 hq10 ?_; (try clear hq10); intro σ₃ x₃ o₃ q₃
    refine noE (wpAny_mono (q₃ s₃ x₃) ?_ fun _ _ x => x)
    intro f s₄ hq11
    refine x1_3 hq11 ?_; (try clear hq11); intro σ₄ x₄ o₄ q₄
    have z := (o₃.trans o₄).stay hIL hHI hit₂
    have e1 : (i : Int) + 1 = ((i + 1 : Nat) : Int) := by push_cast; rfl
    have e2 : (n : Int) - ((i + 1 : Nat) : Int) = (n : Int) - (i : Int) - 1 := by push_cast; lia
    have it₄ : IsRangeIter s₄.heap I ((i + 1 : Nat) : Int) ((n : Int) - ((i + 1 : Nat) : Int)) 1 := by rw [e2, ← e1]; exact z.2
    have O := ((o₂ _).trans o₃).trans o₄
    cases f with
    | next => exact ⟨_, by lia, i + 1, σ₄, rfl, hlt, x₄, O, z.1, it₄, q₄⟩
    | cont => exact ⟨_, by lia, i + 1, σ₄, rfl, hlt, x₄, O, z.1, it₄, q₄⟩
    | brk => exact ⟨σ₄, x₄, o₁.trans O, q₄⟩
    | ret v => exact ⟨σ₄, x₄, o₁.trans O, q₄⟩
  · have hie : i = n := by lia
    subst hie
    refine wpAny_pyNext_range_end hr hit (by lia) fun h₂ hx₂ => ?_
    have kp : ∀ b o, b ∉ [I] → s'.heap.get? b = some o → h₂.get? b = some o := fun b o hb e => hx₂ b o (fun q => hb (by simp [q])) e
    exact wpAny_execs_nil ⟨σ', x'.wrote (tk := s'.toks) hw kp, o₁.trans (o'.wrote (tk := s'.toks) hw' kp), FR.fin σ' j⟩
end

end -- MW6

section -- MW7

section
variable {G : Gl} {A : Around} {env : Env} {σ : St} {L : Addr} {a b : Int} {x y : Addr}

theorem ints2 {u u' : Value} (h : er u = .int a 0) (h' : er u' = .int b 0) : ∃ t t', u = .int a t ∧ u' = .int b t' := by
  (refine x1_1 (er_int h) ?_; intro t rfl)
  refine x1_1 (er_int h') ?_; intro t' rfl
  exact ⟨t, t', rfl, rfl⟩

theorem W_add {Q : Value → St → Prop} (q : Q (.int (a + b) 0) σ) : Wv2 G A L er (binaryOp .Add) (.int a 0) (.int b 0) Q σ := fun u u' h h' s X => by
  (refine x2_2 (ints2 h h') ?_; intro t t' rfl rfl)
  exact add_int ⟨σ, X.tok, Out.tok, q⟩
theorem W_sub {Q : Value → St → Prop} (q : Q (.int (a - b) 0) σ) : Wv2 G A L er (binaryOp .Sub) (.int a 0) (.int b 0) Q σ := fun u u' h h' s X => by
  (refine x2_2 (ints2 h h') ?_; intro t t' rfl rfl)
  exact sub_int ⟨σ, X.tok, Out.tok, q⟩
theorem W_mul {Q : Value → St → Prop} (hm : IntMulOk a b) (q : Q (.int (a * b) 0) σ) : Wv2 G A L er (binaryOp .Mult) (.int a 0) (.int b 0) Q σ := fun u u' h h' s X => by
  (refine x2_2 (ints2 h h') ?_; intro t t' rfl rfl)
  exact mul_int ⟨σ, X.tok, Out.tok, q⟩ hm
theorem W_mod {Q : Value → St → Prop} (hb : b ≠ 0) (q : Q (.int (a.fmod b) 0) σ) : Wv2 G A L er (binaryOp .Mod) (.int a 0) (.int b 0) Q σ := fun u u' h h' s X => by
  (refine x2_2 (ints2 h h') ?_; intro t t' rfl rfl)
  exact mod_int' hb ⟨σ, X.tok, Out.tok, q⟩
theorem W_floordiv {Q : Value → St → Prop} (hb : b ≠ 0) (hp : Builtin.divisionGoesByPylong a b = false) (q : Q (.int (a.fdiv b) 0) σ) : Wv2 G A L er (binaryOp .FloorDiv) (.int a 0) (.int b 0) Q σ := fun u u' h h' s X => by
  (refine x2_2 (ints2 h h') ?_; intro t t' rfl rfl)
  exact floordiv_int hb ⟨σ, X.tok, Out.tok, q⟩ (.inl hp)
theorem W_lt {Q : Value → St → Prop} (q : Q (.bool (decide (a < b))) σ) : Wv2 G A L er (compareOp .Lt) (.int a 0) (.int b 0) Q σ := fun u u' h h' s X => by
  (refine x2_2 (ints2 h h') ?_; intro t t' rfl rfl)
  exact lt_int ⟨σ, X, Out.refl .., q⟩
theorem W_gt {Q : Value → St → Prop} (q : Q (.bool (decide (b < a))) σ) : Wv2 G A L er (compareOp .Gt) (.int a 0) (.int b 0) Q σ := fun u u' h h' s X => by
  (refine x2_2 (ints2 h h') ?_; intro t t' rfl rfl)
  exact gt_int ⟨σ, X, Out.refl .., q⟩
theorem W_le {Q : Value → St → Prop} (q : Q (.bool (decide (a ≤ b))) σ) : Wv2 G A L er (compareOp .LtE) (.int a 0) (.int b 0) Q σ := fun u u' h h' s X => by
  (refine x2_2 (ints2 h h') ?_; intro t t' rfl rfl)
  exact le_int ⟨σ, X, Out.refl .., q⟩
theorem W_ge {Q : Value → St → Prop} (q : Q (.bool (decide (b ≤ a))) σ) : Wv2 G A L er (compareOp .GtE) (.int a 0) (.int b 0) Q σ := fun u u' h h' s X => by
  (refine x2_2 (ints2 h h') ?_; intro t t' rfl rfl)
  exact ge_int ⟨σ, X, Out.refl .., q⟩
theorem W_eq {Q : Value → St → Prop} (q : Q (.bool (a == b)) σ) : Wv2 G A L er (compareOp .Eq) (.int a 0) (.int b 0) Q σ := fun u u' h h' s X => by
  (refine x2_2 (ints2 h h') ?_; intro t t' rfl rfl)
  exact eq_int ⟨σ, X, Out.refl .., q⟩
theorem W_ne {Q : Value → St → Prop} (q : Q (.bool (a != b)) σ) : Wv2 G A L er (compareOp .NotEq) (.int a 0) (.int b 0) Q σ := fun u u' h h' s X => by
  (refine x2_2 (ints2 h h') ?_; intro t t' rfl rfl)
  exact ne_int ⟨σ, X, Out.refl .., q⟩
theorem W_ne_none {Q : Value → St → Prop} (q : Q (.bool false) σ) : Wv2 G A L er (compareOp .NotEq) .none .none Q σ := fun u u' h h' s X => by
  obtain rfl := er_none h
  obtain rfl := er_none h'
  exact EqNone.ne_none_none ⟨σ, X, Out.refl .., q⟩
theorem W_is_none {v : Value} {Q : Value → St → Prop} (q : Q (.bool (v == .none)) σ) : Wv2 G A L er (compareOp .Is) v .none Q σ := fun u u' h h' s X => by
  obtain rfl := er_none h'
  have e : (v == Value.none) = (u == Value.none) := by subst h; cases u <;> rfl
  rw [e] at q
  exact is_none ⟨σ, X, Out.refl .., q⟩

theorem W_isNot_inst {C d C' d' : Addr} {Q : Value → St → Prop} (hx : σ.H x = some (.inst C d)) (hy : σ.H y = some (.inst C' d')) (q : Q (.bool (!decide (x = y))) σ) : Wv2 G A L er (compareOp .IsNot) (.ref x) (.ref y) Q σ := fun u u' h h' s X => by
  obtain rfl := er_ref h
  obtain rfl := er_ref h'
  refine x1_3 (X.at hx) ?_; intro o ho hi _
  refine x1_3 (X.at hy) ?_; intro o' ho' hi' _
  obtain rfl : o = instObj C d := hi
  by_cases e : x = y
  · subst e
    rw [decide_eq_true rfl] at q
    exact wpAny_isNot_ref_self ⟨σ, X, Out.refl .., q⟩
  · rw [decide_eq_false e] at q
    exact kto_isnot ho ho' e (by intro z; cases z) ⟨σ, X, Out.refl .., q⟩

/-- tests -/
theorem Wb_value {e : PySem.Expr} {Q : Bool → St → Prop} (h : We G A env e (fun v σ₁ => Wv G A env.locals id truthy v Q σ₁) σ)
    (he : isTrue e env (eval e env) = (do let v ← eval e env; standAt e.pos; holding [v] (truthy v)) := by with_unfolding_all rfl) : Wb G A env e Q σ := fun s X => by
  refine wpAny_isTrue_value (wpAny_mono (h s X) ?_ fun _ _ x => x) he
  intro v s₁ hq1
  refine x1_3 hq1 ?_; (try clear hq1); intro σ₁ x₁ o₁ q
  exact W_then (q v rfl) x₁ o₁
theorem Wb_Not {e : PySem.Expr} {pos : Pos} {Q : Bool → St → Prop} (h : Wb G A env e (fun b σ₁ => Q (!b) σ₁) σ) : Wb G A env (.UnaryOp .Not e pos) Q σ := fun s X => by
  refine wpAny_isTrue_Not (wpAny_mono (h s X) ?_ fun _ _ x => x)
  intro b s₁ hq2
  refine x1_3 hq2 ?_; (try clear hq2); intro σ₁ x₁ o₁ q
  exact ⟨σ₁, x₁, o₁, q⟩

abbrev Wall (G : Gl) (A : Around) (env : Env) (op : BoolOp) (es : List PySem.Expr) (Q : Bool → St → Prop) (σ : St) : Prop := Wt G A env.locals id (allTrue op es env) Q σ
theorem Wb_BoolOp {op : BoolOp} {es : List PySem.Expr} {pos : Pos} {Q : Bool → St → Prop} (h : Wall G A env op es Q σ) : Wb G A env (.BoolOp op es pos) Q σ := fun s X => wpAny_isTrue_BoolOp (h s X)
theorem Wall_And_nil {Q : Bool → St → Prop} (h : Q true σ) : Wall G A env .And [] Q σ := fun s X => wpAny_allTrue_And_nil ⟨σ, X, Out.refl .., h⟩
theorem Wall_Or_nil {Q : Bool → St → Prop} (h : Q false σ) : Wall G A env .Or [] Q σ := fun s X => wpAny_allTrue_Or_nil ⟨σ, X, Out.refl .., h⟩
theorem Wall_And {e : PySem.Expr} {es : List PySem.Expr} {Q : Bool → St → Prop} (h : Wb G A env e (fun b σ₁ => if b = true then Wall G A env .And es Q σ₁ else Q false σ₁) σ) : Wall G A env .And (e :: es) Q σ := fun s X => by
  refine wpAny_allTrue_And_cons (wpAny_mono (h s X) ?_ fun _ _ x => x)
  intro b s₁ hq3
  refine x1_3 hq3 ?_; (try clear hq3); intro σ₁ x₁ o₁ q
  cases b
  · exact ⟨σ₁, x₁, o₁, q⟩
  · exact W_then q x₁ o₁
theorem Wall_Or {e : PySem.Expr} {es : List PySem.Expr} {Q : Bool → St → Prop} (h : Wb G A env e (fun b σ₁ => if b = true then Q true σ₁ else Wall G A env .Or es Q σ₁) σ) : Wall G A env .Or (e :: es) Q σ := fun s X => by
  refine wpAny_allTrue_Or_cons (wpAny_mono (h s X) ?_ fun _ _ x => x)
  intro b s₁ hq4
  refine x1_3 hq4 ?_; (try clear hq4); intro σ₁ x₁ o₁ q
  cases b
  · exact W_then q x₁ o₁
  · exact ⟨σ₁, x₁, o₁, q⟩
theorem We_And2 {e e' : PySem.Expr} {pos : Pos} {Q : Value → St → Prop} (h : We G A env e (fun v σ₁ => Wv G A env.locals id truthy v (fun t σ₂ => if t = true then We G A env e' Q σ₂ else Q v σ₂) σ₁) σ) : We G A env (.BoolOp .And [e, e'] pos) Q σ := fun s X => by
  refine wpAny_And2 (wpAny_mono (h s X) ?_ fun _ _ x => x)
  intro v s₁ hq5
  refine x1_3 hq5 ?_; (try clear hq5); intro σ₁ x₁ o₁ q
  refine wpAny_mono (q v rfl s₁ x₁) ?_ fun _ _ x => x
  intro t s₂ hq6
  refine x1_3 hq6 ?_; (try clear hq6); intro σ₂ x₂ o₂ q₂
  cases t
  · exact ⟨σ₂, x₂, o₁.trans o₂, q₂⟩
  · exact W_then q₂ x₂ (o₁.trans o₂)
theorem We_Or2 {e e' : PySem.Expr} {pos : Pos} {Q : Value → St → Prop} (h : We G A env e (fun v σ₁ => Wv G A env.locals id truthy v (fun t σ₂ => if t = true then Q v σ₂ else We G A env e' Q σ₂) σ₁) σ) : We G A env (.BoolOp .Or [e, e'] pos) Q σ := fun s X => by
  refine wpAny_Or2 (wpAny_mono (h s X) ?_ fun _ _ x => x)
  intro v s₁ hq7
  refine x1_3 hq7 ?_; (try clear hq7); intro σ₁ x₁ o₁ q
  refine wpAny_mono (q v rfl s₁ x₁) ?_ fun _ _ x => x
  intro t s₂ hq8
  refine x1_3 hq8 ?_; (try clear hq8); intro σ₂ x₂ o₂ q₂
  cases t
  · exact W_then q₂ x₂ (o₁.trans o₂)
  · exact ⟨σ₂, x₂, o₁.trans o₂, q₂⟩

/-- and of three -/
theorem We_And3 {e e' e'' : PySem.Expr} {pos : Pos} {Q : Value → St → Prop} (h : We G A env e (fun v σ₁ => Wv G A env.locals id truthy v (fun t σ₂ => if t = true then We G A env (.BoolOp .And [e', e''] pos) Q σ₂ else Q v σ₂) σ₁) σ) : We G A env (.BoolOp .And [e, e', e''] pos) Q σ := fun s X => by
  show wpAny _ A (do
    let v ← eval e env
    standAt pos
    let t ← holding [v] (truthy v)
    match BoolOp.And, t with
    | .And, false | .Or, true => pure v
    | _, _ => boolOp pos .And [eval e' env, eval e'' env]) _ _ s
  refine wpAny_bind (wpAny_mono (h s X) ?_ fun _ _ x => x)
  intro v s₁ hq9
  refine x1_3 hq9 ?_; (try clear hq9); intro σ₁ x₁ o₁ q
  refine wpAny_bind (wpAny_standAt (wpAny_bind (wpAny_holding (wpAny_mono (q v rfl s₁ x₁) ?_ fun _ _ x => x))))
  intro t s₂ hq10
  refine x1_3 hq10 ?_; (try clear hq10); intro σ₂ x₂ o₂ q₂
  cases t
  · exact wpAny_pure ⟨σ₂, x₂, o₁.trans o₂, q₂⟩
  · exact W_then q₂ x₂ (o₁.trans o₂)

theorem We_IfExp {test e e' : PySem.Expr} {pos : Pos} {Q : Value → St → Prop} (h : Wb G A env test (fun b σ₁ => if b = true then We G A env e Q σ₁ else We G A env e' Q σ₁) σ) : We G A env (.IfExp test e e' pos) Q σ := fun s X => by
  refine wpAny_IfExp (wpAny_mono (h s X) ?_ fun _ _ x => x)
  intro b s₁ hq11
  refine x1_3 hq11 ?_; (try clear hq11); intro σ₁ x₁ o₁ q
  cases b
  · exact W_then q x₁ o₁
  · exact W_then q x₁ o₁
theorem We_Unary {op : PySem.UnaryOp} {e : PySem.Expr} {pos : Pos} {Q : Value → St → Prop} (h : We G A env e (fun v σ₁ => Wv G A env.locals er (unaryOp op) v Q σ₁) σ) : We G A env (.UnaryOp op e pos) Q σ := fun s X => by
  refine wpAny_UnaryOp (wpAny_mono (h s X) ?_ fun _ _ x => x)
  intro v s₁ hq12
  refine x1_3 hq12 ?_; (try clear hq12); intro σ₁ x₁ o₁ q
  exact W_then (q v rfl) x₁ o₁
theorem W_neg {Q : Value → St → Prop} (q : Q (.int (-a) 0) σ) : Wv G A L er (unaryOp .USub) (.int a 0) Q σ := fun u h s X => by
  (refine x1_1 (er_int h) ?_; intro t rfl)
  exact neg_int ⟨σ, X.tok, Out.tok, q⟩

theorem map_toList_size {vs : Array Value} {xs : List Value} (e : vs.toList.map er = xs) : vs.size = xs.length := by rw [← e, List.length_map, Array.length_toList]

theorem W_addList {z z' : Bool} {xs ys : List Value} {Q : Value → St → Prop} (hx : σ.H x = some (.list z xs)) (hy : σ.H y = some (.list z' ys)) (hz : xs.length + ys.length ≤ 1000000)
    (q : ∀ a, σ.H a = none → a ≠ L → Q (.ref a) ⟨σ.m, upd σ.H a (.list false (xs ++ ys))⟩) : Wv2 G A L er (binaryOp .Add) (.ref x) (.ref y) Q σ := fun u u' h h' s X => by
  obtain rfl := er_ref h
  obtain rfl := er_ref h'
  refine x2_3 (isList_of X hx) ?_; intro vs n ho e _
  refine x2_3 (isList_of X hy) ?_; intro ws n' ho' e' _
  refine x1_2 X.fr ?_; intro m F hm
  refine add_arrays F X.full ⟨_, ho, rfl, n, rfl⟩ ⟨_, ho', rfl, n', rfl⟩ (fun h' F' N' => ?_) (by rw [map_toList_size e, map_toList_size e', sizeLine_eq]; lia)
  refine x0_4 (X.new (tk := s.toks) (mo := .list false (xs ++ ys)) hm F' N' (fun p hp => .tail _ hp) (.head _) (get_ge (Nat.le_refl _)) ⟨_, 0, rfl, by simp [e, e']⟩) ?_; intro a b c d
  exact ⟨_, a, b, q _ c d⟩

/-- the three parts of a slice -/
noncomputable def Wpart (G : Gl) (A : Around) (env : Env) (o : Option PySem.Expr) (Q : Option Int → St → Prop) (σ : St) : Prop :=
  ∀ s, FAbs G env.locals σ s → wpAny (model G.prog G.w) A (evalPart o env) (fun v s' => ∃ k, IsPart v k ∧ ∃ σ', FAbs G env.locals σ' s' ∧ Out (some env.locals) σ.H σ'.H s s' ∧ Q k σ') (fun _ _ => False) s
theorem Wpart_none {Q : Option Int → St → Prop} (h : Q none σ) : Wpart G A env none Q σ := fun s X => by
  rw [evalPart_none]; exact wpAny_pure ⟨none, .none, σ, X, Out.refl .., h⟩
theorem Wpart_some {e : PySem.Expr} {Q : Option Int → St → Prop} (h : We G A env e (fun v σ₁ => ∃ i, v = .int i 0 ∧ Q (some i) σ₁) σ) : Wpart G A env (some e) Q σ := fun s X => by
  have h1 : evalPart (some e) env = eval e env := by first | rfl | (unfold evalPart; rfl)
  rw [h1]
  refine wpAny_mono (h s X) ?_ fun _ _ x => x
  intro v s₁ hq13
  obtain ⟨σ₁, x₁, o₁, i, hv, q⟩ := hq13
  refine x1_1 (er_int hv) ?_; intro t rfl
  exact ⟨some i, .int i t, σ₁, x₁, o₁, q⟩
end

end -- MW7

section -- MK0

noncomputable def stmtAt (i : Nat) : Stmt := PySem.Challenge.pw_pq1032_01.main.body.getD i (.Pass default)
noncomputable def inCls (j : Nat) : Stmt → Stmt
  | .ClassDef _ _ _ b _ _ _ _ _ _ _ => b.getD j (.Pass default)
  | _ => .Pass default
noncomputable def methAt (i j : Nat) : Stmt := inCls j (stmtAt i)
noncomputable def argsOf : Stmt → Arguments
  | .FunctionDef _ a _ _ _ _ _ _ _ _ => a
  | _ => default
noncomputable def bodyOf : Stmt → List Stmt
  | .FunctionDef _ _ b _ _ _ _ _ _ _ => b
  | _ => []
noncomputable def scopeOf : Stmt → Scope
  | .FunctionDef _ _ _ _ _ _ sc _ _ _ => sc
  | _ => default

structure FunK (G : Gl) (st : Stmt) (f : Addr) : Prop where
  at_ : ∃ od osl name qual doc pm an cdv ct, G.K.lookup f = some ⟨.type "function", od, .func (fnOf name qual (argsOf st) (bodyOf st) (scopeOf st) .none .none doc pm an cdv ct), osl⟩ ∧ codeIn G.K cdv qual = true
structure DefK (G : Gl) (nm : Str) (st : Stmt) (f : Addr) : Prop where
  glob : nsIn G.K mainGlobals nm = some (some (.ref f))
  fn : FunK G st f

theorem FunK.keep {G : Gl} {st : Stmt} {f : Addr} (k : FunK G st f) : keepIn G.K (.ref f) = true := by
  obtain ⟨_, _, _, _, _, _, _, _, _, h, _⟩ := k.at_
  unfold keepIn
  dsimp only
  rw [h]
theorem FunK.fnIn {G : Gl} {st : Stmt} {f : Addr} (k : FunK G st f) : fnIn G.K f = true := by
  obtain ⟨_, _, _, _, _, _, _, _, _, h, _⟩ := k.at_
  unfold PySem.W.fnIn
  rw [h]
theorem FunK.ty {G : Gl} {st : Stmt} {f : Addr} (k : FunK G st f) : typeIn G.K (.ref f) = some (.type "function") := by
  obtain ⟨_, _, _, _, _, _, _, _, _, h, _⟩ := k.at_
  unfold typeIn
  dsimp only
  rw [h]
  rfl
theorem FunK.isFn {G : Gl} {st : Stmt} {f : Addr} (k : FunK G st f) : isFn G.K (.ref f) = true := by
  unfold PySem.W.isFn
  rw [k.ty]
  rfl
theorem FunK.get {G : Gl} {st : Stmt} {f : Addr} (k : FunK G st f) : specialIn G.K (.ref f) "__get__" = some (some (.builtin "function.__get__")) := by
  unfold specialIn
  rw [k.ty]
  rfl
theorem FunK.takes {G : Gl} {st : Stmt} {f : Addr} (k : FunK G st f) : takesIn G.K (.ref f) = some false := by
  have e1 : specialIn G.K (.ref f) "__set__" = some none := by unfold specialIn; rw [k.ty]; rfl
  have e2 : specialIn G.K (.ref f) "__delete__" = some none := by unfold specialIn; rw [k.ty]; rfl
  unfold takesIn
  rw [e1]
  dsimp only
  rw [e2]
  rfl

theorem lenZ {P : List Value → Prop} (h : P []) : ∀ us : List Value, us.length = 0 → P us := fun us e => List.length_eq_zero_iff.mp e ▸ h
theorem lenS {P : List Value → Prop} {n : Nat} (h : ∀ u us, us.length = n → P (u :: us)) : ∀ us : List Value, us.length = n + 1 → P us := fun us e => by
  cases us with
  | nil => cases e
  | cons u us => exact h u us (Nat.succ.inj e)
noncomputable def BindTo (st : Stmt) (ns : List Str) (us : List Value) : Prop := ∀ name qual doc pm an cdv ct, bindArgs (fnOf name qual (argsOf st) (bodyOf st) (scopeOf st) .none .none doc pm an cdv ct) ⟨us, []⟩ = pure (ns.zip us)
theorem bd1 {st : Stmt} {ns : List Str} {v1 : Value} (h : ∀ u1, BindTo st ns [u1]) : ∀ us : List Value, us.length = [v1].length → BindTo st ns us := lenS fun u1 => lenZ (h u1)
theorem bd2 {st : Stmt} {ns : List Str} {v1 v2 : Value} (h : ∀ u1 u2, BindTo st ns [u1, u2]) : ∀ us : List Value, us.length = [v1, v2].length → BindTo st ns us := lenS fun u1 => lenS fun u2 => lenZ (h u1 u2)
theorem bd3 {st : Stmt} {ns : List Str} {v1 v2 v3 : Value} (h : ∀ u1 u2 u3, BindTo st ns [u1, u2, u3]) : ∀ us : List Value, us.length = [v1, v2, v3].length → BindTo st ns us := lenS fun u1 => lenS fun u2 => lenS fun u3 => lenZ (h u1 u2 u3)
theorem bd4 {st : Stmt} {ns : List Str} {v1 v2 v3 v4 : Value} (h : ∀ u1 u2 u3 u4, BindTo st ns [u1, u2, u3, u4]) : ∀ us : List Value, us.length = [v1, v2, v3, v4].length → BindTo st ns us := lenS fun u1 => lenS fun u2 => lenS fun u3 => lenS fun u4 => lenZ (h u1 u2 u3 u4)
theorem bd5 {st : Stmt} {ns : List Str} {v1 v2 v3 v4 v5 : Value} (h : ∀ u1 u2 u3 u4 u5, BindTo st ns [u1, u2, u3, u4, u5]) : ∀ us : List Value, us.length = [v1, v2, v3, v4, v5].length → BindTo st ns us := lenS fun u1 => lenS fun u2 => lenS fun u3 => lenS fun u4 => lenS fun u5 => lenZ (h u1 u2 u3 u4 u5)

theorem Wc_fun {G : Gl} {A : Around} (O : G.Ok) {st : Stmt} {f : Addr} {vs : List Value} {H : Hp} {Q : Value → Hp → Prop} (k : FunK G st f) (hroom : A.depth < recursionLimit) (ns : List Str)
    (hbind : ∀ us : List Value, us.length = vs.length → ∀ name qual doc pm an cdv ct, bindArgs (fnOf name qual (argsOf st) (bodyOf st) (scopeOf st) .none .none doc pm an cdv ct) ⟨us, []⟩ = pure (ns.zip us))
    (hloc : ns.all (fun x => (scopeOf st).names.lookup x == some .local) = true)
    (hcell : (scopeOf st).names.all (fun x => x.2 != .cell) = true) (hco : (scopeOf st).isCoroutine = false) (hgen : (scopeOf st).isGenerator = false) (hk : (scopeOf st).kind = .function)
    (h : ∀ L qual cdv, H L = none → Ws G (A.deeper (envOf qual (scopeOf st) L f cdv)) (envOf qual (scopeOf st) L f cdv) (bodyOf st) (fun fl σ' => Q (retOf fl) σ'.H) ⟨bindm ns vs, H⟩) : Wc G A (.ref f) vs Q H := by
  obtain ⟨od, osl, name, qual, doc, pm, an, cdv, ct, h1, h2⟩ := k.at_
  exact Wc_def O h1 h2 hroom ns (fun us hl => hbind us hl ..) hloc hcell hco hgen hk fun L hL => h L qual cdv hL

end -- MK0

section -- MK1

noncomputable def Ext (H H' : Hp) : Prop := ∀ a o, H a = some o → H' a = some o
noncomputable def ExtB (d : Addr) (H H' : Hp) : Prop := ∀ a o, a ≠ d → H a = some o → H' a = some o
noncomputable def Le (H H' : Hp) : Prop := ∀ a o, o.fz = true → H a = some o → H' a = some o

theorem Ext.refl (H : Hp) : Ext H H := fun _ _ h => h
theorem Ext.trans {H H' H'' : Hp} (h : Ext H H') (h' : Ext H' H'') : Ext H H'' := fun a o e => h' a o (h a o e)
theorem Ext.le {H H' : Hp} (h : Ext H H') : Le H H' := fun a o _ e => h a o e
theorem Le.refl (H : Hp) : Le H H := fun _ _ _ h => h
theorem Le.trans {H H' H'' : Hp} (h : Le H H') (h' : Le H' H'') : Le H H'' := fun a o z e => h' a o z (h a o z e)
theorem Ext.b {H H' : Hp} {d : Addr} (h : Ext H H') : ExtB d H H' := fun a o _ e => h a o e
theorem ExtB.trans {d : Addr} {H H' H'' : Hp} (h : ExtB d H H') (h' : ExtB d H' H'') : ExtB d H H'' := fun a o z e => h' a o z (h a o z e)
theorem Ext.new {H : Hp} {a : Addr} {o : MO} (h : H a = none) : Ext H (upd H a o) := fun b o' e => (upd_ne (fun q => by rw [q, h] at e; cases e)).trans e
theorem Le.mut {H : Hp} {a : Addr} {o₀ o : MO} (h : H a = some o₀) (hz : o₀.fz = false) : Le H (upd H a o) := fun b o' z e => (upd_ne (fun q => by rw [q, h] at e; cases e; rw [hz] at z; cases z)).trans e
/-- turned at a place that did not stand at H₀ -/
theorem Ext.mut {H₀ H : Hp} {a : Addr} {o : MO} (h : Ext H₀ H) (h₀ : H₀ a = none) : Ext H₀ (upd H a o) := fun b o' e => (upd_ne (fun q => by rw [q, h₀] at e; cases e)).trans (h b o' e)
theorem ExtB.mut {d : Addr} {H₀ H : Hp} {a : Addr} {o : MO} (h : ExtB d H₀ H) (h₀ : H₀ a = none) : ExtB d H₀ (upd H a o) := fun b o' hb e => (upd_ne (fun q => by rw [q, h₀] at e; cases e)).trans (h b o' hb e)
theorem ExtB.at_ {d : Addr} {H₀ H : Hp} {o : MO} (h : ExtB d H₀ H) : ExtB d H₀ (upd H d o) := fun b o' hb e => (upd_ne hb).trans (h b o' hb e)
theorem Ext.none {H H' : Hp} {a : Addr} (h : Ext H H') (e : H' a = none) : H a = none := by
  cases q : H a with
  | none => rfl
  | some o => rw [h a o q] at e; cases e
theorem ExtB.none {d : Addr} {H H' : Hp} {a : Addr} (h : ExtB d H H') (hd : a ≠ d) (e : H' a = none) : H a = none := by
  cases q : H a with
  | none => rfl
  | some o => rw [h a o hd q] at e; cases e
theorem upd_none {H : Hp} {a b : Addr} {o : MO} (h : upd H a o b = none) : H b = none := by
  unfold upd at h
  split at h
  · cases h
  · exact h

theorem upd_same {H : Hp} {a : Addr} {o : MO} : upd H a o a = some o := if_pos rfl
theorem upd_other {H : Hp} {a b : Addr} {o : MO} {r : Option MO} (h : b ≠ a) (h' : H b = r) : upd H a o b = r := (if_neg h).trans h'
theorem setm_same {m : Str → Option Value} {x : Str} {v : Value} : setm m x v x = some v := if_pos rfl
theorem setm_other {m : Str → Option Value} {x y : Str} {v : Value} {r : Option Value} (h : y ≠ x) (h' : m y = r) : setm m x v y = r := (if_neg h).trans h'
theorem ne_new {H : Hp} {a b : Addr} {o : MO} (h : H a = none) (h' : H b = some o) : b ≠ a := fun q => by rw [q, h] at h'; cases h'
theorem ne_dif {H : Hp} {a b : Addr} {o o' : MO} (h : H a = some o) (h' : H b = some o') (hn : o' ≠ o) : b ≠ a := fun q => by rw [q, h] at h'; cases h'; exact hn rfl


end -- MK1

local macro_rules | `(tactic| walk_at "v") => `(tactic| (with_reducible first | assumption | exact setm_same | (refine setm_other (by with_unfolding_all decide) ?_; walk_at "v") | (with_unfolding_all rfl)))

section -- MK2

/-- what every class of the program has -/
structure ClsK (G : Gl) (nm : Str) (C fi : Addr) (st : Stmt) : Prop where
  glob : nsIn G.K mainGlobals nm = some (some (.ref C))
  keep : keepIn G.K (.ref C) = true
  pg : plainGet G.K C "x" = true
  hd : hasDictIn G.K C = true
  po : plainOver G.K C = true
  made : makesIn G.K C = true
  sa : findIn G.K (.ref C) "__setattr__" = some (some (.builtin "object.__setattr__"))
  init : findIn G.K (.ref C) "__init__" = some (some (.ref fi))
  fni : FunK G st fi
theorem ClsK.get {G : Gl} {nm : Str} {C fi : Addr} {st : Stmt} (k : ClsK G nm C fi st) (x : Str) : plainGet G.K C x = true := k.pg
theorem taker_none {K : Frag} {C : Addr} {x : Str} (h : findIn K (.ref C) x = some none) : takerIn K C x = some none := by
  unfold takerIn
  rw [h]
  rfl

set_option genInjectivity false in
set_option genSizeOf false in
structure KA where
  cConst : Addr
  cLocal : Addr
  cGlobal : Addr
  cLambda : Addr
  cCall : Addr
  cRenaming : Addr
  cSymbolTable : Addr
  cFacts : Addr
  cSpreading : Addr
  cFitting : Addr
  cSmall : Addr
  cNames : Addr
  fNode_parts : Addr
  fNode_with_parts : Addr
  fConst_init : Addr
  fLocal_init : Addr
  fGlobal_init : Addr
  fLambda_init : Addr
  fLambda_parts : Addr
  fLambda_with_parts : Addr
  fLambda_binders : Addr
  fLambda_takes : Addr
  fCall_init : Addr
  fCall_parts : Addr
  fCall_with_parts : Addr
  fRenaming_init : Addr
  fRenaming_local : Addr
  fRenaming_label : Addr
  fRenaming_turned : Addr
  fSymbolTable_init : Addr
  fFacts_init : Addr
  fFacts_is_set : Addr
  fFacts_times_read : Addr
  fFacts_times_called : Addr
  fFacts_meet : Addr
  fSpreading_init : Addr
  fSpreading_turned : Addr
  fFitting_init : Addr
  fFitting_turned : Addr
  fSmall_init : Addr
  fSmall_is_fit : Addr
  fSmall_turned : Addr
  fNames_init : Addr
  fNames_fresh : Addr
  f_binders_of : Addr
  f_are_same_list : Addr
  f_rebuilt : Addr
  f_all_nodes : Addr
  f_let_node : Addr
  f_is_let : Addr
  f_renumbered : Addr
  f_without_locals : Addr
  f_count_in : Addr
  f_note_node : Addr
  f_facts_of : Addr
  f_is_small : Addr
  f_spread_small : Addr
  f_x_law_draw : Addr
  f_x_law_deck_of : Addr
  f_x_law_chain : Addr
  f_x_law_value_of : Addr
  f_x_law_are_once : Addr
  f_x_law_is_bounded : Addr
  f_law : Addr
structure KD (G : Gl) (a : KA) : Prop where
  d_binders_of : DefK G "binders_of" (stmtAt 19) a.f_binders_of
  d_are_same_list : DefK G "are_same_list" (stmtAt 20) a.f_are_same_list
  d_rebuilt : DefK G "rebuilt" (stmtAt 21) a.f_rebuilt
  d_all_nodes : DefK G "all_nodes" (stmtAt 22) a.f_all_nodes
  d_let_node : DefK G "let_node" (stmtAt 23) a.f_let_node
  d_is_let : DefK G "is_let" (stmtAt 24) a.f_is_let
  d_renumbered : DefK G "renumbered" (stmtAt 26) a.f_renumbered
  d_without_locals : DefK G "without_locals" (stmtAt 28) a.f_without_locals
  d_count_in : DefK G "count_in" (stmtAt 48) a.f_count_in
  d_note_node : DefK G "note_node" (stmtAt 49) a.f_note_node
  d_facts_of : DefK G "facts_of" (stmtAt 50) a.f_facts_of
  d_is_small : DefK G "is_small" (stmtAt 56) a.f_is_small
  d_spread_small : DefK G "spread_small" (stmtAt 58) a.f_spread_small
  d_x_law_draw : DefK G "_law_draw" (stmtAt 62) a.f_x_law_draw
  d_x_law_deck_of : DefK G "_law_deck_of" (stmtAt 63) a.f_x_law_deck_of
  d_x_law_chain : DefK G "_law_chain" (stmtAt 65) a.f_x_law_chain
  d_x_law_value_of : DefK G "_law_value_of" (stmtAt 66) a.f_x_law_value_of
  d_x_law_are_once : DefK G "_law_are_once" (stmtAt 67) a.f_x_law_are_once
  d_x_law_is_bounded : DefK G "_law_is_bounded" (stmtAt 68) a.f_x_law_is_bounded
  d_law : DefK G "law" (stmtAt 69) a.f_law
structure KC (G : Gl) (a : KA) : Prop where
  g_CONST : ∃ t, nsIn G.K mainGlobals "CONST" = some (some (.int (0) t))
  g_LOCAL : ∃ t, nsIn G.K mainGlobals "LOCAL" = some (some (.int (1) t))
  g_GLOBAL : ∃ t, nsIn G.K mainGlobals "GLOBAL" = some (some (.int (2) t))
  g_SET_LOCAL : ∃ t, nsIn G.K mainGlobals "SET_LOCAL" = some (some (.int (3) t))
  g_SET_GLOBAL : ∃ t, nsIn G.K mainGlobals "SET_GLOBAL" = some (some (.int (4) t))
  g_DEFINE : ∃ t, nsIn G.K mainGlobals "DEFINE" = some (some (.int (5) t))
  g_LAMBDA : ∃ t, nsIn G.K mainGlobals "LAMBDA" = some (some (.int (7) t))
  g_CALL : ∃ t, nsIn G.K mainGlobals "CALL" = some (some (.int (8) t))
  g_FIX : ∃ t, nsIn G.K mainGlobals "FIX" = some (some (.int (11) t))
  g_TOP : ∃ t, nsIn G.K mainGlobals "TOP" = some (some (.int (-1) t))
  g_SMALL_SIZE : ∃ t, nsIn G.K mainGlobals "SMALL_SIZE" = some (some (.int (9) t))
  g_SMALL_TIMES : ∃ t, nsIn G.K mainGlobals "SMALL_TIMES" = some (some (.int (4) t))
  nb_len : nsIn G.K mainGlobals "len" = some none
  nb_range : nsIn G.K mainGlobals "range" = some none
  nb_zip : nsIn G.K mainGlobals "zip" = some none
  nb_isinstance : nsIn G.K mainGlobals "isinstance" = some none
  nb_abs : nsIn G.K mainGlobals "abs" = some none
  nb_dict : nsIn G.K mainGlobals "dict" = some none
  nb_list : nsIn G.K mainGlobals "list" = some none
  nb_str : nsIn G.K mainGlobals "str" = some none
structure KN (G : Gl) (a : KA) : Prop where
  k_Const : ClsK G "Const" a.cConst a.fConst_init (methAt 12 1)
  o_Const_value : findIn G.K (.ref a.cConst) "value" = some none
  kind_Const : ∃ t, findIn G.K (.ref a.cConst) "kind" = some (some (.int 0 t))
  k_Local : ClsK G "Local" a.cLocal a.fLocal_init (methAt 13 1)
  o_Local_number : findIn G.K (.ref a.cLocal) "number" = some none
  kind_Local : ∃ t, findIn G.K (.ref a.cLocal) "kind" = some (some (.int 1 t))
  k_Global : ClsK G "Global" a.cGlobal a.fGlobal_init (methAt 14 1)
  o_Global_symbol : findIn G.K (.ref a.cGlobal) "symbol" = some none
  kind_Global : ∃ t, findIn G.K (.ref a.cGlobal) "kind" = some (some (.int 2 t))
  k_Lambda : ClsK G "Lambda" a.cLambda a.fLambda_init (methAt 16 1)
  o_Lambda_label : findIn G.K (.ref a.cLambda) "label" = some none
  o_Lambda_params : findIn G.K (.ref a.cLambda) "params" = some none
  o_Lambda_rest : findIn G.K (.ref a.cLambda) "rest" = some none
  o_Lambda_body : findIn G.K (.ref a.cLambda) "body" = some none
  kind_Lambda : ∃ t, findIn G.K (.ref a.cLambda) "kind" = some (some (.int 7 t))
  k_Call : ClsK G "Call" a.cCall a.fCall_init (methAt 17 1)
  o_Call_operator : findIn G.K (.ref a.cCall) "operator" = some none
  o_Call_operands : findIn G.K (.ref a.cCall) "operands" = some none
  kind_Call : ∃ t, findIn G.K (.ref a.cCall) "kind" = some (some (.int 8 t))
structure KO (G : Gl) (a : KA) : Prop where
  k_Renaming : ClsK G "Renaming" a.cRenaming a.fRenaming_init (methAt 25 0)
  o_Renaming_locals : findIn G.K (.ref a.cRenaming) "locals" = some none
  o_Renaming_labels : findIn G.K (.ref a.cRenaming) "labels" = some none
  k_SymbolTable : ClsK G "SymbolTable" a.cSymbolTable a.fSymbolTable_init (methAt 32 0)
  o_SymbolTable_rows : findIn G.K (.ref a.cSymbolTable) "rows" = some none
  o_SymbolTable_by_text : findIn G.K (.ref a.cSymbolTable) "by_text" = some none
  k_Facts : ClsK G "Facts" a.cFacts a.fFacts_init (methAt 47 0)
  o_Facts_read : findIn G.K (.ref a.cFacts) "read" = some none
  o_Facts_set : findIn G.K (.ref a.cFacts) "set" = some none
  o_Facts_called : findIn G.K (.ref a.cFacts) "called" = some none
  o_Facts_bound : findIn G.K (.ref a.cFacts) "bound" = some none
  o_Facts_caught : findIn G.K (.ref a.cFacts) "caught" = some none
  o_Facts_parent : findIn G.K (.ref a.cFacts) "parent" = some none
  o_Facts_lets : findIn G.K (.ref a.cFacts) "lets" = some none
  o_Facts_inner : findIn G.K (.ref a.cFacts) "inner" = some none
  o_Facts_read_globals : findIn G.K (.ref a.cFacts) "read_globals" = some none
  o_Facts_set_globals : findIn G.K (.ref a.cFacts) "set_globals" = some none
  k_Spreading : ClsK G "Spreading" a.cSpreading a.fSpreading_init (methAt 54 0)
  o_Spreading_number : findIn G.K (.ref a.cSpreading) "number" = some none
  o_Spreading_own : findIn G.K (.ref a.cSpreading) "own" = some none
  o_Spreading_world : findIn G.K (.ref a.cSpreading) "world" = some none
  k_Fitting : ClsK G "Fitting" a.cFitting a.fFitting_init (methAt 55 0)
  o_Fitting_number : findIn G.K (.ref a.cFitting) "number" = some none
  o_Fitting_own : findIn G.K (.ref a.cFitting) "own" = some none
  o_Fitting_many : findIn G.K (.ref a.cFitting) "many" = some none
  o_Fitting_is_so : findIn G.K (.ref a.cFitting) "is_so" = some none
  k_Small : ClsK G "Small" a.cSmall a.fSmall_init (methAt 57 0)
  o_Small_facts : findIn G.K (.ref a.cSmall) "facts" = some none
  o_Small_world : findIn G.K (.ref a.cSmall) "world" = some none
  k_Names : ClsK G "Names" a.cNames a.fNames_init (methAt 60 0)
  o_Names_table : findIn G.K (.ref a.cNames) "table" = some none
  o_Names_last : findIn G.K (.ref a.cNames) "last" = some none
  o_Names_titles : findIn G.K (.ref a.cNames) "titles" = some none
  o_Names_ops : findIn G.K (.ref a.cNames) "ops" = some none
  o_Names_root : findIn G.K (.ref a.cNames) "root" = some none
structure KM (G : Gl) (a : KA) : Prop where
  m_Node_parts : FunK G (methAt 11 1) a.fNode_parts
  m_Node_with_parts : FunK G (methAt 11 2) a.fNode_with_parts
  m_Lambda_parts : FunK G (methAt 16 2) a.fLambda_parts
  a_Lambda_parts : findIn G.K (.ref a.cLambda) "parts" = some (some (.ref a.fLambda_parts))
  m_Lambda_with_parts : FunK G (methAt 16 3) a.fLambda_with_parts
  a_Lambda_with_parts : findIn G.K (.ref a.cLambda) "with_parts" = some (some (.ref a.fLambda_with_parts))
  m_Lambda_binders : FunK G (methAt 16 4) a.fLambda_binders
  a_Lambda_binders : findIn G.K (.ref a.cLambda) "binders" = some (some (.ref a.fLambda_binders))
  m_Lambda_takes : FunK G (methAt 16 5) a.fLambda_takes
  a_Lambda_takes : findIn G.K (.ref a.cLambda) "takes" = some (some (.ref a.fLambda_takes))
  m_Call_parts : FunK G (methAt 17 2) a.fCall_parts
  a_Call_parts : findIn G.K (.ref a.cCall) "parts" = some (some (.ref a.fCall_parts))
  m_Call_with_parts : FunK G (methAt 17 3) a.fCall_with_parts
  a_Call_with_parts : findIn G.K (.ref a.cCall) "with_parts" = some (some (.ref a.fCall_with_parts))
  m_Renaming_local : FunK G (methAt 25 1) a.fRenaming_local
  a_Renaming_local : findIn G.K (.ref a.cRenaming) "local" = some (some (.ref a.fRenaming_local))
  m_Renaming_label : FunK G (methAt 25 2) a.fRenaming_label
  a_Renaming_label : findIn G.K (.ref a.cRenaming) "label" = some (some (.ref a.fRenaming_label))
  m_Renaming_turned : FunK G (methAt 25 3) a.fRenaming_turned
  a_Renaming_turned : findIn G.K (.ref a.cRenaming) "turned" = some (some (.ref a.fRenaming_turned))
  m_Facts_is_set : FunK G (methAt 47 1) a.fFacts_is_set
  a_Facts_is_set : findIn G.K (.ref a.cFacts) "is_set" = some (some (.ref a.fFacts_is_set))
  m_Facts_times_read : FunK G (methAt 47 3) a.fFacts_times_read
  a_Facts_times_read : findIn G.K (.ref a.cFacts) "times_read" = some (some (.ref a.fFacts_times_read))
  m_Facts_times_called : FunK G (methAt 47 4) a.fFacts_times_called
  a_Facts_times_called : findIn G.K (.ref a.cFacts) "times_called" = some (some (.ref a.fFacts_times_called))
  m_Facts_meet : FunK G (methAt 47 6) a.fFacts_meet
  a_Facts_meet : findIn G.K (.ref a.cFacts) "meet" = some (some (.ref a.fFacts_meet))
  m_Spreading_turned : FunK G (methAt 54 1) a.fSpreading_turned
  a_Spreading_turned : findIn G.K (.ref a.cSpreading) "turned" = some (some (.ref a.fSpreading_turned))
  m_Fitting_turned : FunK G (methAt 55 1) a.fFitting_turned
  a_Fitting_turned : findIn G.K (.ref a.cFitting) "turned" = some (some (.ref a.fFitting_turned))
  m_Small_is_fit : FunK G (methAt 57 1) a.fSmall_is_fit
  a_Small_is_fit : findIn G.K (.ref a.cSmall) "is_fit" = some (some (.ref a.fSmall_is_fit))
  m_Small_turned : FunK G (methAt 57 2) a.fSmall_turned
  a_Small_turned : findIn G.K (.ref a.cSmall) "turned" = some (some (.ref a.fSmall_turned))
  m_Names_fresh : FunK G (methAt 60 1) a.fNames_fresh
  a_Names_fresh : findIn G.K (.ref a.cNames) "fresh" = some (some (.ref a.fNames_fresh))
  a_Const_parts : findIn G.K (.ref a.cConst) "parts" = some (some (.ref a.fNode_parts))
  a_Const_with_parts : findIn G.K (.ref a.cConst) "with_parts" = some (some (.ref a.fNode_with_parts))
  a_Global_parts : findIn G.K (.ref a.cGlobal) "parts" = some (some (.ref a.fNode_parts))
  a_Global_with_parts : findIn G.K (.ref a.cGlobal) "with_parts" = some (some (.ref a.fNode_with_parts))
  a_Local_parts : findIn G.K (.ref a.cLocal) "parts" = some (some (.ref a.fNode_parts))
  a_Local_with_parts : findIn G.K (.ref a.cLocal) "with_parts" = some (some (.ref a.fNode_with_parts))
structure KF (G : Gl) (a : KA) : Prop where
  d : KD G a
  c : KC G a
  n : KN G a
  o : KO G a
  m : KM G a

section
variable {G : Gl} {A : Around} {env : Env} {σ : St} {L : Addr}
theorem We_GlobalInt (O : G.Ok) {x : Str} {pos : Pos} {i : Int} {Q : Value → St → Prop} (e : ∃ t, nsIn G.K mainGlobals x = some (some (.int i t))) (h : Q (.int i 0) σ)
    (hl : env.kindOf x = some .globalImplicit := by with_unfolding_all rfl) (hk : env.scope.kind = .function := by with_unfolding_all rfl) (hg : env.globals = mainGlobals := by with_unfolding_all rfl) (hd : (x == ("__debug__" : Str)) = false := by with_unfolding_all decide) : We G A env (.Name x pos) Q σ := by
  (refine x1_1 e ?_; (try clear e); intro t e)
  exact We_Global O e h hl hk hg hd
theorem W_attr_kind (O : G.Ok) {x C d : Addr} {fs : List (Str × Value)} {name : Str} {i : Int} {ex : Bool} {Q : Value → St → Prop} (hx : σ.H x = some (.inst C d)) {z : Bool} (hd : σ.H d = some (.attrs z fs)) (hl : geta name fs = none)
    (ha : ∃ t, findIn G.K (.ref C) name = some (some (.int i t))) (hg : plainGet G.K C name = true) (hh : hasDictIn G.K C = true) (hc : copiedNames.contains name = false) (q : Q (.int i 0) σ) : Wv G A L er (fun u => getAttr u name ex) (.ref x) Q σ := by
  (refine x1_1 ha ?_; (try clear ha); intro t ha)
  exact W_attr_cls O hx hd hl ha hg hh (by with_unfolding_all rfl) rfl hc q

theorem bb_len : bootBuiltins "len" = some (.builtin "len") := by with_unfolding_all rfl
theorem bb_zip : bootBuiltins "zip" = some (.type "zip") := by with_unfolding_all rfl
theorem bb_isinstance : bootBuiltins "isinstance" = some (.builtin "isinstance") := by with_unfolding_all rfl
theorem bb_abs : bootBuiltins "abs" = some (.builtin "abs") := by with_unfolding_all rfl
theorem bb_dict : bootBuiltins "dict" = some (.type "dict") := by with_unfolding_all rfl
theorem bb_list : bootBuiltins "list" = some (.type "list") := by with_unfolding_all rfl
theorem bb_str : bootBuiltins "str" = some (.type "str") := by with_unfolding_all rfl
theorem bb_range : bootBuiltins "range" = some (.type "range") := by with_unfolding_all rfl
end

end -- MK2

section -- MW8

section
variable {G : Gl} {A : Around} {env : Env} {σ : St} {L : Addr}

/-- ghost steps -/
noncomputable def Frz (G : Gl) (H H' : Hp) : Prop := (∀ s, HAbs G H s → HAbs G H' s) ∧ ∀ a, H a = none → H' a = none
noncomputable def MO.freeze : MO → MO
  | .list _ xs => .list true xs
  | .attrs _ fs => .attrs true fs
  | .tab _ es => .tab true es
  | o => o
theorem Frz.trans {H H' H'' : Hp} (h : Frz G H H') (h' : Frz G H' H'') : Frz G H H'' := ⟨fun s x => h'.1 s (h.1 s x), fun a e => h'.2 a (h.2 a e)⟩
theorem Frz.one {H : Hp} {a : Addr} {o : MO} (h : H a = some o) : Frz G H (upd H a o.freeze) := by
  refine ⟨fun s x => ⟨x.sz, x.keep, fun b o' e => ?_⟩, fun b e => (upd_ne (fun q => by rw [q, h] at e; cases e)).trans e⟩
  by_cases hb : b = a
  · subst hb
    cases upd_eq.symm.trans e
    refine x0_2 (x.ob b o h) ?_; intro hq1 z
    refine x1_2 hq1 ?_; (try clear hq1); intro c hc hi
    refine ⟨⟨c, hc, ?_⟩, z⟩
    cases o <;> exact hi
  · exact x.ob b o' ((upd_ne hb).symm.trans e)

theorem Wt.frz {α β : Type} {ρ : α → β} {t : Sem α} {Q : β → St → Prop} {H' : Hp} (f : Frz G σ.H H') (h : Wt G A L ρ t Q ⟨σ.m, H'⟩) : Wt G A L ρ t Q σ := fun s X => by
  have X' : FAbs G L ⟨σ.m, H'⟩ s := ⟨f.1 s X.h, f.2 L X.off, X.fr⟩
  refine wpAny_mono (h s X') ?_ fun _ _ x => x
  intro a s' hq2
  refine x1_3 hq2 ?_; (try clear hq2); intro σ' x' o' q
  exact ⟨σ', x', ⟨o'.sh, fun b o hb hn e => o'.keep b o hb (f.2 b hn) e⟩, q⟩

/-- o.name = e -/
theorem Wst_AssignAttr {o e : PySem.Expr} {name : Str} {apos pos : Pos} {Q : Flow → St → Prop} (h : We G A env e (fun v σ₁ => We G A env o (fun u σ₂ => ∀ v' u', er v' = v → er u' = u → Wt G A env.locals id (setAttr u' name v') (fun _ σ₃ => Q .next σ₃) σ₂) σ₁) σ)
    (hs : swapsWith e (some (.Attribute o name apos)) pos.line env = pure false := by with_unfolding_all rfl) : Wst G A env (.Assign [.Attribute o name apos] e pos) Q σ := fun s X => by
  refine plainObj_wpAny_Assign_Attribute (wpAny_mono (h s X) ?_ fun _ _ x => x) hs
  intro v s₁ hq3
  refine x1_3 hq3 ?_; (try clear hq3); intro σ₁ x₁ o₁ q₁
  refine wpAny_mono (q₁ s₁ x₁) ?_ fun _ _ x => x
  intro u s₂ hq4
  refine x1_3 hq4 ?_; (try clear hq4); intro σ₂ x₂ o₂ q₂
  refine wpAny_mono (q₂ v u rfl rfl s₂ x₂) ?_ fun _ _ x => x
  intro _ s₃ hq5
  refine x1_3 hq5 ?_; (try clear hq5); intro σ₃ x₃ o₃ q₃
  exact ⟨σ₃, x₃, (o₁.trans o₂).trans o₃, q₃⟩

/-- o[i] = e -/
theorem Wst_AssignSub {o i e : PySem.Expr} {ipos pos : Pos} {Q : Flow → St → Prop} (h : We G A env e (fun v σ₁ => We G A env o (fun u σ₂ => We G A env i (fun k σ₃ => ∀ v' u' k', er v' = v → er u' = u → er k' = k → Wt G A env.locals id (setItem u' k' v') (fun _ σ₄ => Q .next σ₄) σ₃) σ₂) σ₁) σ)
    (hs : swapsWith e (some (.Subscript o i ipos)) pos.line env = pure false := by with_unfolding_all rfl) : Wst G A env (.Assign [.Subscript o i ipos] e pos) Q σ := fun s X => by
  refine wpAny_Assign_Subscript (wpAny_mono (h s X) ?_ fun _ _ x => x) hs
  intro v s₁ hq6
  refine x1_3 hq6 ?_; (try clear hq6); intro σ₁ x₁ o₁ q₁
  refine wpAny_mono (q₁ s₁ x₁) ?_ fun _ _ x => x
  intro u s₂ hq7
  refine x1_3 hq7 ?_; (try clear hq7); intro σ₂ x₂ o₂ q₂
  refine wpAny_mono (q₂ s₂ x₂) ?_ fun _ _ x => x
  intro k s₃ hq8
  refine x1_3 hq8 ?_; (try clear hq8); intro σ₃ x₃ o₃ q₃
  refine wpAny_mono (q₃ v u k rfl rfl rfl s₃ x₃) ?_ fun _ _ x => x
  intro _ s₄ hq9
  refine x1_3 hq9 ?_; (try clear hq9); intro σ₄ x₄ o₄ q₄
  exact ⟨σ₄, x₄, ((o₁.trans o₂).trans o₃).trans o₄, q₄⟩

/-- one tracked object turned, the rest the same -/
theorem FAbs.turnRaw {s : Shared} (X : FAbs G L σ s) {h' : Heap} {tk : Nat} {d : Addr} {mo₀ mo : MO} {o' : Obj} (hd : σ.H d = some mo₀) (hs : Heap.SameBut d s.heap h') (ho : h'.get? d = some o') (hi : mo.Is G o') :
    FAbs G L ⟨σ.m, upd σ.H d mo⟩ { s with heap := h', toks := tk } ∧ Out (some L) σ.H (upd σ.H d mo) s { s with heap := h', toks := tk } := by
  (refine x1_2 X.fr ?_; intro m F hm)
  refine x0_2 (X.h.ob d mo₀ hd) ?_; intro _ hb
  have hdL : d ≠ L := fun q => by rw [q, X.off] at hd; cases hd
  have kB : ∀ b o, G.B.get? b = some o → h'.get? b = some o := fun b o e => (hs.2 b (fun q => by rw [q, hb] at e; cases e)).trans (X.h.keep b o e)
  refine ⟨⟨⟨by show _ ≤ h'.objs.size; rw [hs.1]; exact X.h.sz, kB, fun a o e => ?_⟩, (upd_ne (Ne.symm hdL)).trans X.off, m, ⟨F.ns.sameBut hs (Ne.symm hdL), kB, F.above⟩, hm⟩, ⟨⟨h', tk, rfl⟩, fun b o hbL hn e => ?_⟩⟩
  · by_cases h1 : a = d
    · subst h1; cases upd_eq.symm.trans e; exact ⟨⟨o', ho, hi⟩, hb⟩
    · refine x0_2 (X.h.ob a o ((upd_ne h1).symm.trans e)) ?_; intro hq10 hb'
      refine x1_2 hq10 ?_; (try clear hq10); intro c hc hi'
      exact ⟨⟨c, (hs.2 a h1).trans hc, hi'⟩, hb'⟩
  · have h1 : b ≠ d := fun q => by rw [q, hd] at hn; cases hn
    exact ⟨(upd_ne h1).trans hn, (hs.2 b h1).trans e⟩

/-- dicts with whole numbers for keys -/
theorem W_Dict_empty (O : G.Ok) {pos : Pos} {Q : Value → St → Prop} (q : ∀ d, σ.H d = none → d ≠ env.locals → d ≠ sysModules → Q (.ref d) ⟨σ.m, upd σ.H d (.tab false [])⟩) : We G A env (.Dict [] [] pos) Q σ := fun s X => by
  refine wpAny_Dict_empty ?_
  refine x1_2 (Heap.dictOf_iff.mp (Heap.DictOf.new (knd := intKind G.prog G.w) s.heap)) ?_; intro o ho hd
  rw [Heap.get?_push_size _ rfl] at ho
  cases ho
  refine x0_4 (X.push (tk := s.toks) { cls := .type "dict", data := .dict #[] } (.tab false []) ⟨[], hd, rfl⟩ rfl) ?_; intro a b c d
  refine ⟨_, a, b, q _ c d ?_⟩
  have h1 := modules_low O.top.nolimit
  have h2 := X.h.sz
  exact Nat.ne_of_gt (Nat.lt_of_lt_of_le h1 h2)

theorem tab_of {s : Shared} (X : FAbs G L σ s) {d : Addr} {z : Bool} {es : List (Int × Value)} (h : σ.H d = some (.tab z es)) : ∃ kvs, s.heap.DictOf (intKind G.prog G.w) d kvs ∧ kvs.map (fun p => (p.1, er p.2)) = es := by
  (refine x1_3 (X.at h) ?_; intro o ho hq11 _)
  refine x1_2 hq11 ?_; (try clear hq11); intro kvs hd e
  exact ⟨kvs, Heap.dictOf_iff.mpr ⟨o, ho, hd⟩, e⟩

noncomputable def tget (k : Int) : List (Int × Value) → Option Value
  | [] => none
  | p :: r => if p.1 = k then some p.2 else tget k r
noncomputable def tput (k : Int) (v : Value) : List (Int × Value) → List (Int × Value)
  | [] => [(k, v)]
  | p :: r => if p.1 = k then (k, v) :: r else p :: tput k v r

theorem valueAt_er (k : Int) : ∀ kvs : List (Int × Value), (valueAt kvs k).map er = tget k (kvs.map fun p => (p.1, er p.2))
  | [] => rfl
  | p :: r => by
    unfold valueAt
    rw [List.find?_cons, List.map_cons]
    unfold tget
    by_cases e : p.1 = k
    · simp [e]
    · have := valueAt_er k r
      unfold valueAt at this
      simp [e, this]
theorem map_put_out {k : Int} {v : Value} : ∀ {kvs : List (Int × Value)}, (∀ p ∈ kvs, p.1 ≠ k) → kvs.map (fun kv => if kv.1 = k then (kv.1, v) else kv) = kvs
  | [], _ => rfl
  | p :: r, h => by rw [List.map_cons, if_neg (h p (.head _)), map_put_out fun q hq => h q (.tail _ hq)]
theorem stored_er (k : Int) (v : Value) : ∀ kvs : List (Int × Value), (kvs.map (·.1)).Nodup → (stored kvs k v).map (fun p => (p.1, er p.2)) = tput k (er v) (kvs.map fun p => (p.1, er p.2))
  | [], _ => rfl
  | p :: r, hn => by
    have hn2 := (List.nodup_cons.mp hn)
    rw [List.map_cons]
    unfold tput
    unfold stored
    by_cases e : p.1 = k
    · simp only [List.any_cons, e, decide_true, Bool.true_or, if_true, List.map_cons]
      rw [map_put_out (fun q hq => fun z => hn2.1 (List.mem_map.mpr ⟨q, hq, z.trans e.symm⟩))]
    · have ih := stored_er k v r hn2.2
      unfold stored at ih
      simp only [List.any_cons, e, decide_false, Bool.false_or, if_false]
      split
      · rename_i h1
        rw [if_pos h1] at ih
        simp only [List.map_cons, e, if_false]
        rw [ih]
      · rename_i h1
        rw [if_neg h1] at ih
        rw [List.cons_append, List.map_cons, ih]

theorem W_in {d : Addr} {z : Bool} {es : List (Int × Value)} {k : Int} {Q : Value → St → Prop} (h : σ.H d = some (.tab z es)) (hd : d ≠ sysModules) (q : Q (.bool (tget k es).isSome) σ) : Wv2 G A L er (compareOp .In) (.int k 0) (.ref d) Q σ := fun u u' hu hu' s X => by
  (refine x1_1 (er_int hu) ?_; intro t rfl)
  obtain rfl := er_ref hu'
  refine x1_2 (tab_of X h) ?_; intro kvs hk e
  refine wpAny_in_of (intKind_is G.prog G.w k t) (beq_eq_false_iff_ne.mpr hd) hk.mapOf ⟨σ, X.tok, Out.tok, ?_⟩
  have := valueAt_er k kvs
  rw [e] at this
  rw [← this] at q
  simpa [er] using q
theorem W_notIn {d : Addr} {z : Bool} {es : List (Int × Value)} {k : Int} {Q : Value → St → Prop} (h : σ.H d = some (.tab z es)) (hd : d ≠ sysModules) (q : Q (.bool (!(tget k es).isSome)) σ) : Wv2 G A L er (compareOp .NotIn) (.int k 0) (.ref d) Q σ := fun u u' hu hu' s X => by
  (refine x1_1 (er_int hu) ?_; intro t rfl)
  obtain rfl := er_ref hu'
  refine x1_2 (tab_of X h) ?_; intro kvs hk e
  refine wpAny_notIn_of (intKind_is G.prog G.w k t) (beq_eq_false_iff_ne.mpr hd) hk.mapOf ⟨σ, X.tok, Out.tok, ?_⟩
  have := valueAt_er k kvs
  rw [e] at this
  rw [← this] at q
  simpa [er] using q
theorem W_item_tab {value slice : PySem.Expr} {d : Addr} {z : Bool} {es : List (Int × Value)} {k : Int} {v : Value} {Q : Value → St → Prop} (h : σ.H d = some (.tab z es)) (hv : tget k es = some v) (q : Q v σ)
    (hs : ∀ t, subscripted slice false (.ref d) (.int k t) = operate [.ref d, .int k t] (getItem (.ref d) (.int k t)) := by intro _; with_unfolding_all rfl) :
    Wv2 G A L er (fun o i => subscriptTail value slice o i) (.ref d) (.int k 0) Q σ := fun u u' hu hu' s X => by
  obtain rfl := er_ref hu
  refine x1_1 (er_int hu') ?_; intro t rfl
  refine x1_2 (tab_of X h) ?_; intro kvs hk e
  have := valueAt_er k kvs
  rw [e, hv] at this
  refine x1_2 (Option.map_eq_some_iff.mp this) ?_; intro w hw hwe
  exact tail_any hk.typeIs slot_dict_getitem.lookup (wpAny_getItem_of (intKind_is G.prog G.w k t) hk.mapOf hw ⟨σ, X.tok, Out.tok, by rw [hwe]; exact q⟩) (hs t)
theorem W_setItem_tab {d : Addr} {es : List (Int × Value)} {k : Int} {v : Value} {Q : Unit → St → Prop} (h : σ.H d = some (.tab false es)) (hz : es.length ≤ 1000000) (q : Q () ⟨σ.m, upd σ.H d (.tab false (tput k (er v) es))⟩) :
    ∀ k', er k' = .int k 0 → Wt G A L id (setItem (.ref d) k' v) Q σ := fun k' hk' s X => by
  (refine x1_1 (er_int hk') ?_; intro t rfl)
  refine x1_2 (tab_of X h) ?_; intro kvs hk e
  have hn : (kvs.map (·.1)).Nodup := by
    (refine x3_6 hk ?_; (try clear hk); intro _ _ _ _ _ _ _ _ z)
    exact z
  refine wpAny_setItem_pairs (intKind_is G.prog G.w k t) hk (fun h' hk' hs => ?_) (by have := congrArg List.length e; rw [List.length_map] at this; rw [sizeLine_eq]; lia)
  refine x1_2 (Heap.dictOf_iff.mp hk') ?_; intro o' ho' hd'
  refine x0_2 (X.turnRaw (tk := s.toks + 1) (mo := .tab false (tput k (er v) es)) h hs ho' ⟨_, hd', by rw [stored_er k v kvs hn, e]⟩) ?_; intro a b
  exact ⟨_, a, b, q⟩
theorem W_setI {d : Addr} {es : List (Int × Value)} {k : Int} {v : Value} {Q : Unit → St → Prop} (h : σ.H d = some (.tab false es)) (hz : es.length ≤ 1000000) (q : Q () ⟨σ.m, upd σ.H d (.tab false (tput k v es))⟩) :
    ∀ v' u' k', er v' = v → er u' = .ref d → er k' = .int k 0 → Wt G A L id (setItem u' k' v') Q σ := fun v' u' k' hv' hu' hk' => by
  cases er_ref hu'
  exact W_setItem_tab h hz (hv' ▸ q) k' hk'
theorem W_get2 {d : Addr} {z : Bool} {es : List (Int × Value)} {k : Int} {w : Value} {Q : Value → St → Prop} (h : σ.H d = some (.tab z es)) (hd : d ≠ sysModules) (q : Q ((tget k es).getD w) σ) : Wcall G A L (.builtin "dict.get") [.ref d, .int k 0, w] Q σ := fun us hu s X => by
  (refine x3_4 (three_args hu) ?_; intro u u' u'' rfl h1 h2 h3)
  obtain rfl := er_ref h1
  refine x1_1 (er_int h2) ?_; intro t rfl
  refine x1_2 (tab_of X h) ?_; intro kvs hk e
  refine call_meetsIn PySem.F.slot_dict_get hk.typeIs PySem.F.entry_dict_get (PySem.F.args_dict_get_3 _ _ _) (meets_dict_get_default (intKind G.prog G.w) d (intKind_is G.prog G.w k t) (beq_eq_false_iff_ne.mpr hd) u'') ⟨_, hk.mapOf, σ, X.tok, Out.tok, ?_⟩
  have := valueAt_er k kvs
  rw [e] at this
  rw [← this] at q
  cases z : valueAt kvs k with
  | none => rw [z] at q; rw [← h3] at q; exact q
  | some y => rw [z] at q; exact q
theorem W_getMethod_tab {d : Addr} {z : Bool} {es : List (Int × Value)} {name : Str} {id : String} {pl : Sem Bool} {Q : Value × List Value → St → Prop} (h : σ.H d = some (.tab z es)) (slot : Slot "dict" name id) (hty : typeOf (.builtin id) = pure (.type "method_descriptor"))
    (q : Q (.builtin id, [.ref d]) σ) : Wt G A L (fun p => (er p.1, p.2.map er)) (getMethod (.ref d) name pl) Q σ := fun s X => by
  (refine x1_2 (tab_of X h) ?_; intro kvs hk e)
  exact getMethod_builtin hk.typeIs PySem.F.plainAttrs_dict slot hty hk.mapOf.noDict ⟨σ, X, Out.refl .., q⟩
theorem W_len_tab {d : Addr} {z : Bool} {es : List (Int × Value)} {Q : Value → St → Prop} (h : σ.H d = some (.tab z es)) (hd : d ≠ sysModules) (hz : es.length ≤ 1000000) (q : Q (.int es.length 0) σ) : Wcall G A L (.builtin "len") [.ref d] Q σ := fun us hu s X => by
  (refine x1_2 (one_arg hu) ?_; intro u rfl h1)
  obtain rfl := er_ref h1
  refine x1_2 (tab_of X h) ?_; intro kvs hk e
  have hl : kvs.length = es.length := by rw [← e, List.length_map]
  refine call_len_dict (beq_eq_false_iff_ne.mpr hd) hk (by rw [hl]; lia) ⟨σ, X.tok, Out.tok, ?_⟩
  rw [hl]; exact q

/-- a list in view, or one of the base -/
noncomputable def HasL (G : Gl) (H : Hp) (l : Addr) (xs : List Value) : Prop := (∃ z, H l = some (.list z xs)) ∨ ∃ vs, G.B.IsList l vs ∧ vs.toList.map er = xs
theorem HasL.get {s : Shared} {l : Addr} {xs : List Value} (h : HasL G σ.H l xs) (X : FAbs G L σ s) : ∃ vs, s.heap.IsList l vs ∧ vs.toList.map er = xs := by
  rcases h with ⟨z, h⟩ | ⟨vs, h, e⟩
  · refine x2_3 (isList_of X h) ?_; intro vs n ho e _
    exact ⟨vs, ⟨_, ho, rfl, n, rfl⟩, e⟩
  · exact ⟨vs, h.at fun o e => X.h.keep _ o e, e⟩

theorem We_Slice {value : PySem.Expr} {lower upper step : Option PySem.Expr} {p pos : Pos} {Q : Value → St → Prop}
    (h : We G A env value (fun v σ₁ => Wpart G A env lower (fun lo σ₂ => Wpart G A env upper (fun hi σ₃ => Wpart G A env step (fun st σ₄ => ∃ l xs ys, v = .ref l ∧ HasL G σ₄.H l xs ∧ xs.length ≤ 1000000 ∧ st ≠ some 0 ∧
      (∀ vs : Array Value, vs.toList.map er = xs → (slicePick vs lo hi st).toList.map er = ys) ∧ ∀ a, σ₄.H a = none → a ≠ env.locals → Q (.ref a) ⟨σ₄.m, upd σ₄.H a (.list false ys)⟩) σ₃) σ₂) σ₁) σ) :
    We G A env (.Subscript value (.Slice lower upper step p) pos) Q σ := fun s X => by
  refine Subscript_ (wpAny_mono (h s X) ?_ fun _ _ x => x)
  intro v s₁ hq12
  refine x1_3 hq12 ?_; (try clear hq12); intro σ₁ x₁ o₁ q₁
  refine wpAny_Slice (wpAny_mono (q₁ s₁ x₁) ?_ fun _ _ x => x)
  intro lo s₂ hq13
  obtain ⟨klo, plo, σ₂, x₂, o₂, q₂⟩ := hq13
  refine wpAny_mono (q₂ s₂ x₂) ?_ fun _ _ x => x
  intro hi s₃ hq14
  obtain ⟨khi, phi, σ₃, x₃, o₃, q₃⟩ := hq14
  refine wpAny_mono (q₃ s₃ x₃) ?_ fun _ _ x => x
  intro st s₄ hq15
  obtain ⟨kst, pst, σ₄, x₄, o₄, l, xs, ys, hv, hl, hz, h0, hp, q⟩ := hq15
  obtain rfl := er_ref hv
  refine x1_2 (hl.get x₄) ?_; intro vs ho e
  refine x1_2 x₄.fr ?_; intro m F hm
  obtain ⟨ops, hs⟩ : ∃ ops, subscripted (.Slice lower upper step p) false (.ref l) (.ref s₄.heap.objs.size) = operate ops (getItem (.ref l) (.ref s₄.heap.objs.size)) := by cases step <;> exact ⟨_, rfl⟩
  refine PySem.W.kba_turn (value' := PySem.Expr.Name (PySem.Str.ofString "_") ⟨0, 0, 0, 0⟩) (fun _ => rfl) ?_
  refine slice_list3 F x₄.full ho plo phi pst h0 (fun h' F' N' => ?_) hs (fun _ => rfl) (by rw [map_toList_size e, sizeLine_eq]; lia)
  refine x0_4 (x₄.new (tk := s₄.toks) (mo := .list false ys) hm F' N' (fun p hp => .tail _ hp) (.head _) (get_ge (Nat.le_succ _)) ⟨_, 0, rfl, hp vs e⟩) ?_; intro a b c d
  exact ⟨_, a, ((o₁.trans o₂).trans (o₃.trans o₄)).trans b, q _ c d⟩

theorem W_slice_from {value lo : PySem.Expr} {p pos : Pos} {Q : Value → St → Prop}
    (h : We G A env value (fun v σ₁ => We G A env lo (fun i σ₂ => ∃ l z xs, ∃ k : Nat, v = .ref l ∧ i = .int k 0 ∧ σ₂.H l = some (.list z xs) ∧ xs.length ≤ 1000000 ∧ ∀ a, σ₂.H a = none → a ≠ env.locals → Q (.ref a) ⟨σ₂.m, upd σ₂.H a (.list false (xs.drop k))⟩) σ₁) σ) :
    We G A env (.Subscript value (.Slice (some lo) none none p) pos) Q σ := by
  refine We_Slice (h.mono fun v σ₁ q => Wpart_some (q.mono fun i σ₂ q => ?_))
  refine x4_5 q ?_; (try clear q); intro l z xs k hv hi hl hz q
  refine ⟨k, hi, Wpart_none (Wpart_none ⟨l, xs, _, hv, .inl ⟨z, hl⟩, hz, (by intro q; cases q), fun vs e => ?_, q⟩)⟩
  rw [slicePick_from', ← e, List.map_drop]
theorem W_slice_upto {value hi : PySem.Expr} {p pos : Pos} {Q : Value → St → Prop}
    (h : We G A env value (fun v σ₁ => We G A env hi (fun i σ₂ => ∃ l xs, ∃ k : Nat, v = .ref l ∧ i = .int k 0 ∧ HasL G σ₂.H l xs ∧ xs.length ≤ 1000000 ∧ ∀ a, σ₂.H a = none → a ≠ env.locals → Q (.ref a) ⟨σ₂.m, upd σ₂.H a (.list false (xs.take k))⟩) σ₁) σ) :
    We G A env (.Subscript value (.Slice none (some hi) none p) pos) Q σ := by
  refine We_Slice (h.mono fun v σ₁ q => Wpart_none (Wpart_some (q.mono fun i σ₂ q => ?_)))
  refine x3_5 q ?_; (try clear q); intro l xs k hv hi hl hz q
  refine ⟨k, hi, Wpart_none ⟨l, xs, _, hv, hl, hz, (by intro q; cases q), fun vs e => ?_, q⟩⟩
  rw [slicePick_upto', ← e, List.map_take]
theorem W_slice_rev {value st : PySem.Expr} {p pos : Pos} {Q : Value → St → Prop}
    (h : We G A env value (fun v σ₁ => We G A env st (fun i σ₂ => ∃ l z xs, v = .ref l ∧ i = .int (-1) 0 ∧ σ₂.H l = some (.list z xs) ∧ xs.length ≤ 1000000 ∧ ∀ a, σ₂.H a = none → a ≠ env.locals → Q (.ref a) ⟨σ₂.m, upd σ₂.H a (.list false xs.reverse)⟩) σ₁) σ) :
    We G A env (.Subscript value (.Slice none none (some st) p) pos) Q σ := by
  refine We_Slice (h.mono fun v σ₁ q => Wpart_none (Wpart_none (Wpart_some (q.mono fun i σ₂ q => ?_))))
  refine x3_5 q ?_; (try clear q); intro l z xs hv hi hl hz q
  refine ⟨-1, hi, l, xs, _, hv, .inl ⟨z, hl⟩, hz, (by intro q; cases q), fun vs e => ?_, q⟩
  rw [PySem.W.krv_pick, ← e, List.map_reverse]

theorem W_item_last {value slice : PySem.Expr} {l : Addr} {z : Bool} {xs : List Value} {x : Value} {Q : Value → St → Prop} (h : σ.H l = some (.list z (xs ++ [x]))) (hz : xs.length ≤ 1000000) (q : Q x σ)
    (hs : ∀ t, subscripted slice false (.ref l) (.int (-1) t) = operate [.ref l, .int (-1) t] (getItem (.ref l) (.int (-1) t)) := by intro _; with_unfolding_all rfl) :
    Wv2 G A L er (fun o i => subscriptTail value slice o i) (.ref l) (.int (-1) 0) Q σ := fun u u' hu hu' s X => by
  obtain rfl := er_ref hu
  refine x1_1 (er_int hu') ?_; intro t rfl
  refine x2_3 (isList_of X h) ?_; intro vs n ho e _
  have hlen : vs.size = xs.length + 1 := by rw [map_toList_size e, List.length_append]; rfl
  refine x1_2 (getElem_er (k := xs.length) (x := x) e (by simp)) ?_; intro y h1 rfl
  have hl : s.heap.IsList l vs := ⟨_, ho, rfl, n, rfl⟩
  refine tail_any hl.typeIs slot_list_getitem.lookup (wpAny_getItem_list_neg hl (by decide) (by rw [hlen]; lia) (by decide) (x := y) ?_ ⟨σ, X, Out.refl .., q⟩) (hs t)
  have e2 : (-1 + (vs.size : Int)).toNat = xs.length := by rw [hlen]; lia
  rw [e2]
  simpa using h1

/-- unpacking -/
theorem W_assign2 {ta tb : PySem.Expr} {k : Nat} {pos : Pos} {t : Addr} {x y : Value} {Q : Unit → St → Prop} (hr : A.handled = none) (ht : σ.H t = some (.tuple [x, y]))
    (q : ∀ u u', er u = x → er u' = y → Wt G A env.locals id (assign ta env u) (fun _ σ₁ => Wt G A env.locals id (assign tb env u') Q σ₁) σ)
    (hn : (assignEach [ta, tb] env).map (·.2) = [assign ta env, assign tb env] := by with_unfolding_all rfl) (hst : (assignEach [ta, tb] env).findIdx? (·.1) = none := by with_unfolding_all rfl) : Wt G A env.locals id (assign (.Tuple [ta, tb] k pos) env (.ref t)) Q σ := fun s X => by
  (refine x1_2 (isTup_of X ht) ?_; intro vs hv e)
  have hlen : vs.size = 2 := by have := congrArg List.length e; simpa using this
  refine x2_3 (two_args e) ?_; intro u u' hvs e1 e2
  refine assign_Tuple_tuple hr hv (by rw [hlen]; have := congrArg List.length hn; simpa using this) hst fun h' hx => ?_
  have kp : ∀ b o, s.heap.get? b = some o → h'.get? b = some o := fun b o e => hx b o (Nat.ne_of_lt (Heap.lt_size e)) e
  refine x0_2 (X.raw (tk := s.toks) kp) ?_; intro X1 O1
  rw [hvs, hn]
  show wpAny _ _ (do holding [u'] (assign ta env u); (do holding [] (assign tb env u'); pure ())) _ _ _
  refine wpAny_bind (wpAny_holding (wpAny_mono (q u u' e1 e2 _ X1) ?_ fun _ _ x => x))
  intro _ s₁ hq16
  refine x1_3 hq16 ?_; (try clear hq16); intro σ₁ x₁ o₁ q₁
  refine wpAny_bind (wpAny_holding (wpAny_mono (q₁ _ x₁) ?_ fun _ _ x => x))
  intro _ s₂ hq17
  refine x1_3 hq17 ?_; (try clear hq17); intro σ₂ x₂ o₂ q₂
  exact wpAny_pure ⟨_, x₂, (O1.trans o₁).trans o₂, q₂⟩
theorem W_assign3 {ta tb tc : PySem.Expr} {k : Nat} {pos : Pos} {t : Addr} {x y z : Value} {Q : Unit → St → Prop} (hr : A.handled = none) (ht : σ.H t = some (.tuple [x, y, z]))
    (q : ∀ u u' u'', er u = x → er u' = y → er u'' = z → Wt G A env.locals id (assign ta env u) (fun _ σ₁ => Wt G A env.locals id (assign tb env u') (fun _ σ₂ => Wt G A env.locals id (assign tc env u'') Q σ₂) σ₁) σ)
    (hn : (assignEach [ta, tb, tc] env).map (·.2) = [assign ta env, assign tb env, assign tc env] := by with_unfolding_all rfl) (hst : (assignEach [ta, tb, tc] env).findIdx? (·.1) = none := by with_unfolding_all rfl) : Wt G A env.locals id (assign (.Tuple [ta, tb, tc] k pos) env (.ref t)) Q σ := fun s X => by
  (refine x1_2 (isTup_of X ht) ?_; intro vs hv e)
  have hlen : vs.size = 3 := by have := congrArg List.length e; simpa using this
  refine x3_4 (three_args e) ?_; intro u u' u'' hvs e1 e2 e3
  refine assign_Tuple_tuple hr hv (by rw [hlen]; have := congrArg List.length hn; simpa using this) hst fun h' hx => ?_
  have kp : ∀ b o, s.heap.get? b = some o → h'.get? b = some o := fun b o e => hx b o (Nat.ne_of_lt (Heap.lt_size e)) e
  refine x0_2 (X.raw (tk := s.toks) kp) ?_; intro X1 O1
  rw [hvs, hn]
  show wpAny _ _ (do holding [u', u''] (assign ta env u); (do holding [u''] (assign tb env u'); (do holding [] (assign tc env u''); pure ()))) _ _ _
  refine wpAny_bind (wpAny_holding (wpAny_mono (q u u' u'' e1 e2 e3 _ X1) ?_ fun _ _ x => x))
  intro _ s₁ hq18
  refine x1_3 hq18 ?_; (try clear hq18); intro σ₁ x₁ o₁ q₁
  refine wpAny_bind (wpAny_holding (wpAny_mono (q₁ _ x₁) ?_ fun _ _ x => x))
  intro _ s₂ hq19
  refine x1_3 hq19 ?_; (try clear hq19); intro σ₂ x₂ o₂ q₂
  refine wpAny_bind (wpAny_holding (wpAny_mono (q₂ _ x₂) ?_ fun _ _ x => x))
  intro _ s₃ hq20
  refine x1_3 hq20 ?_; (try clear hq20); intro σ₃ x₃ o₃ q₃
  exact wpAny_pure ⟨_, x₃, ((O1.trans o₁).trans o₂).trans o₃, q₃⟩

theorem Wst_AssignTuple {elts : List PySem.Expr} {k : Nat} {tpos : Pos} {e : PySem.Expr} {pos : Pos} {Q : Flow → St → Prop}
    (h : We G A env e (fun v σ₁ => ∀ v', er v' = v → Wt G A env.locals id (assign (.Tuple elts k tpos) env v') (fun _ σ₂ => Q .next σ₂) σ₁) σ)
    (hs : swapsWithSole [.Tuple elts k tpos] e pos.line env = pure false := by with_unfolding_all rfl)
    (hw : swappedStores [.Tuple elts k tpos] e env = pure none := by with_unfolding_all rfl) : Wst G A env (.Assign [.Tuple elts k tpos] e pos) Q σ := fun s X => by
  refine Assign_Tuple (wpAny_mono (h s X) ?_ fun _ _ x => x) hs hw
  intro v s₁ hq21
  refine x1_3 hq21 ?_; (try clear hq21); intro σ₁ x₁ o₁ q₁
  refine wpAny_mono (q₁ v rfl s₁ x₁) ?_ fun _ _ x => x
  intro _ s₂ hq22
  refine x1_3 hq22 ?_; (try clear hq22); intro σ₂ x₂ o₂ q₂
  exact ⟨σ₂, x₂, o₁.trans o₂, q₂⟩

theorem W_bindName {x : Str} {v : Value} {Q : Unit → St → Prop} (h : Wt G A env.locals id (storeName env x v) Q σ) : Wt G A env.locals id (bindName env x v) Q σ := fun s X => by
  exact wpAny_bindName (h s X)

theorem Wst_AssignSwap {a b : Str} {pa pb : Pos} {k : Nat} {tpos : Pos} {e : PySem.Expr} {pos : Pos} {Q : Flow → St → Prop} (hr : A.handled = none)
    (h : We G A env e (fun v σ₁ => ∃ t x y, v = .ref t ∧ σ₁.H t = some (.tuple [x, y]) ∧ Q .next ⟨setm (setm σ₁.m b y) a x, σ₁.H⟩) σ)
    (ha : env.kindOf a = some .local := by with_unfolding_all rfl) (hb : env.kindOf b = some .local := by with_unfolding_all rfl) (hp : (env.scope.kind == .class || (env.scope.kind == .module && env.locals != env.globals)) = false := by with_unfolding_all rfl)
    (hs : swapsWithSole [.Tuple [.Name a pa, .Name b pb] k tpos] e pos.line env = pure false := by with_unfolding_all rfl)
    (hw : swappedStores [.Tuple [.Name a pa, .Name b pb] k tpos] e env = pure (some [a, b]) := by with_unfolding_all rfl) : Wst G A env (.Assign [.Tuple [.Name a pa, .Name b pb] k tpos] e pos) Q σ := fun s X => by
  refine Assign_Tuple_swapped (wpAny_mono (h s X) ?_ fun _ _ x => x) hs hw
  intro v s₁ hq23
  obtain ⟨σ₁, x₁, o₁, t, x, y, hv, ht, q⟩ := hq23
  obtain rfl := er_ref hv
  refine x1_2 (isTup_of x₁ ht) ?_; intro vs hvt e
  have hlen : vs.size = 2 := by have := congrArg List.length e; simpa using this
  refine x2_3 (two_args e) ?_; intro u u' hvs e1 e2
  have hun : wpAny (model G.prog G.w) A (unpackItems (.ref t) 2 none) (fun items s' => items = vs.toList ∧ ∃ h', (∀ b o, s₁.heap.get? b = some o → h'.get? b = some o) ∧ s' = { s₁ with heap := h' }) (fun _ _ => False) s₁ := by
    have := wpAny_unpackItems_tuple (Q := fun items s' => items = vs.toList ∧ ∃ h', (∀ b o, s₁.heap.get? b = some o → h'.get? b = some o) ∧ s' = { s₁ with heap := h' }) (E := fun _ _ => False) (prog := G.prog) (w := G.w) hr hvt fun h' hx => ⟨rfl, h', fun b o e => hx b o (Nat.ne_of_lt (Heap.lt_size e)) e, rfl⟩
    rwa [hlen] at this
  refine wpAny_mono hun ?_ fun _ _ x => x
  intro items s₂ hq24
  obtain ⟨rfl, h', kp, rfl⟩ := hq24
  refine x0_2 (x₁.raw (tk := s₁.toks) kp) ?_; intro X2 O2
  rw [hvs]
  show wpAny _ _ (do holding [u] (bindName env b u'); (do holding [] (bindName env a u); pure ())) _ _ _
  refine wpAny_bind (wpAny_holding (wpAny_mono (W_bindName (W_storeName (A := A) (σ := σ₁) (Q := fun _ σ' => σ' = ⟨setm σ₁.m b (er u'), σ₁.H⟩) hb hp rfl) _ X2) ?_ fun _ _ x => x))
  intro _ s₃ hq25
  refine x1_3 hq25 ?_; (try clear hq25); intro σ₃ x₃ o₃ rfl
  refine wpAny_bind (wpAny_holding (wpAny_mono (W_bindName (W_storeName (A := A) (σ := ⟨setm σ₁.m b (er u'), σ₁.H⟩) (Q := fun _ σ' => σ' = ⟨setm (setm σ₁.m b (er u')) a (er u), σ₁.H⟩) ha hp rfl) _ x₃) ?_ fun _ _ x => x))
  intro _ s₄ hq26
  refine x1_3 hq26 ?_; (try clear hq26); intro σ₄ x₄ o₄ rfl
  exact wpAny_pure ⟨_, x₄, ((o₁.trans O2).trans o₃).trans o₄, by rw [e1, e2]; exact q⟩
end

end -- MW8

section -- MT1

/-- the trees of the claim -/
inductive T where
  | con (i : Int)
  | loc (n : Int)
  | glob
  | lam (l p : Int) (b : T)
  | call1 (f x : T)
  | call2 (f x y : T)

namespace T
noncomputable def size : T → Nat
  | lam _ _ b => b.size + 1
  | call1 f x => f.size + x.size + 1
  | call2 f x y => f.size + x.size + y.size + 1
  | _ => 1
noncomputable def kids : T → List T
  | lam _ _ b => [b]
  | call1 f x => [f, x]
  | call2 f x y => [f, x, y]
  | _ => []
noncomputable def nodes : T → List T
  | con i => [con i]
  | loc n => [loc n]
  | glob => [glob]
  | lam l p b => lam l p b :: b.nodes
  | call1 f x => call1 f x :: (f.nodes ++ x.nodes)
  | call2 f x y => call2 f x y :: (f.nodes ++ (x.nodes ++ y.nodes))
theorem nodes_kids (t : T) : t.nodes = t :: t.kids.flatMap nodes := by cases t <;> simp [nodes, kids]
theorem length_nodes (t : T) : t.nodes.length = t.size := by
  induction t <;> simp_all [nodes, size]
  lia
theorem size_kids (t : T) : t.size = (t.kids.map size).sum + 1 := by cases t <;> simp [size, kids]; lia
theorem size_pos (t : T) : 1 ≤ t.size := by cases t <;> simp [size]
noncomputable def kind : T → Int
  | con _ => 0
  | loc _ => 1
  | glob => 2
  | lam .. => 7
  | call1 .. => 8
  | call2 .. => 8
end T

namespace T
noncomputable def withK : T → List T → T
  | lam l p _, [b] => lam l p b
  | call1 _ _, [f, x] => call1 f x
  | call2 _ _ _, [f, x, y] => call2 f x y
  | t, _ => t
end T


variable (a : KA)
/-- the node at x is t, and frozen -/
noncomputable def Rep (H : Hp) : T → Addr → Prop
  | .con i, x => ∃ d, H x = some (.inst a.cConst d) ∧ H d = some (.attrs true [("value", .int i 0)])
  | .loc n, x => ∃ d, H x = some (.inst a.cLocal d) ∧ H d = some (.attrs true [("number", .int n 0)])
  | .glob, x => ∃ d, H x = some (.inst a.cGlobal d) ∧ H d = some (.attrs true [("symbol", .int 0 0)])
  | .lam l p b, x => ∃ d pl y, H x = some (.inst a.cLambda d) ∧ H d = some (.attrs true [("label", .int l 0), ("params", .ref pl), ("rest", .int (-1) 0), ("body", .ref y)]) ∧ H pl = some (.list true [.int p 0]) ∧ Rep H b y
  | .call1 f g, x => ∃ d y ol z, H x = some (.inst a.cCall d) ∧ H d = some (.attrs true [("operator", .ref y), ("operands", .ref ol)]) ∧ H ol = some (.list true [.ref z]) ∧ Rep H f y ∧ Rep H g z
  | .call2 f g h, x => ∃ d y ol z w, H x = some (.inst a.cCall d) ∧ H d = some (.attrs true [("operator", .ref y), ("operands", .ref ol)]) ∧ H ol = some (.list true [.ref z, .ref w]) ∧ Rep H f y ∧ Rep H g z ∧ Rep H h w

variable {a}
theorem Rep.mono {H H' : Hp} (h : Le H H') : ∀ {t : T} {x : Addr}, Rep a H t x → Rep a H' t x
  | .con i, x, ⟨d, h1, h2⟩ => ⟨d, h _ _ rfl h1, h _ _ rfl h2⟩
  | .loc n, x, ⟨d, h1, h2⟩ => ⟨d, h _ _ rfl h1, h _ _ rfl h2⟩
  | .glob, x, ⟨d, h1, h2⟩ => ⟨d, h _ _ rfl h1, h _ _ rfl h2⟩
  | .lam l p b, x, ⟨d, pl, y, h1, h2, h3, h4⟩ => ⟨d, pl, y, h _ _ rfl h1, h _ _ rfl h2, h _ _ rfl h3, h4.mono h⟩
  | .call1 f g, x, ⟨d, y, ol, z, h1, h2, h3, h4, h5⟩ => ⟨d, y, ol, z, h _ _ rfl h1, h _ _ rfl h2, h _ _ rfl h3, h4.mono h, h5.mono h⟩
  | .call2 f g k, x, ⟨d, y, ol, z, w, h1, h2, h3, h4, h5, h6⟩ => ⟨d, y, ol, z, w, h _ _ rfl h1, h _ _ rfl h2, h _ _ rfl h3, h4.mono h, h5.mono h, h6.mono h⟩
theorem Rep.inst {H : Hp} {t : T} {x : Addr} (h : Rep a H t x) : ∃ C d, H x = some (.inst C d) := by
  cases t
  · refine x1_2 h ?_; (try clear h); intro d h1 _; exact ⟨_, _, h1⟩
  · refine x1_2 h ?_; (try clear h); intro d h1 _; exact ⟨_, _, h1⟩
  · refine x1_2 h ?_; (try clear h); intro d h1 _; exact ⟨_, _, h1⟩
  · refine x3_2 h ?_; (try clear h); intro d _ _ h1 _; exact ⟨_, _, h1⟩
  · refine x4_2 h ?_; (try clear h); intro d _ _ _ h1 _; exact ⟨_, _, h1⟩
  · refine x5_2 h ?_; (try clear h); intro d _ _ _ _ h1 _; exact ⟨_, _, h1⟩

/-- the nodes of a list -/
inductive Reps (a : KA) (H : Hp) : List T → List Value → Prop
  | nil : Reps a H [] []
  | cons {t : T} {x : Addr} {ts : List T} {vs : List Value} : Rep a H t x → Reps a H ts vs → Reps a H (t :: ts) (.ref x :: vs)
theorem Reps.mono {H H' : Hp} (h : Le H H') {ts : List T} {vs : List Value} (r : Reps a H ts vs) : Reps a H' ts vs := by
  induction r with
  | nil => exact .nil
  | cons h1 _ ih => exact .cons (h1.mono h) ih
theorem Reps.length {H : Hp} {ts : List T} {vs : List Value} (r : Reps a H ts vs) : vs.length = ts.length := by
  induction r with
  | nil => rfl
  | cons _ _ ih => rw [List.length_cons, List.length_cons, ih]
theorem Reps.append {H : Hp} {ts ts' : List T} {vs vs' : List Value} (r : Reps a H ts vs) (r' : Reps a H ts' vs') : Reps a H (ts ++ ts') (vs ++ vs') := by
  induction r with
  | nil => exact r'
  | cons h1 _ ih => exact .cons h1 ih
theorem Reps.one {H : Hp} {t : T} {x : Addr} (h : Rep a H t x) : Reps a H [t] [.ref x] := .cons h .nil
theorem Reps.take {H : Hp} {ts : List T} {vs : List Value} (r : Reps a H ts vs) (k : Nat) : Reps a H (ts.take k) (vs.take k) := by
  induction r generalizing k with
  | nil => rw [List.take_nil, List.take_nil]; exact .nil
  | cons h1 _ ih => cases k with
    | zero => exact .nil
    | succ k => exact .cons h1 (ih k)
theorem Reps.drop {H : Hp} {ts : List T} {vs : List Value} (r : Reps a H ts vs) (k : Nat) : Reps a H (ts.drop k) (vs.drop k) := by
  induction r generalizing k with
  | nil => rw [List.drop_nil, List.drop_nil]; exact .nil
  | cons h1 h2 ih => cases k with
    | zero => exact .cons h1 h2
    | succ k => exact ih k
theorem Reps.inst {H : Hp} {ts : List T} {vs : List Value} (r : Reps a H ts vs) : ∀ v ∈ vs, ∃ x C d, v = .ref x ∧ H x = some (.inst C d) := by
  induction r with
  | nil => intro v hv; cases hv
  | cons h1 _ ih =>
    intro v hv
    rcases List.mem_cons.mp hv with rfl | hv
    · refine x2_1 h1.inst ?_; intro C d h; exact ⟨_, C, d, rfl, h⟩
    · exact ih v hv
theorem Reps.get {H : Hp} {ts : List T} {vs : List Value} (r : Reps a H ts vs) : ∀ {k : Nat} {v : Value}, vs[k]? = some v → ∃ t x, ts[k]? = some t ∧ v = .ref x ∧ Rep a H t x := by
  induction r with
  | nil => intro k v h; simp at h
  | cons h1 _ ih =>
    intro k v h
    cases k with
    | zero => simp at h; exact ⟨_, _, rfl, h.symm, h1⟩
    | succ k => simp at h; refine x2_2 (ih h) ?_; intro t x e z; exact ⟨t, x, by simpa using e, z⟩

end -- MT1

section -- MN1

/-! side conditions that are reckoned to true -/
noncomputable def notStar : PySem.Expr → Bool
  | .Starred _ _ => false
  | _ => true
noncomputable def notComp : PySem.Expr → Bool
  | .ListComp .. | .SetComp .. | .DictComp .. => false
  | _ => true
noncomputable def notSup : PySem.Expr → Bool
  | .Call (.Name _ _) [] [] _ => false
  | _ => true
noncomputable def locOk (env : Env) (x : Str) : Bool := decide (env.kindOf x = some .local) && (decide (env.scope.kind = .function) && !(x == ("__debug__" : Str)))
noncomputable def glOk (env : Env) (x : Str) : Bool := decide (env.kindOf x = some .globalImplicit) && (decide (env.scope.kind = .function) && (decide (env.globals = mainGlobals) && !(x == ("__debug__" : Str))))
noncomputable def blOk (env : Env) (x : Str) : Bool := glOk env x && (decide (env.builtins = builtinsNs) && !decide (x = "__name__"))
theorem star_cons {e : PySem.Expr} {rest : List PySem.Expr} {env : Env} (h : notStar e = true) : starEach (e :: rest) env = (false, eval e env) :: starEach rest env := by
  cases e <;> first | rfl | cases h
theorem star_plain {pos : Pos} {env : Env} : ∀ {rest : List PySem.Expr}, rest.all notStar = true → (backTo pos (starEach rest env)).any (·.1) = false
  | [], _ => rfl
  | e :: rest, h => by
    rw [List.all_cons, Bool.and_eq_true] at h
    rw [star_cons h.1]
    exact star_plain h.2
theorem swaps_no {e : PySem.Expr} {t : Option PySem.Expr} {n : Nat} {env : Env} (h : notComp e = true) : swapsWith e t n env = pure false := by
  cases e <;> first | rfl | cases h
theorem base_eq {e : PySem.Expr} {x : Str} {env : Env} {t : Sem Value} (h : notSup e = true) : attributeBase e x env t = t := by
  cases e with
  | Call f as ks p => cases f with
    | Name id q => cases as with
      | nil => cases ks with
        | nil => cases h
        | cons => rfl
      | cons => rfl
    | _ => rfl
  | _ => rfl
section
variable {G : Gl} {A : Around} {env : Env} {σ : St} {L : Addr}
theorem loc_of {x : Str} (h : locOk env x = true) : env.kindOf x = some .local ∧ env.scope.kind = .function ∧ (x == ("__debug__" : Str)) = false := by
  simpa [locOk] using h
theorem loc_hp {x : Str} (h : locOk env x = true) : (env.scope.kind == .class || (env.scope.kind == .module && env.locals != env.globals)) = false := by
  rw [(loc_of h).2.1]; rfl
theorem gl_of {x : Str} (h : glOk env x = true) : env.kindOf x = some .globalImplicit ∧ env.scope.kind = .function ∧ env.globals = mainGlobals ∧ (x == ("__debug__" : Str)) = false := by
  simpa [glOk] using h
theorem bl_of {x : Str} (h : blOk env x = true) : glOk env x = true ∧ env.builtins = builtinsNs ∧ x ≠ "__name__" := by
  simpa [blOk] using h

theorem We_L {x : Str} {pos : Pos} {v : Value} {Q : Value → St → Prop} (hv : σ.m x = some v) (h : Q v σ) (hs : locOk env x = true := by with_unfolding_all exact Eq.refl true) : We G A env (.Name x pos) Q σ :=
  We_Local hv h (loc_of hs).1 (loc_of hs).2.1 (loc_of hs).2.2
theorem We_G (O : G.Ok) {x : Str} {pos : Pos} {v : Value} {Q : Value → St → Prop} (e : nsIn G.K mainGlobals x = some (some v)) (h : Q (er v) σ) (hs : glOk env x = true := by with_unfolding_all exact Eq.refl true) : We G A env (.Name x pos) Q σ :=
  We_Global O e h (gl_of hs).1 (gl_of hs).2.1 (gl_of hs).2.2.1 (gl_of hs).2.2.2
theorem We_GI (O : G.Ok) {x : Str} {pos : Pos} {i : Int} {Q : Value → St → Prop} (e : ∃ t, nsIn G.K mainGlobals x = some (some (.int i t))) (h : Q (.int i 0) σ) (hs : glOk env x = true := by with_unfolding_all exact Eq.refl true) : We G A env (.Name x pos) Q σ :=
  We_GlobalInt O e h (gl_of hs).1 (gl_of hs).2.1 (gl_of hs).2.2.1 (gl_of hs).2.2.2
/-- arguments -/
theorem Wargs_c {pos : Pos} {e : PySem.Expr} {rest : List PySem.Expr} {Q : List Value → St → Prop} (h : We G A env e (fun v σ₁ => Wargs G A env pos rest (PreQ v Q) σ₁) σ) (hs : notStar e = true := by exact Eq.refl true) : Wargs G A env pos (e :: rest) Q σ :=
  Wargs_cons h (star_cons hs)
theorem Wargs_l {pos px : Pos} {x : Str} {v : Value} {rest : List PySem.Expr} {Q : List Value → St → Prop} (hv : σ.m x = some v) (h : Wargs G A env pos rest (PreQ v Q) σ) (hs : locOk env x = true := by with_unfolding_all exact Eq.refl true) : Wargs G A env pos (.Name x px :: rest) Q σ :=
  Wargs_cons (We_L hv h hs) rfl
/-- x.name -/
theorem We_at {value : PySem.Expr} {attr : Str} {pos : Pos} {Q : Value → St → Prop} (h : We G A env value (fun v σ₁ => Wv G A env.locals er (fun u => getAttr u attr true) v Q σ₁) σ) (hs : notSup value = true := by exact Eq.refl true) : We G A env (.Attribute value attr pos) Q σ :=
  We_Attribute h (by
    show (do let o ← attributeBase value attr env (eval value env); _) = _
    rw [base_eq hs])
/-- statements -/
theorem Ws_asg {x : Str} {px : Pos} {e : PySem.Expr} {pos : Pos} {rest : List Stmt} {Q : Flow → St → Prop} (h : We G A env e (fun v σ₁ => Ws G A env rest Q ⟨setm σ₁.m x v, σ₁.H⟩) σ)
    (hl : locOk env x = true := by with_unfolding_all exact Eq.refl true) (hs : notComp e = true := by exact Eq.refl true) : Ws G A env (.Assign [.Name x px] e pos :: rest) Q σ :=
  Ws_cons (Wst_Assign h (loc_of hl).1 (swaps_no hs) (loc_hp hl))
theorem Ws_ret {e : PySem.Expr} {pos : Pos} {rest : List Stmt} {Q : Flow → St → Prop} (h : We G A env e (fun v σ₁ => Q (.ret v) σ₁) σ) : Ws G A env (.Return (some e) pos :: rest) Q σ :=
  Ws_cons (Wst_Return h)
theorem Ws_asga {o e : PySem.Expr} {name : Str} {apos pos : Pos} {rest : List Stmt} {Q : Flow → St → Prop} (h : We G A env e (fun v σ₁ => We G A env o (fun u σ₂ => ∀ v' u', er v' = v → er u' = u → Wt G A env.locals id (setAttr u' name v') (fun _ σ₃ => Ws G A env rest Q σ₃) σ₂) σ₁) σ)
    (hs : notComp e = true := by exact Eq.refl true) : Ws G A env (.Assign [.Attribute o name apos] e pos :: rest) Q σ :=
  Ws_cons (Wst_AssignAttr h (swaps_no hs))
/-- a call of what stands at the top, in one step -/
theorem We_callK (O : G.Ok) {x : Str} {px pos : Pos} {f : Addr} {args : List PySem.Expr} {Q : Value → St → Prop} (eg : nsIn G.K mainGlobals x = some (some (.ref f))) (hkp : keepIn G.K (.ref f) = true)
    (h : Wargs G A env pos args (fun vs σ₁ => Wcall G A env.locals (.ref f) vs Q σ₁) σ) (hx : glOk env x = true := by with_unfolding_all exact Eq.refl true) (hs : (args.all notStar && !args.isEmpty) = true := by exact Eq.refl true) : We G A env (.Call (.Name x px) args [] pos) Q σ := by
  rw [Bool.and_eq_true] at hs
  cases args with
  | nil => cases hs.2
  | cons e rest =>
    have hs := hs.1
    rw [List.all_cons, Bool.and_eq_true] at hs
    exact We_Call (We_G O eg (fun f' hf' => by cases er_ref hf'; exact W_callWith_K (first := []) O hkp h (star_cons hs.1) (star_plain hs.2)) hx) rfl
theorem We_callK0 (O : G.Ok) {x : Str} {px pos : Pos} {f : Addr} {Q : Value → St → Prop} (eg : nsIn G.K mainGlobals x = some (some (.ref f))) (hkp : keepIn G.K (.ref f) = true) (h : Wcall G A env.locals (.ref f) [] Q σ)
    (hx : glOk env x = true := by with_unfolding_all exact Eq.refl true) : We G A env (.Call (.Name x px) [] [] pos) Q σ :=
  We_Call (We_G O eg (fun f' hf' => by cases er_ref hf'; exact W_callWith_K0 (first := []) O hkp h) hx) rfl
theorem We_callB (O : G.Ok) {x : Str} {px pos : Pos} {id : String} {args : List PySem.Expr} {Q : Value → St → Prop} (eg : nsIn G.K mainGlobals x = some none) (hv : bootBuiltins x = some (.builtin id))
    (h : Wargs G A env pos args (fun vs σ₁ => Wcall G A env.locals (.builtin id) vs Q σ₁) σ) (hx : blOk env x = true := by with_unfolding_all exact Eq.refl true) (hs : (args.all notStar && !args.isEmpty) = true := by exact Eq.refl true) : We G A env (.Call (.Name x px) args [] pos) Q σ := by
  (refine x0_3 (bl_of hx) ?_; intro h1 h2 h3)
  rw [Bool.and_eq_true] at hs
  cases args with
  | nil => cases hs.2
  | cons e rest =>
    have hs := hs.1
    rw [List.all_cons, Bool.and_eq_true] at hs
    exact We_Call (We_Builtin O eg hv (fun f' hf' => by cases er_builtin hf'; exact W_callWith_B (first := []) h (star_cons hs.1) (star_plain hs.2)) h3 (gl_of h1).1 (gl_of h1).2.1 (gl_of h1).2.2.1 h2 (gl_of h1).2.2.2) rfl
theorem We_callT (O : G.Ok) {x : Str} {px pos : Pos} {T : String} {args : List PySem.Expr} {Q : Value → St → Prop} (eg : nsIn G.K mainGlobals x = some none) (hv : bootBuiltins x = some (.type T))
    (h : Wargs G A env pos args (fun vs σ₁ => Wcall G A env.locals (.type T) vs Q σ₁) σ) (hx : blOk env x = true := by with_unfolding_all exact Eq.refl true) (hs : (args.all notStar && !args.isEmpty) = true := by exact Eq.refl true) : We G A env (.Call (.Name x px) args [] pos) Q σ := by
  (refine x0_3 (bl_of hx) ?_; intro h1 h2 h3)
  rw [Bool.and_eq_true] at hs
  cases args with
  | nil => cases hs.2
  | cons e rest =>
    have hs := hs.1
    rw [List.all_cons, Bool.and_eq_true] at hs
    exact We_Call (We_Builtin O eg hv (fun f' hf' => by cases er_type hf'; exact W_callWith_T (first := []) h (star_cons hs.1) (star_plain hs.2)) h3 (gl_of h1).1 (gl_of h1).2.1 (gl_of h1).2.2.1 h2 (gl_of h1).2.2.2) rfl
theorem W_nm {x : Str} {px : Pos} {u v : Value} {Q : Unit → St → Prop} (hu : er u = v) (q : Q () ⟨setm σ.m x v, σ.H⟩) (hs : locOk env x = true := by with_unfolding_all exact Eq.refl true) : Wt G A env.locals id (assign (.Name x px) env u) Q σ := by
  subst hu
  exact W_assign_Name q (loc_of hs).1 (loc_hp hs)
theorem ift {c : Prop} {_ : Decidable c} {a b : Prop} (h : c) (x : a) : if c then a else b := by rw [if_pos h]; exact x
theorem iff_ {c : Prop} {_ : Decidable c} {a b : Prop} (h : ¬c) (x : b) : if c then a else b := by rw [if_neg h]; exact x
theorem ifs {c : Prop} {_ : Decidable c} {a b : Prop} (x : c → a) (y : ¬c → b) : if c then a else b := by
  by_cases h : c
  · rw [if_pos h]; exact x h
  · rw [if_neg h]; exact y h
end

end -- MN1

section -- MC1
set_option maxRecDepth 20000

theorem Rm.room {A : Around} {n : Nat} (R : Rm A (n + 1)) : A.depth < recursionLimit := by have := R.dp; lia

variable {G : Gl} {a : KA} {A : Around}

theorem x_same (O : G.Ok) (K : KF G a) {n : Nat} (R : Rm A (n + 1)) {H : Hp} {p r : Addr} {z z' : Bool} {xs ys : List Value}
    (ha : H p = some (.list z xs)) (hb : H r = some (.list z' ys)) (hn : xs.length ≤ 1000000) (hn' : ys.length ≤ 1000000)
    (hx : ∀ v ∈ xs, ∃ x C d, v = .ref x ∧ H x = some (.inst C d)) (hy : ∀ v ∈ ys, ∃ x C d, v = .ref x ∧ H x = some (.inst C d)) {Q : Value → Hp → Prop}
    (q : ∀ H', Ext H H' → Q (.bool (decide (xs = ys))) H') : Wc G A (.ref a.f_are_same_list) [.ref p, .ref r] Q H := by
  refine Wc_fun O K.d.d_are_same_list.fn R.room ["ones", "others"] (bd2 fun _ _ _ _ _ _ _ _ _ => rfl) (by rfl) (by rfl) (by rfl) (by rfl) (by rfl) ?_
  intro L qual cdv hL
  refine Ws_cons ?_
  refine Wst_If ?_
  refine Wb_Compare ?_
  refine We_callB O K.c.nb_len bb_len ?_
  refine Wargs_l (by walk_at "v") ?_
  refine Wargs_nil ?_
  refine W_len_list ha hn ?_
  refine We_callB O K.c.nb_len bb_len ?_
  refine Wargs_l (by walk_at "v") ?_
  refine Wargs_nil ?_
  refine W_len_list hb hn' ?_
  refine W_ne ?_
  refine W_truthy_bool ?_
  refine ifs (fun _ => ?_) (fun _ => ?_)
  · rename_i hlt
    refine Ws_ret ?_
    refine We_Bool ?_
    have : xs ≠ ys := fun e => by subst e; simp at hlt
    have h1 := q H (.refl H)
    rw [decide_eq_false this] at h1
    exact h1
  · rename_i hlt
    have hlen2 : xs.length = ys.length := by
      have : ((xs.length : Int) != ys.length) = false := by simpa using hlt
      have := bne_eq_false_iff_eq.mp this
      lia
    refine Ws_nil ?_
    refine Ws_cons ?_
    refine Wst_For_range R.hd ?_
    refine We_callT O K.c.nb_range bb_range ?_
    refine Wargs_c ?_
    refine We_callB O K.c.nb_len bb_len ?_
    refine Wargs_l (by walk_at "v") ?_
    refine Wargs_nil ?_
    refine W_len_list ha hn ?_
    refine Wargs_nil ?_
    refine W_range ?_
    intro rg hrg hrgL
    refine ⟨rg, xs.length, fun i σ => σ.m "ones" = some (.ref p) ∧ σ.m "others" = some (.ref r) ∧ Ext H σ.H ∧ ∀ k, k < i → xs[k]? = ys[k]?, rfl, upd_same, hn, ?_⟩
    refine ⟨⟨by walk_at "v", by walk_at "v", Ext.new hrg, fun k h => absurd h (Nat.not_lt_zero k)⟩, ?_, ?_⟩
    · intro i σ hi hq1
      refine x0_4 hq1 ?_; (try clear hq1); intro h1 h2 hE h3
      intro u hu
      have hxi : xs[i]? = some xs[i] := List.getElem?_eq_getElem hi
      have hyi : ys[i]? = some ys[i] := List.getElem?_eq_getElem (hlen2 ▸ hi)
      refine x3_2 (hx xs[i] (List.getElem_mem ..)) ?_; intro x C d e1 g1
      refine x3_2 (hy ys[i] (List.getElem_mem ..)) ?_; intro y C' d' e2 g2
      rw [e1] at hxi
      rw [e2] at hyi
      refine W_nm hu ?_
      refine Ws_cons ?_
      refine Wst_If ?_
      refine Wb_Compare ?_
      refine We_Subscript ?_
      refine We_L (by walk_at "v") ?_
      refine We_L (by walk_at "v") ?_
      refine W_item_list (hE _ _ ha) (by lia) (by lia) (x := .ref x) hxi ?_
      refine We_Subscript ?_
      refine We_L (by walk_at "v") ?_
      refine We_L (by walk_at "v") ?_
      refine W_item_list (hE _ _ hb) (by lia) (by lia) (x := .ref y) hyi ?_
      refine W_isNot_inst (hE _ _ g1) (hE _ _ g2) ?_
      refine W_truthy_bool ?_
      refine ifs (fun _ => ?_) (fun _ => ?_)
      · rename_i hne
        refine Ws_ret ?_
        refine We_Bool ?_
        have : xs ≠ ys := fun e => by
          subst e
          rw [hxi] at hyi
          cases hyi
          simp at hne
        have h1 := q _ hE
        rw [decide_eq_false this] at h1
        exact h1
      · rename_i hne
        refine Ws_nil ?_
        refine Ws_nil ?_
        refine ⟨by walk_at "v", by walk_at "v", hE, fun k hk => ?_⟩
        rcases Nat.lt_or_ge k i with h | h
        · exact h3 k h
        · obtain rfl : k = i := by lia
          rw [hxi, hyi]
          have : x = y := by simpa using hne
          rw [this]
    · intro σ hq2
      refine x0_4 hq2 ?_; (try clear hq2); intro h1 h2 hE h3
      refine Ws_ret ?_
      refine We_Bool ?_
      have : xs = ys := by
        apply List.ext_getElem?
        intro k
        rcases Nat.lt_or_ge k xs.length with h | h
        · exact h3 k h
        · rw [List.getElem?_eq_none h, List.getElem?_eq_none (hlen2 ▸ h)]
      have h1 := q _ hE
      rw [decide_eq_true this] at h1
      exact h1

end -- MC1

section -- MC2
set_option maxRecDepth 20000
variable {G : Gl} {a : KA} {A : Around} {env : Env} {σ : St} {L : Addr}

theorem W_set (O : G.Ok) {x C d fi : Addr} {fs : List (Str × Value)} {name nm : Str} {v : Value} {st : Stmt} {Q : St → Prop} (k : ClsK G nm C fi st) (ho : findIn G.K (.ref C) name = some none) (hx : σ.H x = some (.inst C d)) (hd : σ.H d = some (.attrs false fs)) (hz : fs.length ≤ 100)
    (q : Q ⟨σ.m, upd σ.H d (.attrs false (puta name v fs))⟩) : ∀ v' u', er v' = v → er u' = .ref x → Wt G A L id (setAttr u' name v') (fun _ σ₃ => Q σ₃) σ := fun v' u' hv hu => by
  obtain rfl := er_ref hu
  subst hv
  exact W_setAttr O hx hd k.sa k.po (taker_none ho) k.hd hz q

/-- x.name, the instance's own -/
theorem W_own (O : G.Ok) {x C d fi : Addr} {z : Bool} {fs : List (Str × Value)} {name nm : Str} {v : Value} {st : Stmt} {ex : Bool} {Q : Value → St → Prop} (k : ClsK G nm C fi st) (ho : findIn G.K (.ref C) name = some none) (hx : σ.H x = some (.inst C d)) (hd : σ.H d = some (.attrs z fs))
    (hl : geta name fs = some v) (q : Q v σ) (hv : handedIn v = true := by rfl) : Wv G A L er (fun u => getAttr u name ex) (.ref x) Q σ :=
  W_attr_own O hx hd hl ho (k.get name) k.hd rfl hv q
theorem We_own (O : G.Ok) {y : Str} {py pos : Pos} {x C d fi : Addr} {z : Bool} {fs : List (Str × Value)} {name nm : Str} {v : Value} {st : Stmt} {Q : Value → St → Prop} (k : ClsK G nm C fi st) (ho : findIn G.K (.ref C) name = some none) (hx : σ.H x = some (.inst C d)) (hd : σ.H d = some (.attrs z fs))
    (hl : geta name fs = some v) (hy : σ.m y = some (.ref x)) (q : Q v σ) (hv : handedIn v = true := by exact Eq.refl true) (hs : locOk env y = true := by with_unfolding_all exact Eq.refl true) : We G A env (.Attribute (.Name y py) name pos) Q σ :=
  We_at (We_L hy (W_own O k ho hx hd hl q hv) hs) rfl
theorem W_kind (O : G.Ok) {x C d fi : Addr} {z : Bool} {fs : List (Str × Value)} {nm : Str} {i : Int} {st : Stmt} {ex : Bool} {Q : Value → St → Prop} (k : ClsK G nm C fi st) (ho : ∃ t, findIn G.K (.ref C) "kind" = some (some (.int i t))) (hx : σ.H x = some (.inst C d)) (hd : σ.H d = some (.attrs z fs))
    (hl : geta "kind" fs = none) (q : Q (.int i 0) σ) : Wv G A L er (fun u => getAttr u "kind" ex) (.ref x) Q σ :=
  W_attr_kind O hx hd hl ho (k.get _) k.hd (by with_unfolding_all rfl) q

/-- x.name(): a method of the program -/
theorem W_mcall0 (O : G.Ok) {x C d fi f : Addr} {z : Bool} {fs : List (Str × Value)} {name nm : Str} {st st' : Stmt} {pl : Sem Bool} {pos : Pos} {Q : Value → St → Prop} (k : ClsK G nm C fi st) (kf : FunK G st' f) (hf : findIn G.K (.ref C) name = some (some (.ref f)))
    (hx : σ.H x = some (.inst C d)) (hd : σ.H d = some (.attrs z fs)) (hl : geta name fs = none) (h : Wc G A (.ref f) [.ref x] (fun r H' => Q r ⟨σ.m, H'⟩) σ.H) :
    ∀ u, er u = .ref x → Wt G A env.locals (fun p => (er p.1, p.2.map er)) (getMethod u name pl) (fun fx σ₂ => ∀ p : Value × List Value, (er p.1, p.2.map er) = fx → Wt G A env.locals er (callWith pos p.1 p.2 (backTo pos (starEach [] env)) []) Q σ₂) σ := fun u hu => by
  obtain rfl := er_ref hu
  refine W_getMethod_inst O hx hd hl hf (k.get _) kf.isFn ?_
  intro hq1
  obtain ⟨p1, p2⟩ := hq1
  intro hp
  have h1 := er_ref (Prod.mk.inj hp).1
  try dsimp only at h1 hp ⊢
  subst h1
  refine W_callWith_K0 O kf.keep ?_
  rw [(Prod.mk.inj hp).2]
  exact Wcall_of h
theorem W_mcall (O : G.Ok) {x C d fi f : Addr} {z : Bool} {fs : List (Str × Value)} {name nm : Str} {st st' : Stmt} {pl : Sem Bool} {pos : Pos} {e : PySem.Expr} {rest : List PySem.Expr} {Q : Value → St → Prop} (k : ClsK G nm C fi st) (kf : FunK G st' f) (hf : findIn G.K (.ref C) name = some (some (.ref f)))
    (hx : σ.H x = some (.inst C d)) (hd : σ.H d = some (.attrs z fs)) (hl : geta name fs = none) (h : Wargs G A env pos (e :: rest) (fun vs σ₁ => Wc G A (.ref f) (.ref x :: vs) (fun r H' => Q r ⟨σ₁.m, H'⟩) σ₁.H) σ)
    (he : starEach (e :: rest) env = (false, eval e env) :: starEach rest env := by with_unfolding_all rfl) (hplain : (backTo pos (starEach rest env)).any (·.1) = false := by with_unfolding_all rfl) :
    ∀ u, er u = .ref x → Wt G A env.locals (fun p => (er p.1, p.2.map er)) (getMethod u name pl) (fun fx σ₂ => ∀ p : Value × List Value, (er p.1, p.2.map er) = fx → Wt G A env.locals er (callWith pos p.1 p.2 (backTo pos (starEach (e :: rest) env)) []) Q σ₂) σ := fun u hu => by
  obtain rfl := er_ref hu
  refine W_getMethod_inst O hx hd hl hf (k.get _) kf.isFn ?_
  intro hq2
  obtain ⟨p1, p2⟩ := hq2
  intro hp
  have h1 := er_ref (Prod.mk.inj hp).1
  try dsimp only at h1 hp ⊢
  subst h1
  refine W_callWith_K O kf.keep ?_ he hplain
  rw [(Prod.mk.inj hp).2]
  exact h.mono fun vs σ₁ q => Wcall_of q
/-- x.name(args): a method of a built-in type -/
theorem W_bcall0 {v : Value} {name : Str} {id : String} {pl : Sem Bool} {pos : Pos} {Q : Value → St → Prop}
    (hm : ∀ Q' : Value × List Value → St → Prop, Q' (.builtin id, [v]) σ → ∀ u, er u = v → Wt G A env.locals (fun p => (er p.1, p.2.map er)) (getMethod u name pl) Q' σ)
    (h : Wcall G A env.locals (.builtin id) [v] Q σ) :
    ∀ u, er u = v → Wt G A env.locals (fun p => (er p.1, p.2.map er)) (getMethod u name pl) (fun fx σ₂ => ∀ p : Value × List Value, (er p.1, p.2.map er) = fx → Wt G A env.locals er (callWith pos p.1 p.2 (backTo pos (starEach [] env)) []) Q σ₂) σ := fun u hu => by
  refine hm _ ?_ u hu
  intro hq3
  obtain ⟨p1, p2⟩ := hq3
  intro hp
  have h1 := er_builtin (Prod.mk.inj hp).1
  try dsimp only at h1 hp ⊢
  subst h1
  refine W_callWith_B0 ?_
  rw [(Prod.mk.inj hp).2]
  exact h
theorem W_bcall {v : Value} {name : Str} {id : String} {pl : Sem Bool} {pos : Pos} {e : PySem.Expr} {rest : List PySem.Expr} {Q : Value → St → Prop}
    (hm : ∀ Q' : Value × List Value → St → Prop, Q' (.builtin id, [v]) σ → ∀ u, er u = v → Wt G A env.locals (fun p => (er p.1, p.2.map er)) (getMethod u name pl) Q' σ)
    (h : Wargs G A env pos (e :: rest) (fun vs σ₁ => Wcall G A env.locals (.builtin id) (v :: vs) Q σ₁) σ)
    (he : starEach (e :: rest) env = (false, eval e env) :: starEach rest env := by with_unfolding_all rfl) (hplain : (backTo pos (starEach rest env)).any (·.1) = false := by with_unfolding_all rfl) :
    ∀ u, er u = v → Wt G A env.locals (fun p => (er p.1, p.2.map er)) (getMethod u name pl) (fun fx σ₂ => ∀ p : Value × List Value, (er p.1, p.2.map er) = fx → Wt G A env.locals er (callWith pos p.1 p.2 (backTo pos (starEach (e :: rest) env)) []) Q σ₂) σ := fun u hu => by
  refine hm _ ?_ u hu
  intro hq4
  obtain ⟨p1, p2⟩ := hq4
  intro hp
  have h1 := er_builtin (Prod.mk.inj hp).1
  try dsimp only at h1 hp ⊢
  subst h1
  refine W_callWith_B ?_ he hplain
  rw [(Prod.mk.inj hp).2]
  exact h
theorem gm_list {l : Addr} {z : Bool} {xs : List Value} {name : Str} {id : String} {pl : Sem Bool} (h : σ.H l = some (.list z xs)) (slot : Slot "list" name id) (hty : typeOf (.builtin id) = pure (.type "method_descriptor")) :
    ∀ Q' : Value × List Value → St → Prop, Q' (.builtin id, [.ref l]) σ → ∀ u, er u = .ref l → Wt G A L (fun p => (er p.1, p.2.map er)) (getMethod u name pl) Q' σ := fun Q' q u hu => by
  obtain rfl := er_ref hu
  exact W_getMethod_list h slot hty q
theorem gm_tab {l : Addr} {z : Bool} {es : List (Int × Value)} {name : Str} {id : String} {pl : Sem Bool} (h : σ.H l = some (.tab z es)) (slot : Slot "dict" name id) (hty : typeOf (.builtin id) = pure (.type "method_descriptor")) :
    ∀ Q' : Value × List Value → St → Prop, Q' (.builtin id, [.ref l]) σ → ∀ u, er u = .ref l → Wt G A L (fun p => (er p.1, p.2.map er)) (getMethod u name pl) Q' σ := fun Q' q u hu => by
  obtain rfl := er_ref hu
  exact W_getMethod_tab h slot hty q
/-- l.append(e) -/
theorem W_mappend {l : Addr} {pl : Sem Bool} {pos : Pos} {e : PySem.Expr} {Q : Value → St → Prop} {z : Bool} {ys : List Value} (h₀ : σ.H l = some (.list z ys)) (h : We G A env e (fun v σ₁ => ∃ xs, σ₁.H l = some (.list false xs) ∧ xs.length ≤ 1000000 ∧ Q .none ⟨σ₁.m, upd σ₁.H l (.list false (xs ++ [v]))⟩) σ)
    (he : starEach [e] env = (false, eval e env) :: starEach [] env := by with_unfolding_all rfl) :
    ∀ u, er u = .ref l → Wt G A env.locals (fun p => (er p.1, p.2.map er)) (getMethod u "append" pl) (fun fx σ₂ => ∀ p : Value × List Value, (er p.1, p.2.map er) = fx → Wt G A env.locals er (callWith pos p.1 p.2 (backTo pos (starEach [e] env)) []) Q σ₂) σ :=
  W_bcall (gm_list h₀ PySem.F.slot_list_append (by rfl)) (Wargs_cons (h.mono fun v σ₁ ⟨xs, q⟩ => Wargs_nil (W_append q.1 q.2.1 q.2.2)) he) he rfl
theorem W_mpop {l : Addr} {xs : List Value} {v : Value} {pl : Sem Bool} {pos : Pos} {Q : Value → St → Prop} (h : σ.H l = some (.list false (xs ++ [v]))) (hsz : xs.length ≤ 1000000) (q : Q v ⟨σ.m, upd σ.H l (.list false xs)⟩) :
    ∀ u, er u = .ref l → Wt G A env.locals (fun p => (er p.1, p.2.map er)) (getMethod u "pop" pl) (fun fx σ₂ => ∀ p : Value × List Value, (er p.1, p.2.map er) = fx → Wt G A env.locals er (callWith pos p.1 p.2 (backTo pos (starEach [] env)) []) Q σ₂) σ :=
  W_bcall0 (gm_list h PySem.F.slot_list_pop (by rfl)) (W_pop h hsz q)

end -- MC2

section -- MC3
set_option maxRecDepth 20000
variable {G : Gl} {a : KA} {A : Around} {env : Env} {σ : St} {L : Addr}

theorem new_Const (O : G.Ok) (K : KF G a) {n : Nat} (R : Rm A (n + 2)) {v0 : Value} {Q : Value → St → Prop}
    (q : ∀ x d H', Ext σ.H H' → σ.H x = none → σ.H d = none → H' x = some (.inst a.cConst d) → H' d = some (.attrs true [("value", v0)]) → Q (.ref x) ⟨σ.m, H'⟩) : Wcall G A L (.ref a.cConst) [v0] Q σ := by
  refine Wcall_new O K.n.k_Const.made K.n.k_Const.init K.n.k_Const.fni.isFn ?_
  intro x d hx hd hxd hxL hdL us hus
  refine Wc_fun O K.n.k_Const.fni (R.make (n := n + 1)).room ["self", "value"] (bd2 fun _ _ _ _ _ _ _ _ _ => rfl) (by rfl) (by rfl) (by rfl) (by rfl) (by rfl) ?_
  intro L' qual cdv hL' 
  refine Ws_asga ?_
  refine We_L (by walk_at "v") ?_
  refine We_L (by walk_at "v") ?_
  refine W_set O (x := x) (d := d) K.n.k_Const K.n.o_Const_value (by repeat (first | with_reducible assumption | with_reducible exact upd_same | with_reducible refine upd_other (by first | assumption | exact Ne.symm (by assumption)) ?_)) (by repeat (first | with_reducible assumption | with_reducible exact upd_same | with_reducible refine upd_other (by first | assumption | exact Ne.symm (by assumption)) ?_)) (Nat.le_of_ble_eq_true (by with_unfolding_all rfl)) ?_
  refine Wt.frz (Frz.one (a := d) upd_same) ?_
  refine Ws_nil ?_
  refine ⟨rfl, q x d _ ?_ hx hd ?_ ?_⟩
  · refine Ext.mut ?_ hd; refine Ext.mut ?_ hd; exact Ext.mut (Ext.new hd) hx
  · repeat (first | with_reducible assumption | with_reducible exact upd_same | with_reducible refine upd_other (by first | assumption | exact Ne.symm (by assumption)) ?_)
  · exact upd_same

theorem new_Local (O : G.Ok) (K : KF G a) {n : Nat} (R : Rm A (n + 2)) {v0 : Value} {Q : Value → St → Prop}
    (q : ∀ x d H', Ext σ.H H' → σ.H x = none → σ.H d = none → H' x = some (.inst a.cLocal d) → H' d = some (.attrs true [("number", v0)]) → Q (.ref x) ⟨σ.m, H'⟩) : Wcall G A L (.ref a.cLocal) [v0] Q σ := by
  refine Wcall_new O K.n.k_Local.made K.n.k_Local.init K.n.k_Local.fni.isFn ?_
  intro x d hx hd hxd hxL hdL us hus
  refine Wc_fun O K.n.k_Local.fni (R.make (n := n + 1)).room ["self", "number"] (bd2 fun _ _ _ _ _ _ _ _ _ => rfl) (by rfl) (by rfl) (by rfl) (by rfl) (by rfl) ?_
  intro L' qual cdv hL' 
  refine Ws_asga ?_
  refine We_L (by walk_at "v") ?_
  refine We_L (by walk_at "v") ?_
  refine W_set O (x := x) (d := d) K.n.k_Local K.n.o_Local_number (by repeat (first | with_reducible assumption | with_reducible exact upd_same | with_reducible refine upd_other (by first | assumption | exact Ne.symm (by assumption)) ?_)) (by repeat (first | with_reducible assumption | with_reducible exact upd_same | with_reducible refine upd_other (by first | assumption | exact Ne.symm (by assumption)) ?_)) (Nat.le_of_ble_eq_true (by with_unfolding_all rfl)) ?_
  refine Wt.frz (Frz.one (a := d) upd_same) ?_
  refine Ws_nil ?_
  refine ⟨rfl, q x d _ ?_ hx hd ?_ ?_⟩
  · refine Ext.mut ?_ hd; refine Ext.mut ?_ hd; exact Ext.mut (Ext.new hd) hx
  · repeat (first | with_reducible assumption | with_reducible exact upd_same | with_reducible refine upd_other (by first | assumption | exact Ne.symm (by assumption)) ?_)
  · exact upd_same

theorem new_Global (O : G.Ok) (K : KF G a) {n : Nat} (R : Rm A (n + 2)) {v0 : Value} {Q : Value → St → Prop}
    (q : ∀ x d H', Ext σ.H H' → σ.H x = none → σ.H d = none → H' x = some (.inst a.cGlobal d) → H' d = some (.attrs true [("symbol", v0)]) → Q (.ref x) ⟨σ.m, H'⟩) : Wcall G A L (.ref a.cGlobal) [v0] Q σ := by
  refine Wcall_new O K.n.k_Global.made K.n.k_Global.init K.n.k_Global.fni.isFn ?_
  intro x d hx hd hxd hxL hdL us hus
  refine Wc_fun O K.n.k_Global.fni (R.make (n := n + 1)).room ["self", "symbol"] (bd2 fun _ _ _ _ _ _ _ _ _ => rfl) (by rfl) (by rfl) (by rfl) (by rfl) (by rfl) ?_
  intro L' qual cdv hL' 
  refine Ws_asga ?_
  refine We_L (by walk_at "v") ?_
  refine We_L (by walk_at "v") ?_
  refine W_set O (x := x) (d := d) K.n.k_Global K.n.o_Global_symbol (by repeat (first | with_reducible assumption | with_reducible exact upd_same | with_reducible refine upd_other (by first | assumption | exact Ne.symm (by assumption)) ?_)) (by repeat (first | with_reducible assumption | with_reducible exact upd_same | with_reducible refine upd_other (by first | assumption | exact Ne.symm (by assumption)) ?_)) (Nat.le_of_ble_eq_true (by with_unfolding_all rfl)) ?_
  refine Wt.frz (Frz.one (a := d) upd_same) ?_
  refine Ws_nil ?_
  refine ⟨rfl, q x d _ ?_ hx hd ?_ ?_⟩
  · refine Ext.mut ?_ hd; refine Ext.mut ?_ hd; exact Ext.mut (Ext.new hd) hx
  · repeat (first | with_reducible assumption | with_reducible exact upd_same | with_reducible refine upd_other (by first | assumption | exact Ne.symm (by assumption)) ?_)
  · exact upd_same

theorem new_Lambda (O : G.Ok) (K : KF G a) {n : Nat} (R : Rm A (n + 2)) {v0 : Value} {v1 : Value} {v2 : Value} {v3 : Value} {Q : Value → St → Prop}
    (q : ∀ x d H', Ext σ.H H' → σ.H x = none → σ.H d = none → H' x = some (.inst a.cLambda d) → H' d = some (.attrs true [("label", v0), ("params", v1), ("rest", v2), ("body", v3)]) → Q (.ref x) ⟨σ.m, H'⟩) : Wcall G A L (.ref a.cLambda) [v0, v1, v2, v3] Q σ := by
  refine Wcall_new O K.n.k_Lambda.made K.n.k_Lambda.init K.n.k_Lambda.fni.isFn ?_
  intro x d hx hd hxd hxL hdL us hus
  refine Wc_fun O K.n.k_Lambda.fni (R.make (n := n + 1)).room ["self", "label", "params", "rest", "body"] (bd5 fun _ _ _ _ _ _ _ _ _ _ _ _ => rfl) (by rfl) (by rfl) (by rfl) (by rfl) (by rfl) ?_
  intro L' qual cdv hL' 
  refine Ws_asga ?_
  refine We_L (by walk_at "v") ?_
  refine We_L (by walk_at "v") ?_
  refine W_set O (x := x) (d := d) K.n.k_Lambda K.n.o_Lambda_label (by repeat (first | with_reducible assumption | with_reducible exact upd_same | with_reducible refine upd_other (by first | assumption | exact Ne.symm (by assumption)) ?_)) (by repeat (first | with_reducible assumption | with_reducible exact upd_same | with_reducible refine upd_other (by first | assumption | exact Ne.symm (by assumption)) ?_)) (Nat.le_of_ble_eq_true (by with_unfolding_all rfl)) ?_
  refine Ws_asga ?_
  refine We_L (by walk_at "v") ?_
  refine We_L (by walk_at "v") ?_
  refine W_set O (x := x) (d := d) K.n.k_Lambda K.n.o_Lambda_params (by repeat (first | with_reducible assumption | with_reducible exact upd_same | with_reducible refine upd_other (by first | assumption | exact Ne.symm (by assumption)) ?_)) (by repeat (first | with_reducible assumption | with_reducible exact upd_same | with_reducible refine upd_other (by first | assumption | exact Ne.symm (by assumption)) ?_)) (Nat.le_of_ble_eq_true (by with_unfolding_all rfl)) ?_
  refine Ws_asga ?_
  refine We_L (by walk_at "v") ?_
  refine We_L (by walk_at "v") ?_
  refine W_set O (x := x) (d := d) K.n.k_Lambda K.n.o_Lambda_rest (by repeat (first | with_reducible assumption | with_reducible exact upd_same | with_reducible refine upd_other (by first | assumption | exact Ne.symm (by assumption)) ?_)) (by repeat (first | with_reducible assumption | with_reducible exact upd_same | with_reducible refine upd_other (by first | assumption | exact Ne.symm (by assumption)) ?_)) (Nat.le_of_ble_eq_true (by with_unfolding_all rfl)) ?_
  refine Ws_asga ?_
  refine We_L (by walk_at "v") ?_
  refine We_L (by walk_at "v") ?_
  refine W_set O (x := x) (d := d) K.n.k_Lambda K.n.o_Lambda_body (by repeat (first | with_reducible assumption | with_reducible exact upd_same | with_reducible refine upd_other (by first | assumption | exact Ne.symm (by assumption)) ?_)) (by repeat (first | with_reducible assumption | with_reducible exact upd_same | with_reducible refine upd_other (by first | assumption | exact Ne.symm (by assumption)) ?_)) (Nat.le_of_ble_eq_true (by with_unfolding_all rfl)) ?_
  refine Wt.frz (Frz.one (a := d) upd_same) ?_
  refine Ws_nil ?_
  refine ⟨rfl, q x d _ ?_ hx hd ?_ ?_⟩
  · refine Ext.mut ?_ hd; refine Ext.mut ?_ hd; refine Ext.mut ?_ hd; refine Ext.mut ?_ hd; refine Ext.mut ?_ hd; exact Ext.mut (Ext.new hd) hx
  · repeat (first | with_reducible assumption | with_reducible exact upd_same | with_reducible refine upd_other (by first | assumption | exact Ne.symm (by assumption)) ?_)
  · exact upd_same

theorem new_Call (O : G.Ok) (K : KF G a) {n : Nat} (R : Rm A (n + 2)) {v0 : Value} {v1 : Value} {Q : Value → St → Prop}
    (q : ∀ x d H', Ext σ.H H' → σ.H x = none → σ.H d = none → H' x = some (.inst a.cCall d) → H' d = some (.attrs true [("operator", v0), ("operands", v1)]) → Q (.ref x) ⟨σ.m, H'⟩) : Wcall G A L (.ref a.cCall) [v0, v1] Q σ := by
  refine Wcall_new O K.n.k_Call.made K.n.k_Call.init K.n.k_Call.fni.isFn ?_
  intro x d hx hd hxd hxL hdL us hus
  refine Wc_fun O K.n.k_Call.fni (R.make (n := n + 1)).room ["self", "operator", "operands"] (bd3 fun _ _ _ _ _ _ _ _ _ _ => rfl) (by rfl) (by rfl) (by rfl) (by rfl) (by rfl) ?_
  intro L' qual cdv hL' 
  refine Ws_asga ?_
  refine We_L (by walk_at "v") ?_
  refine We_L (by walk_at "v") ?_
  refine W_set O (x := x) (d := d) K.n.k_Call K.n.o_Call_operator (by repeat (first | with_reducible assumption | with_reducible exact upd_same | with_reducible refine upd_other (by first | assumption | exact Ne.symm (by assumption)) ?_)) (by repeat (first | with_reducible assumption | with_reducible exact upd_same | with_reducible refine upd_other (by first | assumption | exact Ne.symm (by assumption)) ?_)) (Nat.le_of_ble_eq_true (by with_unfolding_all rfl)) ?_
  refine Ws_asga ?_
  refine We_L (by walk_at "v") ?_
  refine We_L (by walk_at "v") ?_
  refine W_set O (x := x) (d := d) K.n.k_Call K.n.o_Call_operands (by repeat (first | with_reducible assumption | with_reducible exact upd_same | with_reducible refine upd_other (by first | assumption | exact Ne.symm (by assumption)) ?_)) (by repeat (first | with_reducible assumption | with_reducible exact upd_same | with_reducible refine upd_other (by first | assumption | exact Ne.symm (by assumption)) ?_)) (Nat.le_of_ble_eq_true (by with_unfolding_all rfl)) ?_
  refine Wt.frz (Frz.one (a := d) upd_same) ?_
  refine Ws_nil ?_
  refine ⟨rfl, q x d _ ?_ hx hd ?_ ?_⟩
  · refine Ext.mut ?_ hd; refine Ext.mut ?_ hd; refine Ext.mut ?_ hd; exact Ext.mut (Ext.new hd) hx
  · repeat (first | with_reducible assumption | with_reducible exact upd_same | with_reducible refine upd_other (by first | assumption | exact Ne.symm (by assumption)) ?_)
  · exact upd_same

theorem new_Spreading (O : G.Ok) (K : KF G a) {n : Nat} (R : Rm A (n + 2)) {v0 : Value} {v1 : Value} {v2 : Value} {Q : Value → St → Prop}
    (q : ∀ x d H', Ext σ.H H' → σ.H x = none → σ.H d = none → H' x = some (.inst a.cSpreading d) → H' d = some (.attrs true [("number", v0), ("own", v1), ("world", v2)]) → Q (.ref x) ⟨σ.m, H'⟩) : Wcall G A L (.ref a.cSpreading) [v0, v1, v2] Q σ := by
  refine Wcall_new O K.o.k_Spreading.made K.o.k_Spreading.init K.o.k_Spreading.fni.isFn ?_
  intro x d hx hd hxd hxL hdL us hus
  refine Wc_fun O K.o.k_Spreading.fni (R.make (n := n + 1)).room ["self", "number", "own", "world"] (bd4 fun _ _ _ _ _ _ _ _ _ _ _ => rfl) (by rfl) (by rfl) (by rfl) (by rfl) (by rfl) ?_
  intro L' qual cdv hL' 
  refine Ws_asga ?_
  refine We_L (by walk_at "v") ?_
  refine We_L (by walk_at "v") ?_
  refine W_set O (x := x) (d := d) K.o.k_Spreading K.o.o_Spreading_number (by repeat (first | with_reducible assumption | with_reducible exact upd_same | with_reducible refine upd_other (by first | assumption | exact Ne.symm (by assumption)) ?_)) (by repeat (first | with_reducible assumption | with_reducible exact upd_same | with_reducible refine upd_other (by first | assumption | exact Ne.symm (by assumption)) ?_)) (Nat.le_of_ble_eq_true (by with_unfolding_all rfl)) ?_
  refine Ws_asga ?_
  refine We_L (by walk_at "v") ?_
  refine We_L (by walk_at "v") ?_
  refine W_set O (x := x) (d := d) K.o.k_Spreading K.o.o_Spreading_own (by repeat (first | with_reducible assumption | with_reducible exact upd_same | with_reducible refine upd_other (by first | assumption | exact Ne.symm (by assumption)) ?_)) (by repeat (first | with_reducible assumption | with_reducible exact upd_same | with_reducible refine upd_other (by first | assumption | exact Ne.symm (by assumption)) ?_)) (Nat.le_of_ble_eq_true (by with_unfolding_all rfl)) ?_
  refine Ws_asga ?_
  refine We_L (by walk_at "v") ?_
  refine We_L (by walk_at "v") ?_
  refine W_set O (x := x) (d := d) K.o.k_Spreading K.o.o_Spreading_world (by repeat (first | with_reducible assumption | with_reducible exact upd_same | with_reducible refine upd_other (by first | assumption | exact Ne.symm (by assumption)) ?_)) (by repeat (first | with_reducible assumption | with_reducible exact upd_same | with_reducible refine upd_other (by first | assumption | exact Ne.symm (by assumption)) ?_)) (Nat.le_of_ble_eq_true (by with_unfolding_all rfl)) ?_
  refine Wt.frz (Frz.one (a := d) upd_same) ?_
  refine Ws_nil ?_
  refine ⟨rfl, q x d _ ?_ hx hd ?_ ?_⟩
  · refine Ext.mut ?_ hd; refine Ext.mut ?_ hd; refine Ext.mut ?_ hd; refine Ext.mut ?_ hd; exact Ext.mut (Ext.new hd) hx
  · repeat (first | with_reducible assumption | with_reducible exact upd_same | with_reducible refine upd_other (by first | assumption | exact Ne.symm (by assumption)) ?_)
  · exact upd_same

theorem new_Small (O : G.Ok) (K : KF G a) {n : Nat} (R : Rm A (n + 2)) {v0 : Value} {v1 : Value} {Q : Value → St → Prop}
    (q : ∀ x d H', Ext σ.H H' → σ.H x = none → σ.H d = none → H' x = some (.inst a.cSmall d) → H' d = some (.attrs true [("facts", v0), ("world", v1)]) → Q (.ref x) ⟨σ.m, H'⟩) : Wcall G A L (.ref a.cSmall) [v0, v1] Q σ := by
  refine Wcall_new O K.o.k_Small.made K.o.k_Small.init K.o.k_Small.fni.isFn ?_
  intro x d hx hd hxd hxL hdL us hus
  refine Wc_fun O K.o.k_Small.fni (R.make (n := n + 1)).room ["self", "facts", "world"] (bd3 fun _ _ _ _ _ _ _ _ _ _ => rfl) (by rfl) (by rfl) (by rfl) (by rfl) (by rfl) ?_
  intro L' qual cdv hL' 
  refine Ws_asga ?_
  refine We_L (by walk_at "v") ?_
  refine We_L (by walk_at "v") ?_
  refine W_set O (x := x) (d := d) K.o.k_Small K.o.o_Small_facts (by repeat (first | with_reducible assumption | with_reducible exact upd_same | with_reducible refine upd_other (by first | assumption | exact Ne.symm (by assumption)) ?_)) (by repeat (first | with_reducible assumption | with_reducible exact upd_same | with_reducible refine upd_other (by first | assumption | exact Ne.symm (by assumption)) ?_)) (Nat.le_of_ble_eq_true (by with_unfolding_all rfl)) ?_
  refine Ws_asga ?_
  refine We_L (by walk_at "v") ?_
  refine We_L (by walk_at "v") ?_
  refine W_set O (x := x) (d := d) K.o.k_Small K.o.o_Small_world (by repeat (first | with_reducible assumption | with_reducible exact upd_same | with_reducible refine upd_other (by first | assumption | exact Ne.symm (by assumption)) ?_)) (by repeat (first | with_reducible assumption | with_reducible exact upd_same | with_reducible refine upd_other (by first | assumption | exact Ne.symm (by assumption)) ?_)) (Nat.le_of_ble_eq_true (by with_unfolding_all rfl)) ?_
  refine Wt.frz (Frz.one (a := d) upd_same) ?_
  refine Ws_nil ?_
  refine ⟨rfl, q x d _ ?_ hx hd ?_ ?_⟩
  · refine Ext.mut ?_ hd; refine Ext.mut ?_ hd; refine Ext.mut ?_ hd; exact Ext.mut (Ext.new hd) hx
  · repeat (first | with_reducible assumption | with_reducible exact upd_same | with_reducible refine upd_other (by first | assumption | exact Ne.symm (by assumption)) ?_)
  · exact upd_same


end -- MC3

section -- MC4
set_option maxRecDepth 20000
variable {G : Gl} {a : KA} {A : Around} {env : Env} {σ : St} {L : Addr}


/-- the kind of a node -/
theorem W_kindT (O : G.Ok) (K : KF G a) {t : T} {x : Addr} (hr : Rep a σ.H t x) {ex : Bool} {Q : Value → St → Prop} (q : Q (.int t.kind 0) σ) : Wv G A L er (fun u => getAttr u "kind" ex) (.ref x) Q σ := by
  cases t
  · refine x1_2 hr ?_; (try clear hr); intro d h1 h2; exact W_kind O K.n.k_Const K.n.kind_Const h1 h2 (by with_unfolding_all rfl) q
  · refine x1_2 hr ?_; (try clear hr); intro d h1 h2; exact W_kind O K.n.k_Local K.n.kind_Local h1 h2 (by with_unfolding_all rfl) q
  · refine x1_2 hr ?_; (try clear hr); intro d h1 h2; exact W_kind O K.n.k_Global K.n.kind_Global h1 h2 (by with_unfolding_all rfl) q
  · refine x3_3 hr ?_; (try clear hr); intro d pl y h1 h2 _; exact W_kind O K.n.k_Lambda K.n.kind_Lambda h1 h2 (by with_unfolding_all rfl) q
  · refine x4_3 hr ?_; (try clear hr); intro d y ol z h1 h2 _; exact W_kind O K.n.k_Call K.n.kind_Call h1 h2 (by with_unfolding_all rfl) q
  · refine x5_3 hr ?_; (try clear hr); intro d y ol z w h1 h2 _; exact W_kind O K.n.k_Call K.n.kind_Call h1 h2 (by with_unfolding_all rfl) q
theorem Wb_kind (O : G.Ok) (K : KF G a) {t : T} {x : Addr} (hr : Rep a σ.H t x) {n c : Str} {p1 p2 p3 pos : Pos} {k : Int} (e : ∃ t, nsIn G.K mainGlobals c = some (some (.int k t))) (hv : σ.m n = some (.ref x)) {Q : Bool → St → Prop} (q : Q (t.kind == k) σ) (hs : locOk env n = true := by with_unfolding_all exact Eq.refl true) (hs2 : glOk env c = true := by with_unfolding_all exact Eq.refl true) : Wb G A env (.Compare (.Attribute (.Name n p1) "kind" p2) [.Eq] [.Name c p3] pos) Q σ := by
  refine Wb_Compare ?_
  refine We_at ?_
  refine We_L hv ?_ hs
  refine W_kindT O K hr ?_
  refine We_GI O e ?_ hs2
  refine W_eq ?_
  exact W_truthy_bool q
theorem Wb_isin (O : G.Ok) (nb : nsIn G.K mainGlobals "isinstance" = some none) {n c : Str} {x C : Addr} {p0 p1 p2 pos : Pos} (hv : σ.m n = some (.ref x)) (e : nsIn G.K mainGlobals c = some (some (.ref C))) {b : Bool} {Q : Bool → St → Prop}
    (h : ∀ Q' : Value → St → Prop, Q' (.bool b) σ → Wcall G A env.locals (.builtin "isinstance") [.ref x, .ref C] Q' σ) (q : Q b σ) (hb : blOk env "isinstance" = true := by with_unfolding_all exact Eq.refl true) (hs : locOk env n = true := by with_unfolding_all exact Eq.refl true) (hs2 : glOk env c = true := by with_unfolding_all exact Eq.refl true) : Wb G A env (.Call (.Name "isinstance" p0) [.Name n p1, .Name c p2] [] pos) Q σ := by
  refine Wb_value ?_
  refine We_callB O nb bb_isinstance ?_ hb
  refine Wargs_l hv ?_ hs
  refine Wargs_c ?_
  refine We_G O e ?_ hs2
  refine Wargs_nil ?_
  refine h _ ?_
  exact W_truthy_bool q

theorem node_parts (O : G.Ok) (K : KF G a) {n : Nat} (R : Rm A (n + 1)) {H : Hp} {x : Addr} {Q : Value → Hp → Prop}
    (q : ∀ l H', Ext H H' → H l = none → H' l = some (.list false []) → Q (.ref l) H') : Wc G A (.ref a.fNode_parts) [.ref x] Q H := by
  refine Wc_fun O K.m.m_Node_parts R.room ["self"] (bd1 fun _ _ _ _ _ _ _ _ => rfl) (by rfl) (by rfl) (by rfl) (by rfl) (by rfl) ?_
  intro L qual cdv hL
  refine Ws_ret ?_
  refine We_List ?_
  refine Wargs_nil ?_
  exact ⟨Nat.zero_le _, fun l hl hlL => q l _ (Ext.new hl) hl upd_same⟩

theorem lambda_parts (O : G.Ok) (K : KF G a) {n : Nat} (R : Rm A (n + 1)) {H : Hp} {x d y : Addr} {v1 v2 v3 : Value} (h1 : H x = some (.inst a.cLambda d)) (h2 : H d = some (.attrs true [("label", v1), ("params", v2), ("rest", v3), ("body", .ref y)])) {Q : Value → Hp → Prop}
    (q : ∀ r H', Ext H H' → H r = none → H' r = some (.list false [.ref y]) → Q (.ref r) H') : Wc G A (.ref a.fLambda_parts) [.ref x] Q H := by
  refine Wc_fun O K.m.m_Lambda_parts R.room ["self"] (bd1 fun _ _ _ _ _ _ _ _ => rfl) (by rfl) (by rfl) (by rfl) (by rfl) (by rfl) ?_
  intro L qual cdv hL
  refine Ws_ret ?_
  refine We_List ?_
  refine Wargs_c ?_
  refine We_own O K.n.k_Lambda K.n.o_Lambda_body h1 h2 (by with_unfolding_all exact Eq.refl (some _)) (by walk_at "v") ?_
  refine Wargs_nil ?_
  exact ⟨Nat.le_add_left .., fun l hl hlL => q l _ (Ext.new hl) hl upd_same⟩

theorem call_parts (O : G.Ok) (K : KF G a) {n : Nat} (R : Rm A (n + 1)) {H : Hp} {x d y ol : Addr} {z : Bool} {vs : List Value} (h1 : H x = some (.inst a.cCall d)) (h2 : H d = some (.attrs true [("operator", .ref y), ("operands", .ref ol)])) (h3 : H ol = some (.list z vs)) (hz : vs.length ≤ 1000)
    {Q : Value → Hp → Prop}
    (q : ∀ r H', Ext H H' → H r = none → H' r = some (.list false (.ref y :: vs)) → Q (.ref r) H') : Wc G A (.ref a.fCall_parts) [.ref x] Q H := by
  refine Wc_fun O K.m.m_Call_parts R.room ["self"] (bd1 fun _ _ _ _ _ _ _ _ => rfl) (by rfl) (by rfl) (by rfl) (by rfl) (by rfl) ?_
  intro L qual cdv hL
  refine Ws_ret ?_
  refine We_BinOp ?_
  refine We_List ?_
  refine Wargs_c ?_
  refine We_own O K.n.k_Call K.n.o_Call_operator h1 h2 (by with_unfolding_all exact Eq.refl (some _)) (by walk_at "v") ?_
  refine Wargs_nil ?_
  refine ⟨Nat.le_add_left .., fun l hl hlL => ?_⟩
  have hE : Ext H (upd H l (.list false [.ref y])) := Ext.new hl
  refine We_own O K.n.k_Call K.n.o_Call_operands (hE _ _ h1) (hE _ _ h2) (by with_unfolding_all exact Eq.refl (some _)) (by walk_at "v") ?_
  refine W_addList upd_same (hE _ _ h3) (by simp; lia) ?_
  intro r hr' hrL
  exact q r _ (hE.trans (Ext.new hr')) (hE.none hr') upd_same

theorem W_parts (O : G.Ok) (K : KF G a) {n : Nat} (R : Rm A (n + 1)) {H₀ : Hp} (hle : Le H₀ σ.H) {t : T} {x : Addr} (hr : Rep a H₀ t x) {pl : Sem Bool} {pos : Pos} {Q : Value → St → Prop}
    (q : ∀ l vs H', Ext σ.H H' → σ.H l = none → H' l = some (.list false vs) → Reps a H₀ t.kids vs → (∀ ts H1, Le H₀ H1 → Reps a H1 ts vs → Rep a H1 (t.withK ts) x) → Q (.ref l) ⟨σ.m, H'⟩) :
    ∀ u, er u = .ref x → Wt G A env.locals (fun p => (er p.1, p.2.map er)) (getMethod u "parts" pl) (fun fx σ₂ => ∀ p : Value × List Value, (er p.1, p.2.map er) = fx → Wt G A env.locals er (callWith pos p.1 p.2 (backTo pos (starEach [] env)) []) Q σ₂) σ := by
  have hr0 := hr
  cases t
  · refine x1_2 hr ?_; (try clear hr); intro d h1 h2
    exact W_mcall0 O K.n.k_Const K.m.m_Node_parts K.m.a_Const_parts (hle _ _ rfl h1) (hle _ _ rfl h2) (by with_unfolding_all rfl) (node_parts O K R fun l H' h3 h4 h5 => q l _ H' h3 h4 h5 .nil fun ts H1 hl _ => hr0.mono hl)
  · refine x1_2 hr ?_; (try clear hr); intro d h1 h2
    exact W_mcall0 O K.n.k_Local K.m.m_Node_parts K.m.a_Local_parts (hle _ _ rfl h1) (hle _ _ rfl h2) (by with_unfolding_all rfl) (node_parts O K R fun l H' h3 h4 h5 => q l _ H' h3 h4 h5 .nil fun ts H1 hl _ => hr0.mono hl)
  · refine x1_2 hr ?_; (try clear hr); intro d h1 h2
    exact W_mcall0 O K.n.k_Global K.m.m_Node_parts K.m.a_Global_parts (hle _ _ rfl h1) (hle _ _ rfl h2) (by with_unfolding_all rfl) (node_parts O K R fun l H' h3 h4 h5 => q l _ H' h3 h4 h5 .nil fun ts H1 hl _ => hr0.mono hl)
  · refine x3_4 hr ?_; (try clear hr); intro d pl y h1 h2 h3 h4
    exact W_mcall0 O K.n.k_Lambda K.m.m_Lambda_parts K.m.a_Lambda_parts (hle _ _ rfl h1) (hle _ _ rfl h2) (by with_unfolding_all rfl) (lambda_parts O K R (hle _ _ rfl h1) (hle _ _ rfl h2) fun l H' g3 g4 g5 => q l _ H' g3 g4 g5 (.one h4) fun ts H1 hl r => by
      rcases r with _ | @⟨_, _, _, _, r1, r2⟩
      cases r2
      exact ⟨d, pl, y, hl _ _ rfl h1, hl _ _ rfl h2, hl _ _ rfl h3, r1⟩)
  · refine x4_5 hr ?_; (try clear hr); intro d y ol z h1 h2 h3 h4 h5
    exact W_mcall0 O K.n.k_Call K.m.m_Call_parts K.m.a_Call_parts (hle _ _ rfl h1) (hle _ _ rfl h2) (by with_unfolding_all rfl) (call_parts O K R (hle _ _ rfl h1) (hle _ _ rfl h2) (hle _ _ rfl h3) (Nat.le_of_ble_eq_true rfl) fun l H' g3 g4 g5 => q l _ H' g3 g4 g5 (.cons h4 (.one h5)) fun ts H1 hl r => by
      rcases r with _ | @⟨_, _, _, _, r1, r2⟩
      rcases r2 with _ | @⟨_, _, _, _, r2, r3⟩
      cases r3
      exact ⟨d, y, ol, z, hl _ _ rfl h1, hl _ _ rfl h2, hl _ _ rfl h3, r1, r2⟩)
  · refine x5_6 hr ?_; (try clear hr); intro d y ol z w h1 h2 h3 h4 h5 h6
    exact W_mcall0 O K.n.k_Call K.m.m_Call_parts K.m.a_Call_parts (hle _ _ rfl h1) (hle _ _ rfl h2) (by with_unfolding_all rfl) (call_parts O K R (hle _ _ rfl h1) (hle _ _ rfl h2) (hle _ _ rfl h3) (Nat.le_of_ble_eq_true rfl) fun l H' g3 g4 g5 => q l _ H' g3 g4 g5 (.cons h4 (.cons h5 (.one h6))) fun ts H1 hl r => by
      rcases r with _ | @⟨_, _, _, _, r1, r2⟩
      rcases r2 with _ | @⟨_, _, _, _, r2, r3⟩
      rcases r3 with _ | @⟨_, _, _, _, r3, r4⟩
      cases r4
      exact ⟨d, y, ol, z, w, hl _ _ rfl h1, hl _ _ rfl h2, hl _ _ rfl h3, r1, r2, r3⟩)

/-- here.parts()[::-1] -/
inductive AnJ (a : KA) (H : Hp) (fl wl : Addr) (t : T) (k : Nat) (σ : St) : Prop
  | mk (D S : List T) (dv sv : List Value) (hk : k = (S.map T.size).sum) (m1 : σ.m "found" = some (.ref fl)) (m2 : σ.m "waiting" = some (.ref wl)) (hE : Ext H σ.H) (hf : σ.H fl = some (.list false dv)) (hw : σ.H wl = some (.list false sv.reverse)) (hD : Reps a H D dv) (hS : Reps a H S sv) (hDS : D ++ S.flatMap T.nodes = t.nodes)
inductive AnK (H : Hp) (fl wl ql : Addr) (dv sv vs : List Value) (i : Nat) (σ' : St) : Prop
  | mk (g1 : σ'.m "found" = some (.ref fl)) (g2 : σ'.m "waiting" = some (.ref wl)) (g3 : Ext H σ'.H) (g4 : σ'.H fl = some (.list false dv)) (g5 : σ'.H ql = some (.list false vs)) (g6 : σ'.H wl = some (.list false (sv ++ vs.take i)))
theorem all_nodes (O : G.Ok) (K : KF G a) {n : Nat} (R : Rm A (n + 2)) {H : Hp} {t : T} {x : Addr} (hr : Rep a H t x) (hz : t.size ≤ 1000) {Q : Value → Hp → Prop}
    (q : ∀ r vs H', Ext H H' → H r = none → H' r = some (.list false vs) → Reps a H t.nodes vs → Q (.ref r) H') : Wc G A (.ref a.f_all_nodes) [.ref x] Q H := by
  refine Wc_fun O K.d.d_all_nodes.fn R.room ["node"] (bd1 fun _ _ _ _ _ _ _ _ => rfl) (by rfl) (by rfl) (by rfl) (by rfl) (by rfl) ?_
  intro L qual cdv hL
  refine Ws_asg ?_
  refine We_List ?_
  refine Wargs_nil ?_
  refine ⟨Nat.zero_le _, fun fl hfl hflL => ?_⟩
  have hE1 : Ext H (upd H fl (.list false [])) := Ext.new hfl
  try dsimp only
  refine Ws_asg ?_
  refine We_List ?_
  refine Wargs_l (by walk_at "v") ?_
  refine Wargs_nil ?_
  refine ⟨Nat.le_add_left .., fun wl hwl hwlL => ?_⟩
  have hwl0 : H wl = none := hE1.none hwl
  have hne : wl ≠ fl := Ne.symm (ne_new hwl upd_same)
  try dsimp only
  refine Ws_cons ?_
  refine Wst_While (AnJ a H fl wl t) t.size ?_ ?_
  · refine ⟨[], [t], [], [.ref x], by simp, by walk_at "v", by walk_at "v", hE1.trans (Ext.new hwl), (upd_ne (Ne.symm hne)).trans upd_same, upd_same, .nil, .one hr, by simp⟩
  intro k σ hq1
  obtain ⟨D, S, dv, sv, rfl, hm1, hm2, hE, hf, hw, hD, hS, hDS⟩ := hq1
  have hlen : D.length + (S.map T.size).sum = t.size := by
    have := congrArg List.length hDS
    rw [List.length_append, T.length_nodes, List.length_flatMap] at this
    rw [← this]
    congr 2
    exact List.map_congr_left fun t _ => (T.length_nodes t).symm
  have hSl : S.length ≤ (S.map T.size).sum := by
    clear hlen hDS hS hw
    induction S with
    | nil => exact Nat.le_refl _
    | cons s S ih => simp only [List.length_cons, List.map_cons, List.sum_cons]; have := s.size_pos; lia
  have hsv := hS.length
  have hdv := hD.length
  refine Wb_Compare ?_
  refine We_callB O K.c.nb_len bb_len ?_
  refine Wargs_l (by walk_at "v") ?_
  refine Wargs_nil ?_
  refine W_len_list hw (by rw [List.length_reverse]; lia) ?_
  refine We_Int ?_
  refine W_gt ?_
  refine W_truthy_bool ?_
  refine ifs (fun _ => ?_) (fun _ => ?_)
  · rename_i hgt
    cases S with
    | nil => cases hS; simp at hgt
    | cons t0 S =>
      cases hS with
      | @cons _ y _ sv h0 hS =>
      rw [List.reverse_cons] at hw
      refine Ws_asg ?_
      refine We_MethodCall ?_
      refine We_L (by walk_at "v") ?_
      refine W_mpop hw (by rw [List.length_reverse]; rw [List.length_cons, List.length_cons] at hsv; rw [List.length_cons] at hSl; lia) ?_
      have hfw : fl ≠ wl := Ne.symm hne
      have hE2 : Ext H (upd σ.H wl (.list false sv.reverse)) := hE.mut hwl0
      have hf2 : upd σ.H wl (.list false sv.reverse) fl = some (.list false dv) := (upd_ne hfw).trans hf
      try dsimp only
      refine Ws_cons ?_
      refine Wst_Expr ?_
      refine We_MethodCall ?_
      refine We_L (by walk_at "v") ?_
      refine W_mappend hf2 ?_
      refine We_L (by walk_at "v") ?_
      refine ⟨_, hf2, by lia, (fun _ h => by cases h), ?_⟩
      have hE3 : Ext H (upd (upd σ.H wl (.list false sv.reverse)) fl (.list false (dv ++ [.ref y]))) := hE2.mut hfl
      generalize hH3 : upd (upd σ.H wl (.list false sv.reverse)) fl (.list false (dv ++ [.ref y])) = H3 at hE3
      have hf3 : H3 fl = some (.list false (dv ++ [.ref y])) := by rw [← hH3]; exact upd_same
      have hw3 : H3 wl = some (.list false sv.reverse) := by rw [← hH3, upd_ne hne]; exact upd_same
      try dsimp only
      refine Ws_cons ?_
      refine Wst_For_list R.hd ?_
      refine W_slice_rev ?_
      refine We_MethodCall ?_
      refine We_L (by walk_at "v") ?_
      refine W_parts O K R.deeper (H₀ := H) hE3.le h0 ?_
      intro pl vs H4 hE4 hpl0 hpl hk _
      refine We_Unary ?_
      refine We_Int ?_
      refine W_neg ?_
      refine ⟨pl, false, vs, rfl, rfl, hpl, ?_, fun ql hql hqlL => ?_⟩
      · rw [hk.length]; cases t0 <;> simp [T.kids]
      have hqE : Ext H4 (upd H4 ql (.list false vs.reverse)) := Ext.new hql
      have hql0 : H3 ql = none := hE4.none hql
      have hqw : wl ≠ ql := fun e => by rw [e, hql0] at hw3; cases hw3
      have hqf : fl ≠ ql := fun e => by rw [e, hql0] at hf3; cases hf3
      refine ⟨ql, vs.reverse, AnK H fl wl ql (dv ++ [.ref y]) sv.reverse vs.reverse, rfl, ?_⟩
      have hkl : vs.length ≤ 3 := by rw [hk.length]; cases t0 <;> simp [T.kids]
      refine ⟨⟨by walk_at "v", by walk_at "v", hE3.trans (hE4.trans hqE), ?_, upd_same, ?_⟩, fun i σ' ⟨_, _, _, _, g5, _⟩ => ⟨_, g5⟩, ?_, ?_⟩
      · exact hqE _ _ (hE4 _ _ hf3)
      · rw [List.take_zero, List.append_nil]; exact hqE _ _ (hE4 _ _ hw3)
      · intro i v σ' hv hq2
        obtain ⟨g1, g2, g3, g4, g5, g6⟩ := hq2
        intro u hu
        refine W_nm hu ?_
        refine Ws_cons ?_
        refine Wst_Expr ?_
        refine We_MethodCall ?_
        refine We_L (by walk_at "v") ?_
        refine W_mappend g6 ?_
        refine We_L (by walk_at "v") ?_
        refine ⟨_, g6, ?_, (fun _ h => by cases h), ?_⟩
        · rw [List.length_append, List.length_reverse, List.length_take, List.length_reverse]; rw [List.length_cons, List.length_cons] at hsv; rw [List.length_cons] at hSl; lia
        refine Ws_nil ?_
        refine ⟨by walk_at "v", by walk_at "v", g3.mut hwl0, ?_, ?_, ?_⟩
        · exact (upd_ne (Ne.symm hne)).trans g4
        · exact (upd_ne (Ne.symm hqw)).trans g5
        · refine upd_same.trans ?_
          rw [List.take_add_one, hv, List.append_assoc]
          rfl
      · intro σ' hq3
        obtain ⟨g1, g2, g3, g4, g5, g6⟩ := hq3
        refine Ws_nil ?_
        rw [List.take_of_length_le (Nat.le_refl _)] at g6
        refine ⟨_, ?_, D ++ [t0], t0.kids ++ S, dv ++ [.ref y], vs ++ sv, rfl, g1, g2, g3, g4, by rw [g6, List.reverse_append], hD.append (.one h0), ?_, ?_⟩
        · rw [List.map_append, List.sum_append, List.map_cons, List.sum_cons, t0.size_kids]; lia
        · exact Reps.append hk hS
        · rw [← hDS, List.append_assoc, List.flatMap_cons, t0.nodes_kids]
          simp
  · rename_i hgt
    have hs0 : S = [] := by
      cases S with
      | nil => rfl
      | cons t0 S => exfalso; apply hgt; simp at hsv; rw [List.length_reverse]; simp; lia
    subst hs0
    cases hS
    refine Ws_ret ?_
    refine We_L (by walk_at "v") ?_
    refine q fl dv _ hE hfl hf ?_
    rw [List.flatMap_nil, List.append_nil] at hDS
    rw [← hDS]; exact hD

end -- MC4

section -- MT2

section
variable {S : Type} (f : T → S → T × S) (P : T → S → Prop)
/-- from the leaves up -/
noncomputable def reb : T → S → T × S
  | .lam l p b, s => f (.lam l p (reb b s).1) (reb b s).2
  | .call1 g x, s => f (.call1 (reb g s).1 (reb x (reb g s).2).1) (reb x (reb g s).2).2
  | .call2 g x y, s => f (.call2 (reb g s).1 (reb x (reb g s).2).1 (reb y (reb x (reb g s).2).2).1) (reb y (reb x (reb g s).2).2).2
  | .con i, s => f (.con i) s
  | .loc n, s => f (.loc n) s
  | .glob, s => f .glob s
noncomputable def rok : T → S → Prop
  | .lam l p b, s => rok b s ∧ P (.lam l p (reb f b s).1) (reb f b s).2
  | .call1 g x, s => rok g s ∧ rok x (reb f g s).2 ∧ P (.call1 (reb f g s).1 (reb f x (reb f g s).2).1) (reb f x (reb f g s).2).2
  | .call2 g x y, s => rok g s ∧ rok x (reb f g s).2 ∧ rok y (reb f x (reb f g s).2).2 ∧ P (.call2 (reb f g s).1 (reb f x (reb f g s).2).1 (reb f y (reb f x (reb f g s).2).2).1) (reb f y (reb f x (reb f g s).2).2).2
  | .con i, s => P (.con i) s
  | .loc n, s => P (.loc n) s
  | .glob, s => P .glob s
/-- what is left of the work -/
noncomputable def fin : List (T × Bool) → List T → S → List T × S
  | [], dn, s => (dn, s)
  | (t, false) :: ws, dn, s => fin ws (dn ++ [(reb f t s).1]) (reb f t s).2
  | (t, true) :: ws, dn, s => fin ws (dn.take (dn.length - t.kids.length) ++ [(f (t.withK (dn.drop (dn.length - t.kids.length))) s).1]) (f (t.withK (dn.drop (dn.length - t.kids.length))) s).2
noncomputable def fok : List (T × Bool) → List T → S → Prop
  | [], dn, s => True
  | (t, false) :: ws, dn, s => rok f P t s ∧ fok ws (dn ++ [(reb f t s).1]) (reb f t s).2
  | (t, true) :: ws, dn, s => (t.kids ≠ [] ∧ t.kids.length ≤ dn.length ∧ P (t.withK (dn.drop (dn.length - t.kids.length))) s) ∧
      fok ws (dn.take (dn.length - t.kids.length) ++ [(f (t.withK (dn.drop (dn.length - t.kids.length))) s).1]) (f (t.withK (dn.drop (dn.length - t.kids.length))) s).2

variable {f P}
theorem reb_lam {l p : Int} {b : T} {s : S} : reb f (.lam l p b) s = f (.lam l p (reb f b s).1) (reb f b s).2 := rfl
theorem reb_call1 {g x : T} {s : S} : reb f (.call1 g x) s = f (.call1 (reb f g s).1 (reb f x (reb f g s).2).1) (reb f x (reb f g s).2).2 := rfl
theorem reb_call2 {g x y : T} {s : S} : reb f (.call2 g x y) s = f (.call2 (reb f g s).1 (reb f x (reb f g s).2).1 (reb f y (reb f x (reb f g s).2).2).1) (reb f y (reb f x (reb f g s).2).2).2 := rfl
theorem rok_lam {l p : Int} {b : T} {s : S} : rok f P (.lam l p b) s = (rok f P b s ∧ P (.lam l p (reb f b s).1) (reb f b s).2) := rfl
theorem rok_call1 {g x : T} {s : S} : rok f P (.call1 g x) s = (rok f P g s ∧ rok f P x (reb f g s).2 ∧ P (.call1 (reb f g s).1 (reb f x (reb f g s).2).1) (reb f x (reb f g s).2).2) := rfl
theorem rok_call2 {g x y : T} {s : S} : rok f P (.call2 g x y) s = (rok f P g s ∧ rok f P x (reb f g s).2 ∧ rok f P y (reb f x (reb f g s).2).2 ∧ P (.call2 (reb f g s).1 (reb f x (reb f g s).2).1 (reb f y (reb f x (reb f g s).2).2).1) (reb f y (reb f x (reb f g s).2).2).2) := rfl
theorem fin_f {t : T} {ws : List (T × Bool)} {dn : List T} {s : S} : fin f ((t, false) :: ws) dn s = fin f ws (dn ++ [(reb f t s).1]) (reb f t s).2 := rfl
theorem fin_t {t : T} {ws : List (T × Bool)} {dn : List T} {s : S} : fin f ((t, true) :: ws) dn s = fin f ws (dn.take (dn.length - t.kids.length) ++ [(f (t.withK (dn.drop (dn.length - t.kids.length))) s).1]) (f (t.withK (dn.drop (dn.length - t.kids.length))) s).2 := rfl
theorem fok_f {t : T} {ws : List (T × Bool)} {dn : List T} {s : S} : fok f P ((t, false) :: ws) dn s = (rok f P t s ∧ fok f P ws (dn ++ [(reb f t s).1]) (reb f t s).2) := rfl
theorem fok_t {t : T} {ws : List (T × Bool)} {dn : List T} {s : S} : fok f P ((t, true) :: ws) dn s = ((t.kids ≠ [] ∧ t.kids.length ≤ dn.length ∧ P (t.withK (dn.drop (dn.length - t.kids.length))) s) ∧
      fok f P ws (dn.take (dn.length - t.kids.length) ++ [(f (t.withK (dn.drop (dn.length - t.kids.length))) s).1]) (f (t.withK (dn.drop (dn.length - t.kids.length))) s).2) := rfl
theorem withK1 {l p : Int} {b x : T} : (T.lam l p b).withK [x] = .lam l p x := rfl
theorem withK2 {b c x y : T} : (T.call1 b c).withK [x, y] = .call1 x y := rfl
theorem withK3 {b c d x y z : T} : (T.call2 b c d).withK [x, y, z] = .call2 x y z := rfl
theorem fin_kids {t : T} (h : t.kids ≠ []) (ws : List (T × Bool)) (dn : List T) (s : S) : fin f (t.kids.map (fun k => (k, false)) ++ (t, true) :: ws) dn s = fin f ((t, false) :: ws) dn s := by
  cases t <;> simp [T.kids] at h <;> simp [T.kids, fin_f, fin_t, reb_lam, reb_call1, reb_call2, withK1, withK2, withK3]
theorem fok_kids {t : T} (h : t.kids ≠ []) (ws : List (T × Bool)) (dn : List T) (s : S) (hk : fok f P ((t, false) :: ws) dn s) : fok f P (t.kids.map (fun k => (k, false)) ++ (t, true) :: ws) dn s := by
  cases t <;> simp [T.kids] at h <;> simp [fok_f, rok_lam, rok_call1, rok_call2, reb_lam, reb_call1, reb_call2] at hk <;> simp [T.kids, fok_f, fok_t, withK1, withK2, withK3]
  · refine x0_2 hk ?_; (try clear hk); intro hq1 h3
    refine x0_2 hq1 ?_; (try clear hq1); intro h1 h2; exact ⟨h1, h2, h3⟩
  · refine x0_2 hk ?_; (try clear hk); intro hq2 h4
    refine x0_3 hq2 ?_; (try clear hq2); intro h1 h2 h3; exact ⟨h1, h2, h3, h4⟩
  · refine x0_2 hk ?_; (try clear hk); intro hq3 h4
    refine x0_4 hq3 ?_; (try clear hq3); intro h1 h2 h3 h5; exact ⟨h1, h2, h3, h5, h4⟩
theorem reb_leaf {t : T} (h : t.kids = []) (s : S) : reb f t s = f t s := by cases t <;> simp [T.kids] at h <;> rfl
theorem rok_leaf {t : T} (h : t.kids = []) (s : S) (hk : rok f P t s) : P t s := by cases t <;> simp [T.kids] at h <;> exact hk
end

noncomputable def wgt : List (T × Bool) → Nat
  | [] => 0
  | (t, false) :: ws => 2 * t.size + wgt ws
  | (_, true) :: ws => 1 + wgt ws
theorem wgt_kids (ks : List T) (ws : List (T × Bool)) : wgt (ks.map (fun k => (k, false)) ++ ws) = 2 * (ks.map T.size).sum + wgt ws := by
  induction ks with
  | nil => simp
  | cons k ks ih => simp [wgt, ih]; lia
theorem length_wgt (ws : List (T × Bool)) : ws.length ≤ wgt ws := by
  induction ws with
  | nil => exact Nat.le_refl _
  | cons w ws ih =>
    obtain ⟨t, b⟩ := w
    cases b
    · simp only [wgt, List.length_cons]; have := t.size_pos; lia
    · simp only [wgt, List.length_cons]; lia

/-- the work on the list of what waits -/
inductive Wrk (a : KA) (H : Hp) : List (T × Bool) → List Value → Prop
  | nil : Wrk a H [] []
  | cons {t : T} {b : Bool} {tp x : Addr} {ws : List (T × Bool)} {vs : List Value} : H tp = some (.tuple [.ref x, .bool b]) → Rep a H t x → Wrk a H ws vs → Wrk a H ((t, b) :: ws) (.ref tp :: vs)
theorem Wrk.mono {a : KA} {H H' : Hp} (h : Le H H') {ws : List (T × Bool)} {vs : List Value} (r : Wrk a H ws vs) : Wrk a H' ws vs := by
  induction r with
  | nil => exact .nil
  | cons h1 h2 _ ih => exact .cons (h _ _ rfl h1) (h2.mono h) ih
theorem Wrk.length {a : KA} {H : Hp} {ws : List (T × Bool)} {vs : List Value} (r : Wrk a H ws vs) : vs.length = ws.length := by
  induction r with
  | nil => rfl
  | cons _ _ _ ih => rw [List.length_cons, List.length_cons, ih]

theorem Wrk.append {a : KA} {H : Hp} {ws ws' : List (T × Bool)} {vs vs' : List Value} (r : Wrk a H ws vs) (r' : Wrk a H ws' vs') : Wrk a H (ws ++ ws') (vs ++ vs') := by
  induction r with
  | nil => exact r'
  | cons h1 h2 _ ih => exact .cons h1 h2 ih
theorem Reps.reverse {a : KA} {H : Hp} {ts : List T} {vs : List Value} (r : Reps a H ts vs) : Reps a H ts.reverse vs.reverse := by
  induction r with
  | nil => exact .nil
  | cons h1 _ ih => rw [List.reverse_cons, List.reverse_cons]; exact ih.append (.one h1)
theorem withK_leaf {t : T} (h : t.kids = []) (ts : List T) : t.withK ts = t := by cases t <;> simp [T.kids] at h <;> rfl

section
variable {G : Gl} {A : Around} {env : Env} {σ : St} {L : Addr}
theorem Wst_IfE (E : St → Prop) {test : PySem.Expr} {body orelse : List Stmt} {pos : Pos} {Q : Flow → St → Prop} (hE : ∀ σ₁, E σ₁ → Ws G A env orelse Q σ₁)
    (h : Wb G A env test (fun b σ₁ => if b = true then Ws G A env body Q σ₁ else E σ₁) σ) : Wst G A env (.If test body orelse pos) Q σ :=
  Wst_If (h.mono fun b σ₁ q => by
    split at q
    · rename_i hb; rw [if_pos hb]; exact q
    · rename_i hb; rw [if_neg hb]; exact hE _ q)
theorem Wcall.frz {f : Value} {vs : List Value} {Q : Value → St → Prop} {H' : Hp} (z : Frz G σ.H H') (h : Wcall G A L f vs Q ⟨σ.m, H'⟩) : Wcall G A L f vs Q σ := fun us hu => Wt.frz z (h us hu)
end

end -- MT2

section -- MW9

section
variable {G : Gl} {A : Around} {env : Env} {σ : St} {L : Addr}

/-- cells -/
theorem We_Cell {x : Str} {pos : Pos} {c : Addr} {v : Value} {Q : Value → St → Prop} (hv : σ.H c = some (.cell (some v))) (h : Q v σ)
    (hc : env.cells.lookup x = some c := by with_unfolding_all rfl) (hl : env.kindOf x = some .cell := by with_unfolding_all rfl) (hk : env.scope.kind = .function := by with_unfolding_all rfl) (hd : (x == ("__debug__" : Str)) = false := by with_unfolding_all decide) : We G A env (.Name x pos) Q σ := fun s X => by
  (refine x1_3 (X.at hv) ?_; intro o ho hq1 _)
  refine x1_2 hq1 ?_; (try clear hq1); intro u hu he
  refine x1_2 (Option.map_eq_some_iff.mp he) ?_; intro w rfl rfl
  exact wpAny_Name (wpAny_loadName_cell hk hl hc ⟨o, ho, hu⟩ ⟨σ, X, Out.refl .., h⟩) hd
theorem W_store_cell {x : Str} {c : Addr} {v : Value} {o₀ : Option Value} {Q : Unit → St → Prop} (hv : σ.H c = some (.cell o₀)) (h : Q () ⟨σ.m, upd σ.H c (.cell (some (er v)))⟩)
    (hc : env.cells.lookup x = some c := by with_unfolding_all rfl) (hl : env.kindOf x = some .cell := by with_unfolding_all rfl) (hk : env.scope.kind = .function := by with_unfolding_all rfl) : Wt G A env.locals id (storeName env x v) Q σ := fun s X => by
  (refine x1_3 (X.at hv) ?_; intro o ho hq2 _)
  refine x1_2 hq2 ?_; (try clear hq2); intro u hu he
  refine wpAny_storeName_cell hk hl hc ⟨o, ho, hu⟩ fun h' hc' hs' => ?_
  refine x1_2 hc' ?_; (try clear hc'); intro o' ho' hd'
  refine x0_2 (X.turnRaw (tk := s.toks) (mo := .cell (some (er v))) hv hs' ho' ⟨_, hd', rfl⟩) ?_; intro a b
  exact ⟨_, a, b, h⟩
theorem W_assign_Cell {x : Str} {px : Pos} {c : Addr} {u : Value} {o₀ : Option Value} {Q : Unit → St → Prop} (hv : σ.H c = some (.cell o₀)) (h : Q () ⟨σ.m, upd σ.H c (.cell (some (er u)))⟩)
    (hc : env.cells.lookup x = some c := by with_unfolding_all rfl) (hl : env.kindOf x = some .cell := by with_unfolding_all rfl) (hk : env.scope.kind = .function := by with_unfolding_all rfl) : Wt G A env.locals id (assign (.Name x px) env u) Q σ := fun s X =>
  wpAny_assign_Name (W_store_cell hv h hc hl hk s X)

theorem bindL_er (k : Str → Option NameKind) : ∀ (bs : List (Str × Value)) (m m' : Str → Option Value), (∀ x v, m' x = some v → ∃ u, m x = some u ∧ er u = v) →
    ∀ x v, bindL k (bs.map fun p => (p.1, er p.2)) m' x = some v → ∃ u, bindL k bs m x = some u ∧ er u = v
  | [], m, m', h, x, v, e => h x v e
  | (n, w) :: r, m, m', h, x, v, e => by
    refine bindL_er k r _ _ ?_ x v e
    intro y z hz
    by_cases hk : k n = some .local
    · rw [if_pos hk] at hz ⊢
      by_cases hy : y = n
      · rw [if_pos hy] at hz; cases hz; exact ⟨w, if_pos hy, rfl⟩
      · rw [if_neg hy] at hz; refine x1_2 (h y z hz) ?_; intro u h1 h2; exact ⟨u, (if_neg hy).trans h1, h2⟩
    · rw [if_neg hk] at hz ⊢; exact h y z hz
theorem bindC_er (k : Str → Option NameKind) : ∀ (bs : List (Str × Value)) (m m' : Str → Option Value) (x : Str), (∀ x, (m x).map er = m' x) → (bindC k bs m x).map er = bindC k (bs.map fun p => (p.1, er p.2)) m' x
  | [], m, m', x, h => h x
  | (n, w) :: r, m, m', x, h => by
    refine bindC_er k r _ _ x fun y => ?_
    by_cases hk : k n = some .local
    · rw [if_pos hk, if_pos hk]; exact h y
    · rw [if_neg hk, if_neg hk]
      by_cases hy : y = n
      · simp [hy]
      · simp [hy, h y]
theorem zip_er (ns : List Str) (us : List Value) : (ns.zip us).map (fun p => (p.1, er p.2)) = ns.zip (us.map er) := by
  induction ns generalizing us with
  | nil => rfl
  | cons n ns ih => cases us with
    | nil => rfl
    | cons u us => simp [ih]

theorem Wc_funC (O : G.Ok) {st : Stmt} {f : Addr} {vs : List Value} {H : Hp} {Q : Value → Hp → Prop} (k : FunK G st f) (hroom : A.depth < recursionLimit) (ns : List Str) (x : Str)
    (hbind : ∀ us : List Value, us.length = vs.length → ∀ name qual doc pm an cdv ct, bindArgs (fnOf name qual (argsOf st) (bodyOf st) (scopeOf st) .none .none doc pm an cdv ct) ⟨us, []⟩ = pure (ns.zip us))
    (hcs : ∀ n, cellsFrom n (scopeOf st).names [] = [(x, n)]) (hks : ns.all (fun y => (scopeOf st).names.lookup y == some .local || ((scopeOf st).names.lookup y == some .cell && y == x)) = true)
    (hco : (scopeOf st).isCoroutine = false) (hgen : (scopeOf st).isGenerator = false) (hk : (scopeOf st).kind = .function)
    (h : ∀ L qual cdv, H L = none → H (L + 1) = none → Ws G (A.deeper (envOfC qual (scopeOf st) L f cdv)) (envOfC qual (scopeOf st) L f cdv) (bodyOf st) (fun fl σ' => Q (retOf fl) σ'.H)
      ⟨bindL (fun y => (scopeOf st).names.lookup y) (ns.zip vs) (fun _ => none), upd H (L + 1) (.cell (bindC (fun y => (scopeOf st).names.lookup y) (ns.zip vs) (fun _ => none) x))⟩) : Wc G A (.ref f) vs Q H := fun s us hu X => by
  obtain ⟨od, osl, name, qual, doc, pm, an, cdv, ct, h1, h2⟩ := k.at_
  have KX := O.kin.keeps X.keep
  refine codeAny_call_cells hroom (KX _ _ h1) rfl (O.top.nolimit.keeps X.keep) (codeRec_of KX h2) rfl (hbind us (by rw [← hu, List.length_map]) ..) rfl ?_ (fun s₁ Y => ?_) hco hgen hk
  · intro y hy
    have h3 := List.all_eq_true.mp hks y.1 (List.of_mem_zip hy).1
    rcases Bool.or_eq_true_iff.mp h3 with h4 | h4
    · exact .inl (by simpa using h4)
    · refine x0_2 (Bool.and_eq_true_iff.mp h4) ?_; intro h5 h6
      refine .inr ⟨by simpa using h5, ?_⟩
      show (List.lookup y.1 (cellsFrom _ (scopeOf st).names [])).isSome = true
      rw [hcs]
      have : y.1 = x := by simpa using h6
      simp [this, List.lookup]
  · have hL : H s.heap.objs.size = none := X.noneAt (get_ge (Nat.le_refl _))
    have hL1 : H (s.heap.objs.size + 1) = none := X.noneAt (get_ge (Nat.le_succ _))
    have hcl : (cellsFrom (s.heap.objs.size + 1) (scopeOf st).names []).lookup x = some (s.heap.objs.size + 1) := by rw [hcs]; simp [List.lookup]
    refine x1_2 (Y.cell x _ hcl) ?_; intro oc hoc hcd
    refine x2_2 Y.done ?_; intro h₁ tk rfl kp
    have F : FAbs G s.heap.objs.size ⟨bindL (fun y => (scopeOf st).names.lookup y) (ns.zip vs) (fun _ => none), upd H (s.heap.objs.size + 1) (.cell (bindC (fun y => (scopeOf st).names.lookup y) (ns.zip vs) (fun _ => none) x))⟩ { s with heap := h₁, toks := tk } := by
      refine ⟨⟨?_, fun b o e => kp b o (X.keep b o e), fun b o e => ?_⟩, (upd_ne (Nat.ne_of_lt (Nat.lt_succ_self _))).trans hL, _, ⟨Y.toInCall.ns, fun b o e => kp b o (X.keep b o e), X.sz⟩, ?_⟩
      · refine x3_2 Y.toInCall.ns ?_; intro oL _ _ hL' _
        exact Nat.le_of_lt (Nat.lt_of_le_of_lt X.sz (Heap.lt_size hL'))
      · by_cases hb : b = s.heap.objs.size + 1
        · subst hb
          cases upd_eq.symm.trans e
          refine ⟨⟨oc, hoc, _, hcd, ?_⟩, ?_⟩
          · rw [← hu, ← zip_er]; exact bindC_er _ _ _ _ _ fun _ => rfl
          · cases q : G.B.get? (s.heap.objs.size + 1) with
            | none => rfl
            | some o => exact absurd (Heap.lt_size (X.keep _ o q)) (Nat.not_lt.mpr (Nat.le_succ _))
        · refine x0_2 (X.ob b o ((upd_ne hb).symm.trans e)) ?_; intro hq3 hz
          refine x1_2 hq3 ?_; (try clear hq3); intro c hc hi
          exact ⟨⟨c, kp b c hc, hi⟩, hz⟩
      · rw [← hu, ← zip_er]
        exact bindL_er _ _ _ _ fun _ _ e => by cases e
    refine wpAny_mono (h _ qual cdv hL hL1 _ ?_) ?_ fun _ _ x => x.elim
    · exact F
    intro fl s' hq4
    refine x1_3 hq4 ?_; (try clear hq4); intro σ' x' o' q
    refine (show ∃ H', _ from ⟨σ'.H, x'.h, ⟨?_, fun b o _ hb e => ?_⟩, ?_⟩)
    · refine x2_1 o'.sh ?_; intro h' tk' e
      exact ⟨h', tk', e⟩
    · have hlt := Heap.lt_size e
      refine o'.keep b o (fun q => ?_) ((upd_ne (Nat.ne_of_lt (Nat.lt_succ_of_lt hlt))).trans hb) (kp b o e)
      have q' : b = s.heap.objs.size := Option.some.inj q
      rw [q'] at hlt
      exact Nat.lt_irrefl _ hlt
    · cases fl <;> exact q
end

end -- MW9

section -- MW10

section
variable {G : Gl} {A : Around} {env : Env} {σ : St} {L : Addr}

/-- an iterator at I: n things, each with P -/
structure Itr (G : Gl) (A : Around) (I : Addr) (n : Nat) (P : Nat → Value → Prop) (Hl : Hp → Prop) (St : Nat → Heap → Prop) : Prop where
  item : ∀ i s H (Q : Option Value → Shared → Prop), i < n → Hl H → HAbs G H s → St i s.heap → (∀ u h tk, P i (er u) → (∀ b o, b ≠ I → s.heap.get? b = some o → h.get? b = some o) → St (i + 1) h → Q (some u) { s with heap := h, toks := tk }) → wpAny (model G.prog G.w) A (pyNext (.ref I)) Q (fun _ _ => False) s
  done : ∀ s H (Q : Option Value → Shared → Prop), Hl H → HAbs G H s → St n s.heap → (∀ h tk, (∀ b o, b ≠ I → s.heap.get? b = some o → h.get? b = some o) → Q none { s with heap := h, toks := tk }) → wpAny (model G.prog G.w) A (pyNext (.ref I)) Q (fun _ _ => False) s
  self : ∀ i s (Q : Value → Shared → Prop), St i s.heap → Q (.ref I) s → wpAny (model G.prog G.w) A (pyIter (.ref I)) Q (fun _ _ => False) s
  stay : ∀ i h h', St i h → (∀ o, h.get? I = some o → h'.get? I = some o) → St i h'
  has : ∀ i h, St i h → ∃ o, h.get? I = some o

theorem Itr.list (hr : A.handled = none) {I l : Addr} {xs : List Value} : Itr G A I xs.length (fun i v => xs[i]? = some v) (fun H => ∃ z, H l = some (.list z xs)) (fun i h => h.IsListIter I l i) where
  item := fun i s H Q hi ⟨z, hl⟩ X st k => by
    (refine x0_2 (X.ob _ _ hl) ?_; intro hq1 _)
    refine x1_2 hq1 ?_; (try clear hq1); intro c hc hq2
    refine x2_2 hq2 ?_; (try clear hq2); intro vs n rfl e
    refine x1_2 (getElem_er e (List.getElem?_eq_getElem hi)) ?_; intro u hu hue
    refine wpAny_pyNext_list_item st ⟨_, hc, rfl, n, rfl⟩ (by simpa using hu) fun h₂ hit₂ hs₂ => ?_
    exact k u h₂ s.toks (by rw [hue]; exact List.getElem?_eq_getElem hi) (fun b o hb e => (hs₂.2 b hb).trans e) hit₂
  done := fun s H Q ⟨z, hl⟩ X st k => by
    (refine x0_2 (X.ob _ _ hl) ?_; intro hq3 _)
    refine x1_2 hq3 ?_; (try clear hq3); intro c hc hq4
    refine x2_2 hq4 ?_; (try clear hq4); intro vs n rfl e
    refine wpAny_pyNext_list_end hr st ⟨_, hc, rfl, n, rfl⟩ (Array.getElem?_eq_none (by rw [map_toList_size e]; exact Nat.le_refl _)) fun h₂ hx₂ => k h₂ s.toks fun b o hb e => hx₂ b o hb e
  self := fun i s Q st q => wpAny_pyIter_listiter st q
  stay := fun i h h' st hk => by (refine x1_2 st ?_; (try clear st); intro o ho r); exact ⟨o, hk o ho, r⟩
  has := fun i h st => by (refine x1_2 st ?_; (try clear st); intro o ho _); exact ⟨o, ho⟩

theorem Itr.range (hr : A.handled = none) {I : Addr} {n : Nat} : Itr G A I n (fun i v => v = .int i 0) (fun _ => True) (fun i h => IsRangeIter h I (0 + (i : Nat) * 1) ((n : Int) - (i : Nat)) 1) :=
  let W := LCg.range_walks (prog := G.prog) (w := G.w) (I := I) hr 0 n
  { item := fun i s H Q hi _ X st k => W.item i s Q _ hi st fun v h' tk hP st' hk => k v h' tk (by (refine x1_1 hP ?_; (try clear hP); intro t rfl); simp [er]) (fun b o hb e => hk b o (by simpa using hb) e) st'
    done := fun s H Q _ X st k => W.done s Q _ st fun h' tk hk => k h' tk fun b o hb e => hk b o (by simpa using hb) e
    self := fun i s Q st q => W.self i s Q _ st q
    stay := fun i h h' st hk => hk _ st
    has := fun i h st => ⟨_, st⟩ }

theorem FAbs.sameBut {s : Shared} (X : FAbs G L σ s) {C : Addr} {h' : Heap} {tk : Nat} (hs : Heap.SameBut C s.heap h') (h1 : σ.H C = none) (h2 : C ≠ L) (h3 : G.B.get? C = none) : FAbs G L σ { s with heap := h', toks := tk } :=
  X.wrote (wr := [C]) (fun b hb => by rw [List.mem_singleton.mp hb]; exact ⟨h1, h2, h3⟩) fun b o hb e => (hs.2 b (fun q => hb (by simp [q]))).trans e

/-- the frame changes hands: from one frame's view to another's -/
theorem FAbs.into {m m' : Str → Option Value} {H : Hp} {s : Shared} (X : FAbs G L ⟨m, H⟩ s) {C : Addr} {mm : Str → Option Value} (hC : s.heap.Ns C mm) (hHC : H C = none) (hab : G.B.objs.size ≤ C) (hm : ∀ x v, m' x = some v → ∃ u, mm x = some u ∧ er u = v) : FAbs G C ⟨m', H⟩ s :=
  ⟨X.h, hHC, mm, ⟨hC, X.h.keep, hab⟩, hm⟩

abbrev Wts (G : Gl) (A : Around) (env : Env) (ifs : List PySem.Expr) (Q : Bool → St → Prop) (σ : St) : Prop :=
  Wt G A env.locals id (forIn ifs true fun c r => if r = true then do let ok ← isTrue c env (eval c env); pure (ForInStep.yield ok) else pure (ForInStep.yield r)) Q σ
theorem Wts_nil {Q : Bool → St → Prop} (h : Q true σ) : Wts G A env [] Q σ := fun s X => wpAny_tests_nil ⟨σ, X, Out.refl .., h⟩
theorem Wts_one {c : PySem.Expr} {Q : Bool → St → Prop} (h : Wb G A env c Q σ) : Wts G A env [c] Q σ := fun s X => wpAny_tests_one (h s X)

/-- the turns of a list comprehension; J: what holds before the i-th turn, with the values got so far -/
structure Comp (G : Gl) (A : Around) (env : Env) (elt : PySem.Expr) (x : Str) (ifs : List PySem.Expr) (scope : Scope) (cl : List (Str × Addr)) (Q : Value → St → Prop) (n : Nat) (P : Nat → Value → Prop) (Hl : Hp → Prop) (J : Addr → Nat → List Value → Hp → Prop) (σ₁ : St) : Prop where
  small : n ≤ 1000000
  start : ∀ acc, σ₁.H acc = none → J acc 0 [] (upd σ₁.H acc (.list false []))
  acc : ∀ acc i ys H, J acc i ys H → H acc = some (.list false ys) ∧ Hl H ∧ ys.length ≤ i
  turn : ∀ acc C i v ys H, i < n → P i v → J acc i ys H → C ≠ acc → H C = none → Wts G A (compEnvC scope cl C env) ifs (fun b σ₂ => if b = true then We G A (compEnvC scope cl C env) elt (fun y σ₃ => σ₃.H acc = some (.list false ys) ∧ J acc (i + 1) (ys ++ [y]) (upd σ₃.H acc (.list false (ys ++ [y])))) σ₂ else J acc (i + 1) ys σ₂.H) ⟨setm (fun _ => none) x v, H⟩
  fin : ∀ acc ys H, σ₁.H acc = none → J acc n ys H → Q (.ref acc) ⟨σ₁.m, H⟩

/-- where the loop stands -/
inductive CJ (G : Gl) (L : Addr) (σ₁ : Mine.St) (s₂ : Shared) (n : Nat) (I C : Addr) (Sg : Nat → Heap → Prop) (J : Nat → List Value → Hp → Prop) (k : Nat) (s' : Shared) : Prop
  | mk (i : Nat) (ys : List Value) (H : Hp) (m' : Str → Option Value) (e : k = n + 1 - i) (hi : i ≤ n) (x' : FAbs G L ⟨σ₁.m, H⟩ s') (h : Heap) (tk : Nat) (sh : s' = { s₂ with heap := h, toks := tk })
    (kps : ∀ b o, b ≠ L → b ≠ I → σ₁.H b = none → s₂.heap.get? b = some o → H b = none ∧ s'.heap.get? b = some o) (hnC : s'.heap.Ns C m') (hHC : H C = none) (hHI : H I = none) (hst : Sg i s'.heap) (hJ : J i ys H)
/-- what a step of the inner frame leaves -/
inductive CB (G : Gl) (L : Addr) (σ₁ : Mine.St) (s₂ : Shared) (i : Nat) (I C : Addr) (Sg : Nat → Heap → Prop) (H : Hp) (s' : Shared) : Prop
  | mk (x' : FAbs G L ⟨σ₁.m, H⟩ s') (h : Heap) (tk : Nat) (sh : s' = { s₂ with heap := h, toks := tk })
    (kps : ∀ b o, b ≠ L → b ≠ I → σ₁.H b = none → s₂.heap.get? b = some o → H b = none ∧ s'.heap.get? b = some o) (m' : Str → Option Value) (hnC : s'.heap.Ns C m') (hHC : H C = none) (hHI : H I = none) (hst : Sg i s'.heap)

theorem comp_core {elt iter : PySem.Expr} {x : Str} {px : Pos} {ifs : List PySem.Expr} {scope : Scope} {cl : List (Str × Addr)} {pos : Pos} {Q : Value → St → Prop} {n : Nat} {P : Nat → Value → Prop} {Hl : Hp → Prop} {J : Addr → Nat → List Value → Hp → Prop} {Sg : Nat → Heap → Prop} {I : Addr}
    {σ₁ : St} {s₂ : Shared} {RR : Value → Addr → Result → Shared → Prop} {E : Value → Shared → Prop}
    (hcell : ∀ y ∈ scope.names, y.2 ≠ .cell) (hkind : scope.kind = .function) (hx : scope.names.lookup x = some .local)
    (X : FAbs G L σ₁ s₂) (W : Itr G A I n P Hl Sg) (hst : Sg 0 s₂.heap) (hI : σ₁.H I = none) (hIL : I ≠ L) (hIB : G.B.get? I = none) (hIlt : I < s₂.heap.objs.size) (Y : Comp G A env elt x ifs scope cl Q n P Hl J σ₁)
    (hRR : ∀ acc C s' H m', FAbs G L ⟨σ₁.m, H⟩ s' → (∃ h tk, s' = { s₂ with heap := h, toks := tk }) → (∀ b o, b ≠ L → b ≠ I → σ₁.H b = none → s₂.heap.get? b = some o → H b = none ∧ s'.heap.get? b = some o) →
      s'.heap.Ns C m' → H C = none → C ≠ L → G.B.get? C = none → s₂.heap.get? C = none → Q acc ⟨σ₁.m, H⟩ → RR acc C (.ok .next) s') :
    wpAny (model G.prog G.w) A (newList []) (fun acc s₃ => wpAny (model G.prog G.w) A (newFunctionEnv scope env.globals cl [] env.qual none .none (some env)) (fun cenv s₄ =>
      codeAny (model G.prog G.w) A (.compStart (.ListComp elt [⟨.Name x px, iter, ifs, 0⟩] scope pos) 0 (.ref I) acc { cenv with scope := relabel scope env }) (RR acc cenv.locals) s₄) E s₃) E s₂ := by
  refine wpAny_newObj_type (wpAny_newFunctionEnv hcell (by intro y hy; simp at hy) (fun h₁ hns₁ hsb₁ => ?_) hkind)
  dsimp only at hns₁ hsb₁ ⊢
  refine x0_4 (X.push (tk := s₂.toks) { cls := .type "list", dict := none, data := .seq ([] : List Value).toArray } (.list false []) ⟨_, _, rfl, rfl⟩ rfl) ?_; intro X3 O3 hacc0 haccL
  generalize hD : s₂.heap.objs.size = D at X3 O3 hacc0 haccL hsb₁
  generalize hH2 : s₂.heap.push { cls := .type "list", dict := none, data := .seq ([] : List Value).toArray } = H2 at hns₁ hsb₁ X3 O3 ⊢
  have hCsz : H2.objs.size = D + 1 := by rw [← hH2, Heap.size_push, hD]
  generalize hC : H2.objs.size = C at hns₁ hsb₁ hCsz ⊢
  have hLlt : L < D := by
    (refine x1_2 X.fr ?_; intro m F _)
    exact hD ▸ F.ns.lt
  have hBD : G.B.objs.size ≤ D := hD ▸ X.h.sz
  have hCD : C ≠ D := by lia
  have hDlt : D < C := by rw [hCsz]; exact Nat.lt_succ_self _
  have hIlt' : I < D := hD ▸ hIlt
  have hCL : C ≠ L := Nat.ne_of_gt (Nat.lt_trans hLlt hDlt)
  have hDI : D ≠ I := Nat.ne_of_gt hIlt'
  have hCI : C ≠ I := Nat.ne_of_gt (Nat.lt_trans hIlt' hDlt)
  have hs₂C : s₂.heap.get? C = none := get_ge (by lia)
  have hBC : G.B.get? C = none := get_ge (by lia)
  have hXC : (upd σ₁.H D (.list false [])) C = none := X3.noneAt (show H2.get? C = none from get_ge (by rw [hC]; exact Nat.le_refl _))
  have kp1 : ∀ b o, H2.get? b = some o → h₁.get? b = some o := fun b o e => hsb₁.extBut b o (fun q => by rw [q] at e; exact absurd (Heap.lt_size e) (by rw [hC]; exact Nat.lt_irrefl _)) (Heap.get?_push_of_some _ e)
  have X4 := (X3.raw (tk := s₂.toks + ([] : List (Str × Value)).length) kp1).1
  have hst1 : Sg 0 h₁ := W.stay _ _ _ hst fun o ho => kp1 _ _ (hH2 ▸ Heap.get?_push_of_some _ ho)
  have loop : codeAny (model G.prog G.w) A (.compLoop (.ListComp elt [⟨.Name x px, iter, ifs, 0⟩] scope pos) 0 (.ref I) (.ref D) (compEnvC scope cl C env)) (RR (.ref D) C) { s₂ with heap := h₁, toks := s₂.toks + ([] : List (Str × Value)).length } := by
    refine codeAny_compLoop_tests (CJ G L σ₁ s₂ n I C Sg (J D)) ?_ (n + 1) ⟨0, [], upd σ₁.H D (.list false []), _, rfl, Nat.zero_le _, X4, _, _, rfl, fun b o hb hbI hn e => ⟨(upd_ne (fun q => by rw [q, ← hD] at e; exact absurd (Heap.lt_size e) (Nat.lt_irrefl _))).trans hn, kp1 _ _ (hH2 ▸ Heap.get?_push_of_some _ e)⟩, hns₁, hXC, (upd_ne (Ne.symm hDI)).trans hI, hst1, Y.start D hacc0⟩
    intro k s' hq5
    obtain ⟨i, ys, H, m', rfl, hi, x', hh, tt, sh, kps, hnC, hHC, hHI, hst', hJ⟩ := hq5
    refine x0_3 (Y.acc D i ys H hJ) ?_; intro hHD hHl hyl
    have hw : ∀ b ∈ [I], (⟨σ₁.m, H⟩ : St).H b = none ∧ b ≠ L ∧ G.B.get? b = none := fun b hb => by rw [List.mem_singleton.mp hb]; exact ⟨hHI, hIL, hIB⟩
    by_cases hlt : i < n
    · refine noE (W.item i s' H _ hlt hHl x'.h hst' fun u h₂ tk₂ hPu kp₂ hst₂ => ?_)
      dsimp only
      have x₂ := x'.wrote (tk := tk₂) hw fun b o hb e => kp₂ b o (by simpa using hb) e
      have hnC2 : h₂.Ns C m' := by
        (refine x3_2 hnC ?_; (try clear hnC); intro oC es ep hoC r)
        exact ⟨oC, es, ep, kp₂ _ _ hCI hoC, r⟩
      refine wpAny_assign_Name (wpAny_storeName_local (env := compEnvC scope cl C env) (lookup_relabel_local hx) hnC2 (fun h₃ hn₃ hs₃ => ?_) (by simp [compEnvC, relabel, hkind]))
      have x₃ := x₂.sameBut (tk := tk₂ + 1) hs₃ hHC hCL hBC
      have xC : FAbs G C ⟨setm (fun _ => none) x (er u), H⟩ { s' with heap := h₃, toks := tk₂ + 1 } := x₃.into hn₃ hHC (by lia) fun y v e => by
        unfold setm at e
        by_cases hy : y = x
        · rw [if_pos hy] at e; cases e; exact ⟨u, if_pos hy, rfl⟩
        · rw [if_neg hy] at e; cases e
      have hst₃ : Sg (i + 1) h₃ := W.stay _ _ _ hst₂ fun o ho => (hs₃.2 _ (Ne.symm hCI)).trans ho
      -- what a step of the inner frame leaves
      have back : ∀ {σ₄ : Mine.St} {s₄ : Shared}, FAbs G C σ₄ s₄ → Out (some C) H σ₄.H { s' with heap := h₃, toks := tk₂ + 1 } s₄ →
          CB G L σ₁ s₂ (i + 1) I C Sg σ₄.H s₄ := by
        intro σ₄ s₄ x₄ o₄
        refine x1_2 x₃.fr ?_; intro m F hm
        refine x3_2 F.ns ?_; intro oL es ep hL r
        have zL := o₄.keep L oL (fun q => hCL (Option.some.inj q).symm) x₃.off hL
        refine x1_1 (W.has _ _ hst₃) ?_; intro oI hoI
        have zI := o₄.keep I oI (fun q => hCI (Option.some.inj q).symm) hHI hoI
        refine x1_2 x₄.fr ?_; intro mC FC _
        refine x2_1 o₄.sh ?_; intro h4 t4 e4
        refine ⟨⟨x₄.h, zL.1, m, ⟨⟨oL, es, ep, zL.2, r⟩, x₄.h.keep, F.above⟩, hm⟩, h4, t4, e4.trans (by rw [sh]), ?_, mC, FC.ns, x₄.off, zI.1, W.stay _ _ _ hst₃ fun o ho => ?_⟩
        · intro b o hb hbI hn e
          refine x0_2 (kps b o hb hbI hn e) ?_; intro z1 z2
          have hbC : b ≠ C := fun q => by rw [q, hs₂C] at e; cases e
          exact o₄.keep b o (fun q => hbC (Option.some.inj q)) z1 ((hs₃.2 _ hbC).trans (kp₂ _ _ hbI z2))
        · rw [hoI] at ho; cases ho; exact zI.2
      refine noE (wpAny_mono (Y.turn D C i (er u) ys H hlt hPu hJ hCD hHC _ xC) ?_ fun _ _ x => x)
      intro ok s₄ hq6
      refine x1_3 hq6 ?_; (try clear hq6); intro σ₄ x₄ o₄ q₄
      cases ok with
      | false =>
        have q₄' : J D (i + 1) ys σ₄.H := by simpa using q₄
        obtain ⟨b1, hb2, tb2, b2, b3, mC, b4, b5, b6, b7⟩ := back x₄ o₄
        exact ⟨n + 1 - (i + 1), by lia, i + 1, ys, σ₄.H, mC, rfl, hlt, b1, hb2, tb2, b2, b3, b4, b5, b6, b7, q₄'⟩
      | true =>
        simp only [id_eq, if_true] at q₄ ⊢
        refine noE (wpAny_mono (q₄ s₄ x₄) ?_ fun _ _ x => x)
        intro y s₅ hq8
        refine x1_4 hq8 ?_; (try clear hq8); intro σ₅ x₅ o₅ hacc5 hJ5
        obtain ⟨b1, hb2, tb2, b2, b3, mC, b4, b5, b6, b7⟩ := back x₅ (o₄.trans o₅)
        refine noE (wpAny_mono (W_append (σ := ⟨σ₁.m, σ₅.H⟩) (L := L) (v := er y) (Q := fun _ σ' => σ' = ⟨σ₁.m, upd σ₅.H D (.list false (ys ++ [er y]))⟩) hacc5 (by have := Y.small; lia) rfl [.ref D, y] rfl s₅ b1) ?_ fun _ _ x => x)
        intro _ s₆ hq10
        refine x1_3 hq10 ?_; (try clear hq10); intro σ₆ x₆ o₆ rfl
        refine x3_2 b4 ?_; (try clear b4); intro oC es ep hoC r
        have zC := o₆.keep C oC (fun q => hCL (Option.some.inj q)) b5 hoC
        refine x1_1 (W.has _ _ b7) ?_; intro oI hoI
        have zI := o₆.keep I oI (fun q => hIL (Option.some.inj q)) b6 hoI
        refine x2_1 o₆.sh ?_; intro h6 t6 e6
        refine ⟨n + 1 - (i + 1), by lia, i + 1, ys ++ [er y], _, mC, rfl, hlt, x₆, h6, t6, e6.trans (by rw [b2]), fun b o hb hbI hn e => ?_, ⟨oC, es, ep, zC.2, r⟩, zC.1, zI.1, W.stay _ _ _ b7 fun o ho => ?_, hJ5⟩
        · refine x0_2 (b3 b o hb hbI hn e) ?_; intro z1 z2
          exact o₆.keep b o (fun q => hb (Option.some.inj q)) z1 z2
        · rw [hoI] at ho; cases ho; exact zI.2
    · obtain rfl : i = n := by lia
      refine noE (W.done s' H _ hHl x'.h hst' fun h₂ tk₂ kp₂ => ?_)
      dsimp only
      have x₂ := x'.wrote (tk := tk₂) hw fun b o hb e => kp₂ b o (by simpa using hb) e
      refine x3_2 hnC ?_; (try clear hnC); intro oC es ep hoC r
      refine hRR _ _ _ H m' x₂ ?_ (fun b o hb hbI hn e => ?_) ⟨oC, es, ep, kp₂ _ _ hCI hoC, r⟩ hHC hCL hBC hs₂C (Y.fin D ys H hacc0 hJ)
      · rw [sh]; exact ⟨h₂, tk₂, rfl⟩
      · refine x0_2 (kps b o hb hbI hn e) ?_; intro z1 z2
        exact ⟨z1, kp₂ _ _ hbI z2⟩
  exact codeAny_compStart_list loop (noE (W.self 0 _ _ hst1 loop))
end

end -- MW10

section -- MW11

inductive Src (H : Hp) : Value → Nat → (Nat → Value → Prop) → (Hp → Prop) → Prop
  | list {l : Addr} {z : Bool} {xs : List Value} : H l = some (.list z xs) → Src H (.ref l) xs.length (fun i v => xs[i]? = some v) (fun H => ∃ z, H l = some (.list z xs))
  | range {r : Addr} {n : Nat} : H r = some (.rng n) → n ≤ 1000000 → Src H (.ref r) n (fun i v => v = .int i 0) (fun _ => True)

section
variable {G : Gl} {A : Around} {env : Env} {σ : St} {L : Addr}

theorem FAbs.next {s : Shared} (X : FAbs G L σ s) : σ.H s.heap.objs.size = none ∧ s.heap.objs.size ≠ L ∧ G.B.get? s.heap.objs.size = none := by
  have h0 : s.heap.get? s.heap.objs.size = none := get_ge (Nat.le_refl _)
  refine ⟨X.noneAt h0, fun q => ?_, ?_⟩
  · refine x1_2 X.fr ?_; intro m F _
    have h3 : L < s.heap.objs.size := F.ns.lt
    exact Nat.lt_irrefl _ (q ▸ h3)
  · cases z : G.B.get? s.heap.objs.size with
    | none => rfl
    | some o => have := X.h.keep _ o z; rw [h0] at this; cases this

theorem src_go {xv : Value} {s₁ : Shared} {n : Nat} {P : Nat → Value → Prop} {Hl : Hp → Prop} {K : Value → Shared → Prop} {E : Value → Shared → Prop} (hr : A.handled = none) (X : FAbs G L σ s₁) (S : Src σ.H (er xv) n P Hl)
    (k : ∀ I Sg s₂, Itr G A I n P Hl Sg → FAbs G L σ s₂ → (∃ h tk, s₂ = { s₁ with heap := h, toks := tk }) → (∀ b o, s₁.heap.get? b = some o → s₂.heap.get? b = some o) → s₁.heap.get? I = none → Sg 0 s₂.heap → σ.H I = none → I ≠ L → G.B.get? I = none → I < s₂.heap.objs.size → K (.ref I) s₂) :
    wpAny (model G.prog G.w) A (pyIter xv) K E s₁ := by
  (refine x0_3 X.next ?_; intro h1 h2 h3)
  generalize hv : er xv = v at S
  cases S with
  | @list l z xs hl =>
    obtain rfl := er_ref hv
    refine x2_3 (isList_of X hl) ?_; intro vs m ho e _
    refine wpAny_pyIter_list ⟨_, ho, rfl, m, rfl⟩ ?_
    refine x0_2 (X.raw (h' := s₁.heap.push { cls := .type "list_iterator", data := .fields #[.ref l, .int 0 0] }) (tk := s₁.toks) (fun b o e => Heap.get?_push_of_some _ e)) ?_; intro X2 _
    exact k _ _ _ (Itr.list hr) X2 ⟨_, _, rfl⟩ (fun b o e => Heap.get?_push_of_some _ e) (get_ge (Nat.le_refl _)) ⟨_, Heap.get?_push_size _ rfl, rfl, rfl⟩ h1 h2 h3 (by show _ < (s₁.heap.push _).objs.size; rw [Heap.size_push]; exact Nat.lt_succ_self _)
  | @range r n hR hn =>
    obtain rfl := er_ref hv
    refine x1_3 (X.at hR) ?_; intro ro hro hq1 _
    refine x3_1 hq1 ?_; (try clear hq1); intro t u v rfl
    refine wpAny_pyIter_range hro (small_one (by lia) (by lia) (by lia) (by lia)) ?_
    have hsz : Builtin.Range.rangeSize 0 (n : Int) 1 = (n : Int) := by
      rw [rangeSize_one]
      split <;> lia
    rw [hsz]
    refine x0_2 (X.raw (h' := s₁.heap.push { cls := .type "range_iterator", data := .fields #[rawInt 0, rawInt (n : Int), rawInt 1] }) (tk := s₁.toks) (fun b o e => Heap.get?_push_of_some _ e)) ?_; intro X2 _
    exact k _ _ _ (Itr.range hr) X2 ⟨_, _, rfl⟩ (fun b o e => Heap.get?_push_of_some _ e) (get_ge (Nat.le_refl _)) (by show IsRangeIter _ _ _ _ _; simpa [IsRangeIter] using Heap.get?_push_size _ rfl) h1 h2 h3 (by show _ < (s₁.heap.push _).objs.size; rw [Heap.size_push]; exact Nat.lt_succ_self _)

/-- [elt for x in iter if ...] -/
theorem We_ListComp {elt iter : PySem.Expr} {x : Str} {px : Pos} {ifs : List PySem.Expr} {scope : Scope} (cl : List (Str × Addr)) {pos : Pos} {Q : Value → St → Prop} (hr : A.handled = none)
    (h : We G A env iter (fun v σ₁ => ∃ n P Hl J, Src σ₁.H v n P Hl ∧ Comp G A env elt x ifs scope cl Q n P Hl J σ₁) σ)
    (hclos : closureFor scope env = pure cl := by with_unfolding_all rfl) (hcell : scope.names.all (fun y => y.2 != .cell) = true := by with_unfolding_all rfl) (hkind : scope.kind = .function := by with_unfolding_all rfl)
    (hnames : scope.names.all (fun y => y.2 != .local || scope.names.lookup y.1 == some .local) = true := by with_unfolding_all rfl) (hx : scope.names.lookup x = some .local := by with_unfolding_all rfl)
    (hs : ∀ x, foldedSetIterable iter env x = pure x := by intro _; with_unfolding_all rfl) : We G A env (.ListComp elt [⟨.Name x px, iter, ifs, 0⟩] scope pos) Q σ := fun s X => by
  have hcell' : ∀ y ∈ scope.names, y.2 ≠ .cell := fun y hy => by simpa using List.all_eq_true.mp hcell y hy
  have hnames' : ∀ y ∈ scope.names, y.2 = .local → scope.names.lookup y.1 = some .local := fun y hy e => by
    have := List.all_eq_true.mp hnames y hy
    rw [e] at this
    simpa using this
  rw [eval_ListComp]
  refine wpAny_comprehension_free (use := none) rfl hs hclos hkind hnames' (wpAny_mono (h s X) (fun xv s₁ h₁ => ?_) fun _ _ e => e)
  obtain ⟨σ₁, x₁, o₁, n, P, Hl, J, S, Y⟩ := h₁
  refine src_go hr x₁ S fun I Sg s₂ W x₂ sh₂ kp₂ hI0 hst hHI hIL hIB hIlt => ?_
  refine comp_core (RR := fun acc C => compPost (model G.prog G.w) A (fun _ _ => False) none _ acc C) (Q := fun v σ' => Q (er v) σ') hcell' hkind hx x₂ W hst hHI hIL hIB hIlt ⟨Y.small, Y.start, Y.acc, Y.turn, Y.fin⟩ ?_
  intro acc C s' H m' x' sh' kps hnC hHC hCL hCB hC2 q
  refine ⟨m', hnC, fun h' hs' => ⟨⟨σ₁.m, H⟩, x'.sameBut hs' hHC hCL hCB, o₁.trans ⟨?_, fun b o hb hn e => ?_⟩, q⟩⟩
  · refine x2_1 sh' ?_; (try clear sh'); intro h4 t4 rfl
    refine x2_1 sh₂ ?_; (try clear sh₂); intro h5 t5 rfl
    exact ⟨h', t4, rfl⟩
  · have hbI : b ≠ I := fun z => by rw [z, hI0] at e; cases e
    have e2 := kp₂ b o e
    have hbC : b ≠ C := fun z => by rw [z, hC2] at e2; cases e2
    refine x0_2 (kps b o (fun z => hb (by rw [z])) hbI hn e2) ?_; intro z1 z2
    exact ⟨z1, (hs'.2 b hbC).trans z2⟩

/-- y = [elt for x in iter if ...] -/
theorem Wst_AssignComp {elt iter : PySem.Expr} {x y : Str} {px py : Pos} {ifs : List PySem.Expr} {scope : Scope} (cl : List (Str × Addr)) {pos spos : Pos} {Q : Flow → St → Prop} (hr : A.handled = none)
    (h : We G A env iter (fun v σ₁ => ∃ n P Hl J, Src σ₁.H v n P Hl ∧ Comp G A env elt x ifs scope cl (fun v σ' => Q .next ⟨setm σ'.m y v, σ'.H⟩) n P Hl J σ₁) σ)
    (hclos : closureFor scope env = pure cl := by with_unfolding_all rfl) (hcell : scope.names.all (fun y => y.2 != .cell) = true := by with_unfolding_all rfl) (hkind : scope.kind = .function := by with_unfolding_all rfl)
    (hnames : scope.names.all (fun y => y.2 != .local || scope.names.lookup y.1 == some .local) = true := by with_unfolding_all rfl) (hx : scope.names.lookup x = some .local := by with_unfolding_all rfl)
    (hsw : swapsWith (.ListComp elt [⟨.Name x px, iter, ifs, 0⟩] scope pos) (some (.Name y py)) spos.line env = pure true := by with_unfolding_all rfl)
    (hy : env.kindOf y = some .local := by with_unfolding_all rfl) (hp : (env.scope.kind == .class || (env.scope.kind == .module && env.locals != env.globals)) = false := by with_unfolding_all rfl)
    (hs : ∀ x, foldedSetIterable iter env x = pure x := by intro _; with_unfolding_all rfl) : Wst G A env (.Assign [.Name y py] (.ListComp elt [⟨.Name x px, iter, ifs, 0⟩] scope pos) spos) Q σ := fun s X => by
  have hcell' : ∀ y ∈ scope.names, y.2 ≠ .cell := fun y hy => by simpa using List.all_eq_true.mp hcell y hy
  have hnames' : ∀ y ∈ scope.names, y.2 = .local → scope.names.lookup y.1 = some .local := fun y hy e => by
    have := List.all_eq_true.mp hnames y hy
    rw [e] at this
    simpa using this
  rw [exec_Assign_Name_used _ _ _ _ hsw]
  refine wpAny_bind (wpAny_standAt (wpAny_bind ?_))
  show wpAny _ A (do let _ ← comprehension (.ListComp elt [⟨.Name x px, iter, ifs, 0⟩] scope pos) scope env _ (newList []) false (eval iter env) (some (assign (.Name y py) env))) _ _ s
  refine wpAny_bind (wpAny_mono (wpAny_comprehension_free (use := some (assign (.Name y py) env)) (Q := fun _ s' => ∃ σ', FAbs G env.locals σ' s' ∧ Out (some env.locals) σ.H σ'.H s s' ∧ Q (erF .next) σ') rfl hs hclos hkind hnames'
    (wpAny_mono (h s X) (fun xv s₁ h₁ => ?_) fun _ _ e => e)) (fun _ s' hq => wpAny_pure (wpAny_pure hq)) fun _ _ e => e)
  obtain ⟨σ₁, x₁, o₁, n, P, Hl, J, S, Y⟩ := h₁
  refine src_go hr x₁ S fun I Sg s₂ W x₂ sh₂ kp₂ hI0 hst hHI hIL hIB hIlt => ?_
  refine comp_core (RR := fun acc C => compPost (model G.prog G.w) A (fun _ _ => False) (some (assign (.Name y py) env)) _ acc C) (Q := fun v σ' => Q .next ⟨setm σ'.m y (er v), σ'.H⟩) hcell' hkind hx x₂ W hst hHI hIL hIB hIlt ⟨Y.small, Y.start, Y.acc, Y.turn, Y.fin⟩ ?_
  intro acc C s' H m' x' sh' kps hnC hHC hCL hCB hC2 q
  show wpAny _ A (assign (.Name y py) env acc) _ _ _
  refine wpAny_assign_Name (wpAny_mono (W_storeName (A := A) (σ := ⟨σ₁.m, H⟩) (Q := fun _ σ' => σ' = ⟨setm σ₁.m y (er acc), H⟩) hy hp rfl _ x') ?_ fun _ _ x => x)
  intro _ s₃ hq2
  refine x1_3 hq2 ?_; (try clear hq2); intro σ₃ x₃ o₃ rfl
  refine x3_2 hnC ?_; (try clear hnC); intro oC es ep hoC r
  have zC := o₃.keep C oC (fun z => hCL (Option.some.inj z)) hHC hoC
  refine ⟨m', ⟨oC, es, ep, zC.2, r⟩, fun h' hs' => ⟨⟨setm σ₁.m y (er acc), H⟩, x₃.sameBut hs' hHC hCL hCB, o₁.trans ⟨?_, fun b o hb hn e => ?_⟩, q⟩⟩
  · refine x2_1 o₃.sh ?_; intro h6 t6 rfl
    refine x2_1 sh' ?_; (try clear sh'); intro h4 t4 rfl
    refine x2_1 sh₂ ?_; (try clear sh₂); intro h5 t5 rfl
    exact ⟨h', t6, rfl⟩
  · have hbI : b ≠ I := fun z => by rw [z, hI0] at e; cases e
    have e2 := kp₂ b o e
    have hbC : b ≠ C := fun z => by rw [z, hC2] at e2; cases e2
    refine x0_2 (kps b o (fun z => hb (by rw [z])) hbI hn e2) ?_; intro z1 z2
    refine x0_2 (o₃.keep b o hb z1 z2) ?_; intro z3 z4
    exact ⟨z3, (hs'.2 b hbC).trans z4⟩
end

end -- MW11

section -- MW12

section
variable {G : Gl} {A : Around} {env : Env} {σ : St} {L : Addr}

/-- a thing that stands is taken into the view -/
theorem FAbs.track {s : Shared} (X : FAbs G L σ s) {a : Addr} {o : Obj} {mo : MO} (ho : s.heap.get? a = some o) (hi : mo.Is G o) (hB : G.B.get? a = none) (hL : a ≠ L) : FAbs G L ⟨σ.m, upd σ.H a mo⟩ s := by
  refine ⟨⟨X.h.sz, X.h.keep, fun b ob e => ?_⟩, (upd_ne (Ne.symm hL)).trans X.off, X.fr⟩
  by_cases hb : b = a
  · subst hb; cases upd_eq.symm.trans e; exact ⟨⟨o, ho, hi⟩, hB⟩
  · exact X.h.ob b ob ((upd_ne hb).symm.trans e)

/-- zip(e1, e2), called; R: what holds behind the arguments -/
theorem zip_eval {e1 e2 : PySem.Expr} {pz pos : Pos} {R : Addr → Addr → List Value → List Value → St → Prop} {s : Shared} (O : G.Ok) (X : FAbs G env.locals σ s) (e : nsIn G.K mainGlobals "zip" = some none) (hv : bootBuiltins "zip" = some (.type "zip"))
    (h : We G A env e1 (fun v1 σ₁ => We G A env e2 (fun v2 σ₂ => ∃ l1 l2 z1 z2 xs ys, v1 = .ref l1 ∧ v2 = .ref l2 ∧ σ₂.H l1 = some (.list z1 xs) ∧ σ₂.H l2 = some (.list z2 ys) ∧ R l1 l2 xs ys σ₂) σ₁) σ)
    {K : Value → Shared → Prop}
    (k : ∀ l1 l2 z1 z2 xs ys σ₂ s₂ h' z TI TO i1 i2, FAbs G env.locals σ₂ s₂ → Out (some env.locals) σ.H σ₂.H s s₂ → σ₂.H l1 = some (.list z1 xs) → σ₂.H l2 = some (.list z2 ys) → R l1 l2 xs ys σ₂ → ZipApart z TI TO i1 i2 l1 l2 → IsZip h' z TI TO .none → IsPair h' TI (.ref i1) (.ref i2) → IsPair h' TO .none .none →
      h'.IsListIter i1 l1 0 → h'.IsListIter i2 l2 0 → (∀ c o, s₂.heap.get? c = some o → h'.get? c = some o) → (∀ b ∈ [z, TI, TO, i1, i2], s₂.heap.get? b = none) → s₂.heap.objs.size ≤ h'.objs.size → K (.ref z) { s₂ with heap := h' })
    (hl : env.kindOf "zip" = some .globalImplicit := by with_unfolding_all rfl) (hk : env.scope.kind = .function := by with_unfolding_all rfl) (hg : env.globals = mainGlobals := by with_unfolding_all rfl) (hb : env.builtins = builtinsNs := by with_unfolding_all rfl)
    (he : eval (.Call (.Name "zip" pz) [e1, e2] [] pos) env = (do callWith pos (← eval (.Name "zip" pz) env) [] (backTo pos (starEach [e1, e2] env)) (backToKw pos (keywordEach [] env))) := by with_unfolding_all rfl)
    (hs1 : starEach [e1, e2] env = (false, eval e1 env) :: starEach [e2] env := by with_unfolding_all rfl) (hs2 : starEach [e2] env = (false, eval e2 env) :: starEach [] env := by with_unfolding_all rfl) :
    wpAny (model G.prog G.w) A (eval (.Call (.Name "zip" pz) [e1, e2] [] pos) env) K (fun _ _ => False) s := by
  refine Call_ (Name_function_global hk hl (loadGlobal_builtin (hg ▸ O.top.g.keeps X.h.keep) (mg_none_of O.kin O.top.g e) (hb ▸ O.top.b.keeps X.h.keep) ((O.top.builtins _ (by decide)).trans hv) ?_) (by decide)) he
  refine callWith_of (P := fun _ => True) (by rw [hs1]; show ((false || (backTo pos (starEach [e2] env)).any (·.1)) || false) = false; rw [hs2]; rfl) (fun h _ => ⟨.machine, .inr (.inl rfl), Looks.of_pure rfl⟩) ?_
  have h1 : Wargs G A env pos [e1, e2] (fun vs σ₂ => ∃ l1 l2 z1 z2 xs ys, vs = [.ref l1, .ref l2] ∧ σ₂.H l1 = some (.list z1 xs) ∧ σ₂.H l2 = some (.list z2 ys) ∧ R l1 l2 xs ys σ₂) σ := by
    refine Wargs_cons (h.mono fun v1 σ₁ q => Wargs_cons (q.mono fun v2 σ₂ q => Wargs_nil ?_) hs2) hs1
    refine x6_3 q ?_; (try clear q); intro l1 l2 z1 z2 xs ys rfl rfl r
    exact ⟨l1, l2, z1, z2, xs, ys, rfl, r⟩
  have h1 := h1 s X
  rw [hs1] at h1 ⊢
  refine evalArgs_plain (wpAny_mono h1 ?_ fun _ _ x => x)
  intro vs s₂ hq1
  obtain ⟨σ₂, x₂, o₂, l1, l2, z1, z2, xs, ys, hvs, hl1, hl2, r⟩ := hq1
  refine ⟨trivial, ?_⟩
  refine x2_3 (two_args hvs) ?_; intro u1 u2 rfl g1 g2
  obtain rfl := er_ref g1
  obtain rfl := er_ref g2
  refine x2_3 (isList_of x₂ hl1) ?_; intro a1 n1 ho1 ea1 _
  refine x2_3 (isList_of x₂ hl2) ?_; intro a2 n2 ho2 ea2 _
  refine call_zip_2 (xs := a1) (ys := a2) ⟨_, ho1, rfl, n1, rfl⟩ ⟨_, ho2, rfl, n2, rfl⟩ fun h' hz hTI hTO hi1 hi2 hsz hk => ?_
  refine k l1 l2 z1 z2 xs ys σ₂ s₂ h' _ _ _ _ _ x₂ o₂ hl1 hl2 r (zipApart_new (Heap.lt_size ho1) (Heap.lt_size ho2)) hz hTI hTO hi1 hi2 hk ?_ (by lia)
  intro b hb
  refine get_ge ?_
  simp only [List.mem_cons, List.mem_nil_iff, or_false] at hb
  rcases hb with rfl | rfl | rfl | rfl | rfl
  · exact Nat.le_add_right _ 4
  · exact Nat.le_add_right _ 2
  · exact Nat.le_add_right _ 3
  · exact Nat.le_refl _
  · exact Nat.le_add_right _ 1

structure ForZ (G : Gl) (A : Around) (env : Env) (target : PySem.Expr) (body : List Stmt) (Q : Flow → St → Prop) (l1 l2 : Addr) (xs ys : List Value) (J : Nat → St → Prop) (σ₁ : St) : Prop where
  start : J 0 σ₁
  at_ : ∀ i σ₂, J i σ₂ → (∃ z, σ₂.H l1 = some (.list z xs)) ∧ ∃ z, σ₂.H l2 = some (.list z ys)
  turn : ∀ i x y T σ₂, xs[i]? = some x → ys[i]? = some y → J i σ₂ → σ₂.H T = none → T ≠ env.locals → Wt G A env.locals id (assign target env (.ref T)) (fun _ σ₃ => Ws G A env body (Loop (At J (i + 1)) Q) σ₃) ⟨σ₂.m, upd σ₂.H T (.tuple [x, y])⟩
  fin : ∀ σ₂, J (min xs.length ys.length) σ₂ → Q .next σ₂

/-- where the loop stands -/
inductive ZJ (G : Gl) (env : Env) (σ₁ : St) (s₁ : Shared) (N : Nat) (z TI TO i1 i2 l1 l2 : Addr) (J : Nat → St → Prop) (k : Nat) (s' : Shared) : Prop
  | mk (i : Nat) (σ' : St) (e : k = N + 1 - i) (hi : i ≤ N) (x' : FAbs G env.locals σ' s') (o' : Out (some env.locals) σ₁.H σ'.H s₁ s') (hN : ∀ b ∈ [z, TI, TO, i1, i2], σ'.H b = none) (hz : IsZip s'.heap z TI TO .none) (hTI : IsPair s'.heap TI (.ref i1) (.ref i2))
    (ta tb : Value) (hTO : IsPair s'.heap TO ta tb) (hi1 : s'.heap.IsListIter i1 l1 i) (hi2 : s'.heap.IsListIter i2 l2 i) (j : J i σ')

/-- for a, b in zip(e1, e2) -/
theorem Wst_For_zip (O : G.Ok) {elts : List PySem.Expr} {kk : Nat} {tp : Pos} {e1 e2 : PySem.Expr} {pz cp : Pos} {body : List Stmt} {pos : Pos} {Q : Flow → St → Prop} (hr : A.handled = none) (e : nsIn G.K mainGlobals "zip" = some none) (hv : bootBuiltins "zip" = some (.type "zip"))
    (h : We G A env e1 (fun v1 σ₁ => We G A env e2 (fun v2 σ₂ => ∃ l1 l2 z1 z2 xs ys, v1 = .ref l1 ∧ v2 = .ref l2 ∧ σ₂.H l1 = some (.list z1 xs) ∧ σ₂.H l2 = some (.list z2 ys) ∧ ∃ J, ForZ G A env (.Tuple elts kk tp) body Q l1 l2 xs ys J σ₂) σ₁) σ)
    (hl : env.kindOf "zip" = some .globalImplicit := by with_unfolding_all rfl) (hk : env.scope.kind = .function := by with_unfolding_all rfl) (hg : env.globals = mainGlobals := by with_unfolding_all rfl) (hb : env.builtins = builtinsNs := by with_unfolding_all rfl)
    (he : eval (.Call (.Name "zip" pz) [e1, e2] [] cp) env = (do callWith cp (← eval (.Name "zip" pz) env) [] (backTo cp (starEach [e1, e2] env)) (backToKw cp (keywordEach [] env))) := by with_unfolding_all rfl)
    (hs1 : starEach [e1, e2] env = (false, eval e1 env) :: starEach [e2] env := by with_unfolding_all rfl) (hs2 : starEach [e2] env = (false, eval e2 env) :: starEach [] env := by with_unfolding_all rfl)
    (hs : ∀ x, foldedSetIterable (.Call (.Name "zip" pz) [e1, e2] [] cp) env x = pure x := by intro _; with_unfolding_all rfl) : Wst G A env (.For (.Tuple elts kk tp) (.Call (.Name "zip" pz) [e1, e2] [] cp) body [] pos) Q σ := fun s X => by
  refine wpAny_For (zip_eval O X e hv h ?_ hl hk hg hb he hs1 hs2) hs
  intro l1 l2 z1 z2 xs ys σ₁ s₁ h' z TI TO i1 i2 x₁ o₁ hl1 hl2 ⟨J, FZ⟩ D hz hTI hTO hi1 hi2 kp hnew _
  have new : ∀ b ∈ [z, TI, TO, i1, i2], σ₁.H b = none ∧ b ≠ env.locals ∧ G.B.get? b = none := fun b hb => by
    have h0 := hnew b hb
    refine ⟨x₁.noneAt h0, fun q => ?_, ?_⟩
    · refine x1_2 x₁.fr ?_; intro m F _
      refine x3_2 F.ns ?_; intro oL _ _ hL _
      rw [q, hL] at h0; cases h0
    · cases zz : G.B.get? b with
      | none => rfl
      | some o => have := x₁.h.keep b o zz; rw [h0] at this; cases this
  refine wpAny_pyIter_zip hz ?_
  refine x0_2 (x₁.raw (tk := s₁.toks) kp) ?_; intro X2 O2
  refine codeAny_forLoop_any (ZJ G env σ₁ s₁ (min xs.length ys.length) z TI TO i1 i2 l1 l2 J) ?_ (min xs.length ys.length + 1)
    ⟨0, σ₁, rfl, Nat.zero_le _, X2, O2, fun b hb => (new b hb).1, hz, hTI, _, _, hTO, hi1, hi2, FZ.start⟩
  intro k' s' hq2
  obtain ⟨i, σ', rfl, hi, x', o', hN, hz', hTI', ta, tb, hTO', hi1', hi2', j⟩ := hq2
  refine x0_2 (FZ.at_ _ _ j) ?_; intro hq4 hq5
  refine x1_1 hq4 ?_; (try clear hq4); intro y1 hy1
  refine x1_1 hq5 ?_; (try clear hq5); intro y2 hy2
  refine x2_3 (isList_of x' hy1) ?_; intro a1 n1 ho1 ea1 _
  refine x2_3 (isList_of x' hy2) ?_; intro a2 n2 ho2 ea2 _
  have hw : ∀ b ∈ [z, TO, i1, i2], σ'.H b = none ∧ b ≠ env.locals ∧ G.B.get? b = none := fun b hb => by
    have hb' : b ∈ [z, TI, TO, i1, i2] := by
      simp only [List.mem_cons, List.mem_nil_iff, or_false] at hb ⊢
      rcases hb with h | h | h | h <;> simp [h]
    exact ⟨hN b hb', (new b hb').2⟩
  have hw' : ∀ b ∈ [z, TO, i1, i2], s₁.heap.get? b = none := fun b hb => by
    have hb' : b ∈ [z, TI, TO, i1, i2] := by
      simp only [List.mem_cons, List.mem_nil_iff, or_false] at hb ⊢
      rcases hb with h | h | h | h <;> simp [h]
    exact hnew b hb'
  by_cases hlt : i < min xs.length ys.length
  · have hx : xs[i]? = some (xs[i]'(by lia)) := List.getElem?_eq_getElem (by lia)
    have hy : ys[i]? = some (ys[i]'(by lia)) := List.getElem?_eq_getElem (by lia)
    refine x1_2 (getElem_er ea1 hx) ?_; intro u1 hu1 he1
    refine x1_2 (getElem_er ea2 hy) ?_; intro u2 hu2 he2
    refine wpAny_pyNext_zip_item D hz' hTI' hTO' hi1' hi2' ⟨_, ho1, rfl, n1, rfl⟩ ⟨_, ho2, rfl, n2, rfl⟩ (by simpa using hu1) (by simpa using hu2) fun h₂ hz₂ hTO₂ hi1₂ hi2₂ hT₂ hsz₂ kp₂ => ?_
    refine wpAny_letOwnedTupleGo_zip hz₂ fun h₃ hz₃ hs₃ => ?_
    have hTz : s'.heap.objs.size ≠ z := Nat.ne_of_gt (Heap.lt_size hz')
    have hT₃ : IsPair h₃ s'.heap.objs.size u1 u2 := (hs₃.2 _ hTz).trans hT₂
    have kp₃ : ∀ b o, b ∉ [z, TO, i1, i2] → s'.heap.get? b = some o → h₃.get? b = some o := fun b o hb e => by
      simp only [List.mem_cons, List.mem_nil_iff, or_false, not_or] at hb
      exact (hs₃.2 _ hb.1).trans (kp₂ b o hb.1 hb.2.1 hb.2.2.1 hb.2.2.2 e)
    refine x0_3 x'.next ?_; intro hT0 hTL hTB
    have x₃ := x'.wrote (tk := s'.toks) hw kp₃
    have o₃ := o'.wrote (tk := s'.toks) hw' kp₃
    generalize hTe : s'.heap.objs.size = T at hT0 hTL hTB hT₃ hTz
    have hs₁T : σ₁.H T = none → ∀ o, s₁.heap.get? T = some o → False := fun hn o e => by
      have := (o'.keep T o (fun q => hTL (Option.some.inj q)) hn e).2
      exact absurd (Heap.lt_size this) (by rw [hTe]; exact Nat.lt_irrefl _)
    have x₄ := x₃.track (mo := .tuple [xs[i]'(by lia), ys[i]'(by lia)]) hT₃ ⟨#[u1, u2], _, rfl, by simp [he1, he2]⟩ hTB hTL
    have o₄ : Out (some env.locals) σ₁.H (upd σ'.H T (.tuple [xs[i]'(by lia), ys[i]'(by lia)])) s₁ { s' with heap := h₃ } := ⟨o₃.sh, fun b o hb hn e => by
      (refine x0_2 (o₃.keep b o hb hn e) ?_; intro q1 q2)
      exact ⟨(upd_ne (fun q => by subst q; exact hs₁T hn o e)).trans q1, q2⟩⟩
    have hN4 : ∀ b ∈ [z, TI, TO, i1, i2], upd σ'.H T (.tuple [xs[i]'(by lia), ys[i]'(by lia)]) b = none := fun b hb => (upd_ne (fun q => by
      have h1 := hN b hb
      have : ∃ o, s'.heap.get? b = some o := by
        simp only [List.mem_cons, List.mem_nil_iff, or_false] at hb
        rcases hb with h | h | h | h | h
        · subst h; exact ⟨_, hz'⟩
        · subst h; exact ⟨_, hTI'⟩
        · subst h; exact ⟨_, hTO'⟩
        · subst h; refine x1_2 hi1' ?_; (try clear hi1'); intro o ho _; exact ⟨o, ho⟩
        · subst h; refine x1_2 hi2' ?_; (try clear hi2'); intro o ho _; exact ⟨o, ho⟩
      refine x1_1 this ?_; (try clear this); intro o ho
      rw [q, ← hTe] at ho
      exact absurd (Heap.lt_size ho) (Nat.lt_irrefl _))).trans (hN b hb)
    have hTI₃ : IsPair h₃ TI (.ref i1) (.ref i2) := (hs₃.2 _ D.TIz).trans (kp₂ _ _ D.TIz D.TITO D.TIi1 D.TIi2 hTI')
    have hTO₃ : IsPair h₃ TO u1 u2 := (hs₃.2 _ D.TOz).trans hTO₂
    have hi1₃ : h₃.IsListIter i1 l1 (i + 1) := hi1₂.extBut hs₃.extBut D.i1z
    have hi2₃ : h₃.IsListIter i2 l2 (i + 1) := hi2₂.extBut hs₃.extBut D.i2z
    refine noE (wpAny_mono (FZ.turn i _ _ T σ' hx hy j hT0 hTL _ x₄) ?_ fun _ _ x => x)
    intro _ s₅ hq6
    refine x1_3 hq6 ?_; (try clear hq6); intro σ₅ x₅ o₅ q₅
    refine noE (wpAny_mono (q₅ s₅ x₅) ?_ fun _ _ x => x)
    intro f s₆ hq7
    refine x1_3 hq7 ?_; (try clear hq7); intro σ₆ x₆ o₆ q₆
    have O6 := (o₄.trans o₅).trans o₆
    have st : ∀ b o, b ∈ [z, TI, TO, i1, i2] → h₃.get? b = some o → σ₆.H b = none ∧ s₆.heap.get? b = some o := fun b o hb e =>
      (o₅.trans o₆).keep b o (fun q => (new b hb).2.1 (Option.some.inj q)) (hN4 b hb) e
    have z1 := st z _ (by simp) hz₃
    have z2 := st TI _ (by simp) hTI₃
    have z3 := st TO _ (by simp) hTO₃
    refine x1_2 hi1₃ ?_; (try clear hi1₃); intro oi1 hoi1 ri1
    refine x1_2 hi2₃ ?_; (try clear hi2₃); intro oi2 hoi2 ri2
    have z4 := st i1 _ (by simp) hoi1
    have z5 := st i2 _ (by simp) hoi2
    have hN6 : ∀ b ∈ [z, TI, TO, i1, i2], σ₆.H b = none := fun b hb => by
      simp only [List.mem_cons, List.mem_nil_iff, or_false] at hb
      rcases hb with h | h | h | h | h
      · subst h; exact z1.1
      · subst h; exact z2.1
      · subst h; exact z3.1
      · subst h; exact z4.1
      · subst h; exact z5.1
    cases f with
    | next => exact ⟨_, by lia, i + 1, σ₆, rfl, hlt, x₆, O6, hN6, z1.2, z2.2, _, _, z3.2, ⟨oi1, z4.2, ri1⟩, ⟨oi2, z5.2, ri2⟩, q₆⟩
    | cont => exact ⟨_, by lia, i + 1, σ₆, rfl, hlt, x₆, O6, hN6, z1.2, z2.2, _, _, z3.2, ⟨oi1, z4.2, ri1⟩, ⟨oi2, z5.2, ri2⟩, q₆⟩
    | brk => exact ⟨σ₆, x₆, o₁.trans O6, q₆⟩
    | ret v => exact ⟨σ₆, x₆, o₁.trans O6, q₆⟩
  · have hie : i = min xs.length ys.length := by lia
    have hend : a1[i]? = none ∨ a2[i]? = none := by
      rcases Nat.le_total xs.length ys.length with h | h
      · exact .inl (Array.getElem?_eq_none (by rw [map_toList_size ea1]; lia))
      · exact .inr (Array.getElem?_eq_none (by rw [map_toList_size ea2]; lia))
    refine wpAny_pyNext_zip_end hr D hz' hTI' hTO' hi1' hi2' ⟨_, ho1, rfl, n1, rfl⟩ ⟨_, ho2, rfl, n2, rfl⟩ hend fun h₂ kp₂ => ?_
    have kp : ∀ b o, b ∉ [z, TO, i1, i2] → s'.heap.get? b = some o → h₂.get? b = some o := fun b o hb e => by
      simp only [List.mem_cons, List.mem_nil_iff, or_false, not_or] at hb
      exact kp₂ b o hb.1 hb.2.1 hb.2.2.1 hb.2.2.2 e
    exact wpAny_execs_nil ⟨σ', x'.wrote (tk := s'.toks) hw kp, o₁.trans (o'.wrote (tk := s'.toks) hw' kp), FZ.fin σ' (hie ▸ j)⟩
end

end -- MW12

section -- MW13

section
variable {G : Gl} {A : Around} {env : Env} {σ : St} {L : Addr}

/-- a new object, by what it is -/
theorem FAbs.newAt {s : Shared} (X : FAbs G L σ s) {h' : Heap} {tk : Nat} {o : Obj} {mo : MO} (kp : ∀ b o', s.heap.get? b = some o' → h'.get? b = some o') (ho : h'.get? s.heap.objs.size = some o) (hi : mo.Is G o) :
    FAbs G L ⟨σ.m, upd σ.H s.heap.objs.size mo⟩ { s with heap := h', toks := tk } ∧ Out (some L) σ.H (upd σ.H s.heap.objs.size mo) s { s with heap := h', toks := tk } ∧ σ.H s.heap.objs.size = none ∧ s.heap.objs.size ≠ L := by
  (refine x0_3 X.next ?_; intro h1 h2 h3)
  refine x0_2 (X.raw (tk := tk) kp) ?_; intro X1 O1
  refine ⟨X1.track ho hi h3 h2, ⟨O1.sh, fun b o' hb hn e => ?_⟩, h1, h2⟩
  refine x0_2 (O1.keep b o' hb hn e) ?_; intro q1 q2
  exact ⟨(upd_ne (fun q => by rw [q] at e; exact absurd (Heap.lt_size e) (Nat.lt_irrefl _))).trans q1, q2⟩

theorem W_list_copy {l : Addr} {z : Bool} {xs : List Value} {Q : Value → St → Prop} (h : σ.H l = some (.list z xs)) (hz : xs.length ≤ 1000000) (q : ∀ a, σ.H a = none → a ≠ L → Q (.ref a) ⟨σ.m, upd σ.H a (.list false xs)⟩) : Wcall G A L (.type "list") [.ref l] Q σ := fun us hu s X => by
  (refine x1_2 (one_arg hu) ?_; intro u rfl h1)
  obtain rfl := er_ref h1
  refine x2_3 (isList_of X h) ?_; intro vs n ho e _
  refine call_list_seq l (.inl rfl) ho rfl rfl (fun h' c' kp hD => ?_) (by rw [map_toList_size e, sizeLine_eq]; lia)
  refine x0_4 (X.newAt (tk := s.toks) (mo := .list false xs) kp hD ⟨vs, c', rfl, e⟩) ?_; intro a b c d
  exact ⟨_, a, b, q _ c d⟩

theorem W_dict_copy (O : G.Ok) {d : Addr} {z : Bool} {es : List (Int × Value)} {Q : Value → St → Prop} (h : σ.H d = some (.tab z es)) (hd : d ≠ sysModules) (hz : es.length ≤ 1000000) (q : ∀ a, σ.H a = none → a ≠ L → a ≠ sysModules → Q (.ref a) ⟨σ.m, upd σ.H a (.tab false es)⟩) : Wcall G A L (.type "dict") [.ref d] Q σ := fun us hu s X => by
  (refine x1_2 (one_arg hu) ?_; intro u rfl h1)
  obtain rfl := er_ref h1
  refine x1_2 (tab_of X h) ?_; intro kvs hk e
  have hl : kvs.length = es.length := by rw [← e, List.length_map]
  refine kt_call_dict (beq_eq_false_iff_ne.mpr hd) hk (by rw [hl, sizeLine_eq]; lia) fun h' hm hs => ?_
  refine x1_2 (Heap.dictOf_iff.mp hm) ?_; intro o' ho' hd'
  have kp : ∀ b o', s.heap.get? b = some o' → h'.get? b = some o' := fun b o' e => (hs.2 b (fun q => by rw [q] at e; exact absurd (Heap.lt_size e) (Nat.lt_irrefl _))).trans (Heap.get?_push_of_some _ e)
  refine x0_4 (X.newAt (tk := s.toks) (mo := .tab false es) kp ho' ⟨kvs, hd', e⟩) ?_; intro a b c dd
  refine ⟨_, a, b, q _ c dd ?_⟩
  have h1 := modules_low O.top.nolimit
  exact Nat.ne_of_gt (Nat.lt_of_lt_of_le h1 X.h.sz)

theorem W_setItem_list {l : Addr} {xs : List Value} {k : Int} {v : Value} {Q : Unit → St → Prop} (h : σ.H l = some (.list false xs)) (h0 : 0 ≤ k) (hk : k < xs.length) (hz : xs.length ≤ 1000000) (q : Q () ⟨σ.m, upd σ.H l (.list false (xs.set k.toNat (er v)))⟩) :
    ∀ k', er k' = .int k 0 → Wt G A L id (setItem (.ref l) k' v) Q σ := fun k' hk' s X => by
  (refine x1_1 (er_int hk') ?_; intro t rfl)
  refine x2_3 (isList_of X h) ?_; intro vs n ho e _
  refine ki_setAt ho h0 (by lia) (by rw [map_toList_size e]; exact hk) ?_
  have hlst := PySem.IsL.update ho (·.setIfInBounds k.toNat v)
  refine x0_2 (X.turnRaw (tk := s.toks) (mo := .list false (xs.set k.toNat (er v))) h (Heap.SameBut.update ..) hlst ⟨_, _, rfl, by rw [← e]; simp [List.map_set]⟩) ?_; intro a b
  exact ⟨_, a, b, q⟩

theorem W_pop0 {l : Addr} {v : Value} {xs : List Value} {Q : Value → St → Prop} (h : σ.H l = some (.list false (v :: xs))) (hz : xs.length ≤ 10000) (q : Q v ⟨σ.m, upd σ.H l (.list false xs)⟩) : Wcall G A L (.builtin "list.pop") [.ref l, .int 0 0] Q σ := fun us hu s X => by
  (refine x2_3 (two_args hu) ?_; intro u u' rfl h1 h2)
  obtain rfl := er_ref h1
  refine x1_1 (er_int h2) ?_; intro t rfl
  refine x2_3 (isList_of X h) ?_; intro vs n ho e hm
  refine x1_2 X.fr ?_; intro m F hml
  have hsz : vs.size = xs.length + 1 := map_toList_size e
  cases hv : vs.toList with
  | nil => rw [hv] at e; cases e
  | cons y r =>
    rw [hv, List.map_cons] at e
    refine x0_2 (List.cons.inj e) ?_; intro e1 e2
    refine x1_1 (upd_exists (o' := listOf ([] ++ r).toArray (n + 1)) (full_nodup G.B s.heap L) hm) ?_; intro news' U
    refine kl_popAt (i := 0) (k := 0) F X.full (by decide) (by unfold seqIndex?; rw [hsz]; simp) (by rw [hv]; rfl) U (by rw [hv, sizeLine_eq]; simp; have := congrArg List.length e2; rw [List.length_map] at this; lia) fun h' F' N' => ?_
    refine x0_2 (X.turn (tk := s.toks) (mo := .list false xs) hml h F' N' U ⟨_, _, rfl, by simpa using e2⟩) ?_; intro x z
    exact ⟨_, x, z, by rw [e1]; exact q⟩

theorem W_extend {l b : Addr} {z : Bool} {xs ys : List Value} {Q : Value → St → Prop} (h : σ.H l = some (.list false xs)) (hb : σ.H b = some (.list z ys)) (hne : ys ≠ []) (hz : xs.length + ys.length ≤ 1000000) (q : Q .none ⟨σ.m, upd σ.H l (.list false (xs ++ ys))⟩) : Wcall G A L (.builtin "list.extend") [.ref l, .ref b] Q σ := fun us hu s X => by
  (refine x2_3 (two_args hu) ?_; intro u u' rfl h1 h2)
  obtain rfl := er_ref h1
  obtain rfl := er_ref h2
  refine x2_3 (isList_of X h) ?_; intro vs n ho e hm
  refine x2_3 (isList_of X hb) ?_; intro ws n' ho' e' hm'
  refine x1_2 X.fr ?_; intro m F hml
  have hsz := map_toList_size e
  have hsz' := map_toList_size e'
  refine x1_1 (upd_exists (o' := listOf (vs.toList ++ ws.toList).toArray (n + 1)) (full_nodup G.B s.heap L) hm) ?_; intro news' U
  refine kl_extend F X.full hm' rfl ?_ U ?_ (by rw [Array.length_toList, sizeLine_eq]; lia) (by rw [sizeLine_eq]; lia) fun h' F' N' => ?_
  · intro q
    have : ys.length = 0 := by rw [← hsz', ← Array.length_toList]; exact q
    exact hne (List.eq_nil_of_length_eq_zero this)
  · exact extend_door (by rw [sizeLine_eq]; lia)
  refine x0_2 (X.turn (tk := s.toks) (mo := .list false (xs ++ ys)) hml h F' N' U ⟨_, _, rfl, by simp [e, e']⟩) ?_; intro x zz
  exact ⟨_, x, zz, q⟩

theorem W_abs {i : Int} {Q : Value → St → Prop} (q : Q (.int (if i < 0 then -i else i) 0) σ) : Wcall G A L (.builtin "abs") [.int i 0] Q σ := fun us hu s X => by
  (refine x1_2 (one_arg hu) ?_; intro u rfl h1)
  refine x1_1 (er_int h1) ?_; intro t rfl
  exact call_abs_int fun u tk => ⟨σ, X.tok, Out.tok, q⟩

theorem W_pow {a b : Int} {Q : Value → St → Prop} (hc0 : b ≥ 0) (hc1 : ¬(b == 0) = true) (hc2 : ¬(a == 0 || a == 1) = true) (hc3 : ¬(a == -1) = true) (hc4 : ¬Builtin.Int.intTooBig (((Builtin.Int.intBits a : Nat) : Int) * b) = true) (q : Q (.int (a ^ b.toNat) 0) σ) : Wv2 G A L er (binaryOp .Pow) (.int a 0) (.int b 0) Q σ := fun u u' h h' s X => by
  (refine x2_2 (ints2 h h') ?_; intro t t' rfl rfl)
  exact AutoIntOps.pow_4 hc0 hc1 hc2 hc3 hc4 ⟨σ, X.tok, Out.tok, q⟩

/-- membership -/
theorem W_in_tuple_ints {t : Addr} {k : Int} {ns : List Int} {Q : Value → St → Prop} (h : σ.H t = some (.tuple (ns.map fun n => .int n 0))) (q : Q (.bool (ns.contains k)) σ) : Wv2 G A L er (compareOp .In) (.int k 0) (.ref t) Q σ := fun u u' hu hu' s X => by
  (refine x1_1 (er_int hu) ?_; intro tt rfl)
  obtain rfl := er_ref hu'
  refine x1_2 (isTup_of X h) ?_; intro vs hv e
  have hall : ∀ y ∈ vs, ∃ n t, y = .int n t := fun y hy => by
    have : er y ∈ ns.map fun n => Value.int n 0 := by rw [← e]; exact List.mem_map.mpr ⟨y, by simpa using hy, rfl⟩
    refine x1_2 (List.mem_map.mp this) ?_; intro n _ hn
    refine x1_1 (er_int hn.symm) ?_; intro t ht
    exact ⟨n, t, ht⟩
  refine PySem.SeqAt.in_tupleAt (fun y => match y with | .int n _ => n == k | _ => false) hv (fun y hy => ?_) ⟨σ, X, Out.refl .., ?_⟩
  · refine x2_1 (hall y hy) ?_; intro n t rfl
    exact PySem.SeqAt.EqAt.int_int n t k tt
  · have : (vs.any fun y => match y with | .int n _ => n == k | _ => false) = ns.contains k := by
      rw [← Array.any_toList]
      clear hall hv q h
      generalize vs.toList = l at e
      induction l generalizing ns with
      | nil => cases ns with | nil => rfl | cons _ _ => cases e
      | cons y l ih => cases ns with
        | nil => cases e
        | cons n ns =>
          rw [List.map_cons, List.map_cons] at e
          refine x0_2 (List.cons.inj e) ?_; intro e1 e2
          refine x1_1 (er_int e1) ?_; intro t rfl
          rw [List.any_cons, ih e2, List.contains_cons]
          congr 1
          show (n == k) = (k == n)
          rw [Bool.eq_iff_iff, beq_iff_eq, beq_iff_eq]; exact ⟨Eq.symm, Eq.symm⟩
    rw [this]
    exact q

/-- what no comparison with None finds -/
inductive NotNone (H : Hp) : Value → Prop
  | int (i : Int) : NotNone H (.int i 0)
  | str (x : Str) : NotNone H (.str x 0)
  | tup {t : Addr} {xs : List Value} : H t = some (.tuple xs) → NotNone H (.ref t)
theorem W_none_in {l : Addr} {z : Bool} {xs : List Value} {Q : Value → St → Prop} {n : Nat} (R : Rm A (n + 1)) (h : σ.H l = some (.list z xs)) (hx : ∀ v ∈ xs, NotNone σ.H v) (q : Q (.bool false) σ) : Wv2 G A L er (compareOp .In) .none (.ref l) Q σ := fun u u' hu hu' s X => by
  obtain rfl := er_none hu
  obtain rfl := er_ref hu'
  refine x2_3 (isList_of X h) ?_; intro vs m ho e _
  refine PySem.SeqAt.in_listAt (fun _ => false) ⟨_, ho, rfl, m, rfl⟩ (fun y hy => ?_) ⟨σ, X, Out.refl .., ?_⟩
  · have hm : er y ∈ xs := by rw [← e]; exact List.mem_map.mpr ⟨y, by simpa using hy, rfl⟩
    have hn := hx _ hm
    generalize hv : er y = v at hn
    cases hn with
    | int i => (refine x1_1 (er_int hv) ?_; intro t rfl); exact PySem.SeqAt.EqAt.int_none i t
    | str x => (refine x1_1 (er_str hv) ?_; intro t rfl); exact PySem.SeqAt.EqAt.str_none x t
    | @tup t ys ht =>
      obtain rfl := er_ref hv
      refine x1_2 (isTup_of X ht) ?_; intro ws hw _
      exact PySem.SeqAt.EqAt.tuple_none hw (by have := R.un; show A.units + 1 < _; lia)
  · have : (vs.any fun _ => false) = false := by simp
    rw [this]; exact q

theorem ints_are : ∀ {vs : List Value} {ns : List Int}, vs.map er = ns.map (fun n => Value.int n 0) → IntsAre vs ns
  | [], [], _ => .nil
  | [], _ :: _, e => by cases e
  | _ :: _, [], e => by cases e
  | v :: vs, n :: ns, e => by
    rw [List.map_cons, List.map_cons] at e
    refine x0_2 (List.cons.inj e) ?_; intro e1 e2
    refine x1_1 (er_int e1) ?_; intro t rfl
    exact .cons n t (ints_are e2)
theorem W_ne_ints {x y : Addr} {z z' : Bool} {ns ms : List Int} {n : Nat} {Q : Value → St → Prop} (R : Rm A (n + 7)) (hx : σ.H x = some (.list z (ns.map fun n => .int n 0))) (hy : σ.H y = some (.list z' (ms.map fun n => .int n 0))) (q : Q (.bool (!decide (ns = ms))) σ) :
    Wv2 G A L er (compareOp .NotEq) (.ref x) (.ref y) Q σ := fun u u' hu hu' s X => by
  obtain rfl := er_ref hu
  obtain rfl := er_ref hu'
  refine x2_3 (isList_of X hx) ?_; intro vs m ho e _
  refine x2_3 (isList_of X hy) ?_; intro ws m' ho' e' _
  refine ke_ne_ints (xs := vs.toList) (ys := ws.toList) ⟨_, ho, rfl, m, by simp⟩ ⟨_, ho', rfl, m', by simp⟩ (ints_are e) (ints_are e') (by have := R.un; lia) ⟨σ, X, Out.refl .., q⟩

/-- a < b <= c -/
theorem Wb_chain2 {l r₁ r₂ : PySem.Expr} {op₁ op₂ : CmpOp} {pos : Pos} {Q : Bool → St → Prop}
    (h : We G A env l (fun a σ₁ => We G A env r₁ (fun b σ₂ => Wv2 G A env.locals er (compareOp op₁) a b (fun c σ₃ => Wv G A env.locals id truthy c (fun t σ₄ => if t = true then We G A env r₂ (fun d σ₅ => Wv2 G A env.locals er (compareOp op₂) b d (fun c' σ₆ => Wv G A env.locals id truthy c' Q σ₆) σ₅) σ₄ else Q false σ₄) σ₃) σ₂) σ₁) σ)
    (hm : lastMarks [op₁, op₂] [r₁, r₂] = false := by with_unfolding_all rfl) : Wb G A env (.Compare l [op₁, op₂] [r₁, r₂] pos) Q σ := fun s X => by
  refine isTrue_chain (wpAny_mono (h s X) ?_ fun _ _ x => x) hm
  intro a s₁ hq1
  refine x1_3 hq1 ?_; (try clear hq1); intro σ₁ x₁ o₁ q₁
  refine test_link (wpAny_mono (q₁ s₁ x₁) ?_ fun _ _ x => x)
  intro b s₂ hq2
  refine x1_3 hq2 ?_; (try clear hq2); intro σ₂ x₂ o₂ q₂
  refine wpAny_mono (q₂ a b rfl rfl s₂ x₂) ?_ fun _ _ x => x
  intro c s₃ hq3
  refine x1_3 hq3 ?_; (try clear hq3); intro σ₃ x₃ o₃ q₃
  refine wpAny_mono (q₃ c rfl s₃ x₃) ?_ fun _ _ x => x
  intro t s₄ hq4
  refine x1_3 hq4 ?_; (try clear hq4); intro σ₄ x₄ o₄ q₄
  have O4 := ((o₁.trans o₂).trans o₃).trans o₄
  cases t with
  | false => exact ⟨σ₄, x₄, O4, q₄⟩
  | true =>
    refine test_last (wpAny_mono (q₄ s₄ x₄) ?_ fun _ _ x => x)
    intro d s₅ hq5
    refine x1_3 hq5 ?_; (try clear hq5); intro σ₅ x₅ o₅ q₅
    refine wpAny_mono (q₅ b d rfl rfl s₅ x₅) ?_ fun _ _ x => x
    intro c' s₆ hq6
    refine x1_3 hq6 ?_; (try clear hq6); intro σ₆ x₆ o₆ q₆
    exact W_then (q₆ c' rfl) x₆ ((O4.trans o₅).trans o₆)
end

end -- MW13

section -- MW14

abbrev IsZipO (h : Heap) (z TI TO T : Addr) (f : Bool) : Prop :=
  h.get? z = some { cls := .type "zip", dict := none, data := .fields #[rawInt T, .bool f, .bool false, .ref TI, .ref TO], slots := #[] }

section
variable {prog : Program} {w : World} {A : Around} {E : Value → Shared → Prop} {s : Shared}
theorem zip_owned {z TI TO T : Addr} {f : Bool} {oT : Obj} {Q : Bool → Shared → Prop} (hz : IsZipO s.heap z TI TO T f) (hT : s.heap.get? T = some oT)
    (hQ : ∀ h₁, IsZipO h₁ z TI TO T true → Heap.SameBut z s.heap h₁ → Q false { s with heap := h₁ }) : wpAny (model prog w) A (Builtin.SmallTypes.ownedTupleIsFree (.ref z)) Q E s := by
  unfold Builtin.SmallTypes.ownedTupleIsFree
  refine wpAny_bind (wpAny_field hz rfl (x := rawInt T) rfl ?_)
  show wpAny _ _ (loadIfAlive ((T : Int).toNat) >>= _) _ _ _
  rw [Int.toNat_natCast]
  have alive : ∀ {Q' : Option Obj → Shared → Prop} {E' : Value → Shared → Prop}, Q' (some oT) s → wpAny (model prog w) A (loadIfAlive T) Q' E' s := fun {Q' E'} h => by
    have h' : Q' (s.heap.get? T) s := by rw [hT]; exact h
    exact fun _ _ _ => h'
  refine wpAny_bind (alive ?_)
  simp only [Option.isNone_some, Bool.false_eq_true, if_false]
  refine wpAny_bind (wpAny_field hz rfl (x := .bool f) rfl ?_)
  cases f with
  | true =>
    rw [if_neg (show ¬ ((Value.bool true != Value.bool true) = true) from Bool.false_ne_true)]
    exact wpAny_pure (hQ s.heap hz (Heap.SameBut.refl _ _))
  | false =>
    rw [if_pos (show (Value.bool false != Value.bool true) = true from rfl)]
    exact wpAny_bind (wpAny_setField_rec hz (by simp) fun h₁ hz₁ hs₁ => wpAny_pure (hQ h₁ hz₁ hs₁))
/-- the next pair while the last one is still held -/
theorem zip_next_out {z TI TO T i1 i2 l1 l2 : Addr} {f : Bool} {oT : Obj} {k1 k2 : Nat} {xs ys : Array Value} {x y : Value} {Q : Value → Shared → Prop} (D : ZipApart z TI TO i1 i2 l1 l2)
    (hz : IsZipO s.heap z TI TO T f) (hT : s.heap.get? T = some oT) (hTI : IsPair s.heap TI (.ref i1) (.ref i2))
    (h1 : s.heap.IsListIter i1 l1 k1) (h2 : s.heap.IsListIter i2 l2 k2) (hl1 : s.heap.IsList l1 xs) (hl2 : s.heap.IsList l2 ys) (hx : xs[k1]? = some x) (hy : ys[k2]? = some y)
    (hQ : ∀ h', IsZipO h' z TI TO T true → h'.IsListIter i1 l1 (k1 + 1) → h'.IsListIter i2 l2 (k2 + 1) → IsPair h' s.heap.objs.size x y → h'.objs.size = s.heap.objs.size + 1 →
      (∀ c o, c ≠ z → c ≠ i1 → c ≠ i2 → s.heap.get? c = some o → h'.get? c = some o) → Q (.ref s.heap.objs.size) { s with heap := h' }) :
    wpAny (model prog w) A (Builtin.«zip.__next__» ⟨[.ref z], []⟩) (fun fin s' => ∃ v, fin = .done (.ret v) ∧ Q v s') E s := by
  show wpAny _ _ (field (.ref z) 2 >>= _) _ _ _
  refine wpAny_bind (wpAny_field hz rfl (x := .bool false) rfl ?_)
  show wpAny _ _ (field (.ref z) 3 >>= _) _ _ _
  refine wpAny_bind (wpAny_field hz rfl (x := .ref TI) rfl ?_)
  refine wpAny_bind (wpAny_seqItems hTI rfl ?_)
  show wpAny _ _ (Builtin.SmallTypes.ownedTupleIsFree (.ref z) >>= _) _ _ _
  refine wpAny_bind (zip_owned hz hT fun h₁ hz₁ hs₁ => ?_)
  simp only [Bool.false_eq_true, if_false]
  rw [← Array.forIn_toList]
  refine wpAny_bind ?_
  simp only [List.forIn_cons, List.forIn_nil]
  refine wpAny_bind (wpAny_bind (wpAny_holding ?_))
  show wpAny _ _ (Builtin.SmallTypes.nextOf (.ref i1) >>= _) _ _ _
  refine wpAny_bind (wpAny_nextOf_list_item (h1.extBut hs₁.extBut D.i1z) (hl1.extBut hs₁.extBut D.l1z) hx fun h₂ h1₂ hs₂ => wpAny_pure ?_)
  refine wpAny_pure ?_
  refine wpAny_bind (wpAny_bind (wpAny_holding ?_))
  show wpAny _ _ (Builtin.SmallTypes.nextOf (.ref i2) >>= _) _ _ _
  refine wpAny_bind (wpAny_nextOf_list_item ((h2.extBut hs₁.extBut D.i2z).extBut hs₂.extBut D.i12.symm) ((hl2.extBut hs₁.extBut D.l2z).extBut hs₂.extBut D.l2i1) hy fun h₃ h2₃ hs₃ => wpAny_pure ?_)
  refine wpAny_pure (wpAny_pure ?_)
  show wpAny _ _ (newTuple [x, y] >>= _) _ _ { s with heap := h₃ }
  refine wpAny_bind (wpAny_newTuple ?_)
  have hsz : h₃.objs.size = s.heap.objs.size := by rw [hs₃.1, hs₂.1, hs₁.1]
  have hz₃ : IsZipO h₃ z TI TO T true := hs₃.extBut _ _ D.i2z.symm (hs₂.extBut _ _ D.i1z.symm hz₁)
  have h1₃ : h₃.IsListIter i1 l1 (k1 + 1) := h1₂.extBut hs₃.extBut D.i12
  have up : ∀ c o, h₃.get? c = some o → (h₃.push { cls := .type "tuple", data := .seq #[x, y] }).get? c = some o := fun c o e => Heap.get?_push_of_some _ e
  refine wpAny_pure ⟨_, rfl, ?_⟩
  have := hQ (h₃.push { cls := .type "tuple", data := .seq #[x, y] }) (up _ _ hz₃) (h1₃.at fun o e => up _ o e) (h2₃.at fun o e => up _ o e) (by rw [← hsz]; exact Heap.get?_push_size _ rfl) (by rw [Heap.size_push, hsz])
    fun c o c1 c2 c3 e => up _ _ (hs₃.extBut _ _ c3 (hs₂.extBut _ _ c2 (hs₁.extBut _ _ c1 e)))
  rw [← hsz] at this
  exact this
theorem pyNext_zip_out {z TI TO T i1 i2 l1 l2 : Addr} {f : Bool} {oT : Obj} {k1 k2 : Nat} {xs ys : Array Value} {x y : Value} {Q : Option Value → Shared → Prop} (D : ZipApart z TI TO i1 i2 l1 l2)
    (hz : IsZipO s.heap z TI TO T f) (hT : s.heap.get? T = some oT) (hTI : IsPair s.heap TI (.ref i1) (.ref i2))
    (h1 : s.heap.IsListIter i1 l1 k1) (h2 : s.heap.IsListIter i2 l2 k2) (hl1 : s.heap.IsList l1 xs) (hl2 : s.heap.IsList l2 ys) (hx : xs[k1]? = some x) (hy : ys[k2]? = some y)
    (hQ : ∀ h', IsZipO h' z TI TO T true → h'.IsListIter i1 l1 (k1 + 1) → h'.IsListIter i2 l2 (k2 + 1) → IsPair h' s.heap.objs.size x y → h'.objs.size = s.heap.objs.size + 1 →
      (∀ c o, c ≠ z → c ≠ i1 → c ≠ i2 → s.heap.get? c = some o → h'.get? c = some o) → Q (some (.ref s.heap.objs.size)) { s with heap := h' }) :
    wpAny (model prog w) A (pyNext (.ref z)) Q E s := by
  have hTy : s.TypeIs (.ref z) "zip" := ⟨_, hz, rfl⟩
  unfold pyNext
  exact wpAny_bind (wpAny_attempt (wpAny_callSpecial?_slot (name := Str.ofString "__next__") hTy PySem.F.slot_zip_next
    (wpAny_call_entry PySem.F.slot_zip_next hTy PySem.F.entry_zip_next
      (zip_next_out D hz hT hTI h1 h2 hl1 hl2 hx hy fun h' a1 a2 a3 a4 a5 a6 => wpAny_pure (hQ h' a1 a2 a3 a4 a5 a6)) (PySem.F.args_zip_next_1 _))))

theorem pyNext_zip_out_end {z TI TO T i1 i2 l1 l2 : Addr} {f : Bool} {oT : Obj} {k1 k2 : Nat} {xs ys : Array Value} {Q : Option Value → Shared → Prop} (hh : A.handled = none) (D : ZipApart z TI TO i1 i2 l1 l2)
    (hz : IsZipO s.heap z TI TO T f) (hT : s.heap.get? T = some oT) (hTI : IsPair s.heap TI (.ref i1) (.ref i2))
    (h1 : s.heap.IsListIter i1 l1 k1) (h2 : s.heap.IsListIter i2 l2 k2) (hl1 : s.heap.IsList l1 xs) (hl2 : s.heap.IsList l2 ys) (hend : xs[k1]? = none)
    (hQ : ∀ h', (∀ c o, c ≠ z → c ≠ i1 → c ≠ i2 → s.heap.get? c = some o → h'.get? c = some o) → Q none { s with heap := h' }) : wpAny (model prog w) A (pyNext (.ref z)) Q E s := by
  have hTy : s.TypeIs (.ref z) "zip" := ⟨_, hz, rfl⟩
  unfold pyNext
  refine wpAny_bind (wpAny_attempt (wpAny_callSpecial?_slot (name := Str.ofString "__next__") hTy PySem.F.slot_zip_next
    (wpAny_call_entry PySem.F.slot_zip_next hTy PySem.F.entry_zip_next ?_ (PySem.F.args_zip_next_1 _))))
  show wpAny _ _ (field (.ref z) 2 >>= _) _ _ _
  refine wpAny_bind (wpAny_field hz rfl (x := .bool false) rfl ?_)
  show wpAny _ _ (field (.ref z) 3 >>= _) _ _ _
  refine wpAny_bind (wpAny_field hz rfl (x := .ref TI) rfl ?_)
  refine wpAny_bind (wpAny_seqItems hTI rfl ?_)
  show wpAny _ _ (Builtin.SmallTypes.ownedTupleIsFree (.ref z) >>= _) _ _ _
  refine wpAny_bind (zip_owned hz hT fun h₁ hz₁ hs₁ => ?_)
  simp only [Bool.false_eq_true, if_false]
  rw [← Array.forIn_toList]
  refine wpAny_bind ?_
  simp only [List.forIn_cons, List.forIn_nil]
  refine wpAny_bind (wpAny_bind (wpAny_holding ?_))
  show wpAny _ _ (Builtin.SmallTypes.nextOf (.ref i1) >>= _) _ _ _
  refine wpAny_bind (wpAny_nextOf_list_end hh (h1.extBut hs₁.extBut D.i1z) (hl1.extBut hs₁.extBut D.l1z) hend fun h₂ e hs₂ he => ?_)
  refine x1_2 he ?_; (try clear he); intro o ho hc
  refine wpAny_bind (wpAny_isInstance (T := "StopIteration") (b := true) ⟨o, ho, hc⟩ isSubtype_stop ?_)
  exact wpAny_pure (hQ _ fun c o c1 c2 _ e => hs₂ _ _ c2 (hs₁.extBut _ _ c1 e))
end

end -- MW14

section -- MW15

section
variable {prog : Program} {w : World} {A : Around} {E : Value → Shared → Prop}

/-- a zip over two lists, before its i-th item, with the last pair still held -/
structure ZSt (h : Heap) (z TI TO i1 i2 l1 l2 : Addr) (xs ys : Array Value) (S : Addr) (i : Nat) : Prop where
  pair : IsPair h TI (.ref i1) (.ref i2)
  it1 : h.IsListIter i1 l1 i
  it2 : h.IsListIter i2 l2 i
  ls1 : h.IsList l1 xs
  ls2 : h.IsList l2 ys
  own : (i = 0 ∧ IsZip h z TI TO .none ∧ ∃ a b, IsPair h TO a b) ∨ ∃ T f oT, IsZipO h z TI TO T f ∧ h.get? T = some oT ∧ T ≠ S ∧ T ≠ z ∧ T ≠ i1 ∧ T ≠ i2

structure ZAcc (h : Heap) (xs ys : Array Value) (lo : Nat) (acc : Array Value) (i : Nat) : Prop where
  size : acc.size = i
  at_ : ∀ (j : Nat) (v : Value), acc[j]? = some v → ∃ (t : Addr) (x y : Value), v = Value.ref t ∧ lo ≤ t ∧ xs[j]? = some x ∧ ys[j]? = some y ∧ IsPair h t x y

theorem codeAny_extend_zip (hh : A.handled = none) {z TI TO i1 i2 l1 l2 S : Addr} {xs ys : Array Value} (D : ZipApart z TI TO i1 i2 l1 l2) (hS : S ∉ [z, TI, TO, i1, i2, l1, l2]) (hxy : xs.size = ys.size) (hn : xs.size ≤ sizeLine) {lo : Nat} (hlo : ∀ b ∈ [S, z, TI, TO, i1, i2], b < lo) {res : Value} {R : Result → Shared → Prop} :
    ∀ (k i : Nat) (s : Shared) (acc : Array Value) (c : Nat), xs.size - i = k → i ≤ xs.size → lo ≤ s.heap.objs.size → ZSt s.heap z TI TO i1 i2 l1 l2 xs ys S i → s.heap.get? S = some { cls := .type "list", dict := none, data := .seq acc c, slots := #[] } → ZAcc s.heap xs ys lo acc i →
    (∀ h' acc' c', (∀ b o, b ∉ [S, z, TO, i1, i2] → s.heap.get? b = some o → h'.get? b = some o) → h'.get? S = some { cls := .type "list", dict := none, data := .seq acc' c', slots := #[] } → ZAcc h' xs ys lo acc' xs.size → R (.ok (.ret res)) { s with heap := h' }) →
    codeAny (model prog w) A (.builtin "list.extend.loop" ⟨[.ref S, .ref z, res], []⟩) R s := by
  simp only [List.mem_cons, List.mem_nil_iff, or_false, not_or] at hS
  refine x0_7 hS ?_; (try clear hS); intro hSz hSTI hSTO hS1 hS2 hSl1 hSl2
  intro k
  induction k with
  | zero =>
    intro i s acc c hk hi hls Z hSo hacc hR
    obtain rfl : i = xs.size := by lia
    refine codeAny_builtin PySem.F.entry_extend_loop ?_
    rw [Around.under_plainId PySem.F.plain_extend_loop _]
    show wpAny _ A.in1 (pyNext (.ref z) >>= _) _ _ s
    have fin : ∀ h', (∀ c o, c ≠ z → c ≠ TO → c ≠ i1 → c ≠ i2 → s.heap.get? c = some o → h'.get? c = some o) → R (.ok (.ret res)) { s with heap := h' } := fun h' kp => by
      refine hR h' acc c (fun b o hb e => ?_) (kp _ _ hSz hSTO hS1 hS2 hSo) ⟨hacc.size, fun j v hv => ?_⟩
      · simp only [List.mem_cons, List.mem_nil_iff, or_false, not_or] at hb
        exact kp b o hb.2.1 hb.2.2.1 hb.2.2.2.1 hb.2.2.2.2 e
      · refine x3_5 (hacc.at_ j v hv) ?_; intro t x y e1 e2 e3 e4 e5
        have ne : ∀ b ∈ [S, z, TI, TO, i1, i2], t ≠ b := fun b hb => Nat.ne_of_gt (Nat.lt_of_lt_of_le (hlo b hb) e2)
        exact ⟨t, x, y, e1, e2, e3, e4, kp _ _ (ne _ (by simp)) (ne _ (by simp)) (ne _ (by simp)) (ne _ (by simp)) e5⟩
    have hend : xs[xs.size]? = none := Array.getElem?_eq_none (Nat.le_refl _)
    rcases Z.own with ⟨_, hz, ta, tb, hTO⟩ | ⟨T, f, oT, hz, hT, _, _⟩
    · refine wpAny_bind (wpAny_pyNext_zip_end hh D hz Z.pair hTO Z.it1 Z.it2 Z.ls1 Z.ls2 (.inl hend) fun h' kp => ?_)
      exact wpAny_pure (fin h' kp)
    · refine wpAny_bind (pyNext_zip_out_end hh D hz hT Z.pair Z.it1 Z.it2 Z.ls1 Z.ls2 hend fun h' kp => ?_)
      exact wpAny_pure (fin h' fun c o c1 _ c3 c4 e => kp c o c1 c3 c4 e)
  | succ k ih =>
    intro i s acc c hk hi hls Z hSo hacc hR
    have hlt : i < xs.size := by lia
    refine codeAny_builtin PySem.F.entry_extend_loop ?_
    rw [Around.under_plainId PySem.F.plain_extend_loop _]
    show wpAny _ A.in1 (pyNext (.ref z) >>= _) _ _ s
    have hx : xs[i]? = some xs[i] := Array.getElem?_eq_getElem hlt
    have hy : ys[i]? = some (ys[i]'(by lia)) := Array.getElem?_eq_getElem (by lia)
    have turn : ∀ h', (∃ T f oT, IsZipO h' z TI TO T f ∧ h'.get? T = some oT ∧ T ≠ S ∧ T ≠ z ∧ T ≠ i1 ∧ T ≠ i2) → h'.IsListIter i1 l1 (i + 1) → h'.IsListIter i2 l2 (i + 1) → IsPair h' s.heap.objs.size xs[i] (ys[i]'(by lia)) → h'.objs.size = s.heap.objs.size + 1 →
        (∀ c o, c ≠ z → c ≠ TO → c ≠ i1 → c ≠ i2 → s.heap.get? c = some o → h'.get? c = some o) →
        wpAny (model prog w) A.in1 (updateSeq S (·.push (.ref s.heap.objs.size)) >>= fun _ => (again (.builtin "list.extend.loop" ⟨[.ref S, .ref z, res], []⟩) : Sem Fin)) (fun fin s' => match fin with | .done f => R (.ok f) s' | .again c' => c'.quiet = true ∧ codeAny (model prog w) A c' R s') (fun e s' => R (.error e) s') { s with heap := h' } := by
      intro h' hq1
      refine x3_4 hq1 ?_; (try clear hq1); intro T f oT hz' hT' hTS' hTr
      intro hi1 hi2 hp hsz kp
      have hS' := kp _ _ hSz hSTO hS1 hS2 hSo
      have hup := Heap.get?_update_self (Obj.mapSeq (·.push (Value.ref s.heap.objs.size))) hS' rfl
      have oth : ∀ b o, b ≠ S → h'.get? b = some o → (h'.update S (Obj.mapSeq (·.push (Value.ref s.heap.objs.size)))).get? b = some o := fun b o hb e => (Heap.get?_update_other _ _ (Ne.symm hb)).trans e
      have hSn : s.heap.objs.size ≠ S := Nat.ne_of_gt (Nat.lt_of_lt_of_le (hlo S (by simp)) hls)
      refine wpAny_bind ?_
      refine wpAny_updateSeq hS' rfl (wpAny_pure ⟨plainId_quiet PySem.F.plain_extend_loop _, ih (i + 1) _ (acc.push (.ref s.heap.objs.size)) _ (by lia) hlt ?_ ⟨?_, ?_, ?_, ?_, ?_, .inr ⟨T, f, oT, oth _ _ (Ne.symm hSz) hz', oth _ _ hTS' hT', hTS', hTr⟩⟩ hup ⟨by rw [Array.size_push, hacc.size], fun j v hv => ?_⟩ ?_⟩) (by rw [hacc.size]; lia) (by show (acc.push _).size ≤ sizeLine + 1; rw [Array.size_push, hacc.size]; lia)
      · show lo ≤ (h'.update S _).objs.size
        rw [show (h'.update S (Obj.mapSeq (·.push (Value.ref s.heap.objs.size)))).objs.size = h'.objs.size from (Heap.SameBut.update ..).1, hsz]
        exact Nat.le_succ_of_le hls
      · exact oth _ _ (Ne.symm hSTI) (kp _ _ D.TIz D.TITO D.TIi1 D.TIi2 Z.pair)
      · exact hi1.at fun o e => oth _ o (Ne.symm hS1) e
      · exact hi2.at fun o e => oth _ o (Ne.symm hS2) e
      · exact Z.ls1.at fun o e => oth _ o (Ne.symm hSl1) (kp _ o D.l1z D.l1TO D.l1i1 D.l1i2 e)
      · exact Z.ls2.at fun o e => oth _ o (Ne.symm hSl2) (kp _ o D.l2z D.l2TO D.l2i1 D.l2i2 e)
      · rw [Array.getElem?_push] at hv
        split at hv
        · rename_i hj
          cases hv
          rw [hacc.size] at hj
          subst hj
          exact ⟨_, _, _, rfl, hls, hx, hy, oth _ _ hSn hp⟩
        · refine x3_5 (hacc.at_ j v hv) ?_; intro t x y e1 e2 e3 e4 e5
          have ne : ∀ b ∈ [S, z, TI, TO, i1, i2], t ≠ b := fun b hb => Nat.ne_of_gt (Nat.lt_of_lt_of_le (hlo b hb) e2)
          exact ⟨t, x, y, e1, e2, e3, e4, oth _ _ (ne _ (by simp)) (kp _ _ (ne _ (by simp)) (ne _ (by simp)) (ne _ (by simp)) (ne _ (by simp)) e5)⟩
      · intro h'' acc' c' kp2 hS2' hacc'
        refine hR h'' acc' c' (fun b o hb e => ?_) hS2' hacc'
        have hb' := hb
        simp only [List.mem_cons, List.mem_nil_iff, or_false, not_or] at hb'
        exact kp2 b o hb (oth _ _ hb'.1 (kp b o hb'.2.1 hb'.2.2.1 hb'.2.2.2.1 hb'.2.2.2.2 e))
    have hSn : s.heap.objs.size ≠ S := Nat.ne_of_gt (Nat.lt_of_lt_of_le (hlo S (by simp)) hls)
    have hnew : ∀ b ∈ [S, z, TI, TO, i1, i2], s.heap.objs.size ≠ b := fun b hb => Nat.ne_of_gt (Nat.lt_of_lt_of_le (hlo b hb) hls)
    rcases Z.own with ⟨_, hz, ta, tb, hTO⟩ | ⟨T, f, oT, hz, hT, hTS, hTz, hT1, hT2⟩
    · refine wpAny_bind (wpAny_pyNext_zip_item D hz Z.pair hTO Z.it1 Z.it2 Z.ls1 Z.ls2 hx hy fun h' a1 a2 a3 a4 a5 a6 kp => ?_)
      exact turn h' ⟨_, _, _, a1, a5, hSn, hnew _ (by simp), hnew _ (by simp), hnew _ (by simp)⟩ a3 a4 a5 a6 kp
    · refine wpAny_bind (pyNext_zip_out D hz hT Z.pair Z.it1 Z.it2 Z.ls1 Z.ls2 hx hy fun h' a1 a3 a4 a5 a6 kp => ?_)
      exact turn h' ⟨T, true, oT, a1, kp _ _ hTz hT1 hT2 hT, hTS, hTz, hT1, hT2⟩ a3 a4 a5 a6 fun c o c1 _ c3 c4 e => kp c o c1 c3 c4 e
end

end -- MW15

section -- MW16

theorem zip_no_len : typeLookup (.type "zip") "__len__" = pure none := by rw [typeLookup_type, builtinLookup_eq_fast]; kernel_rfl
theorem zip_no_hint : typeLookup (.type "zip") "__length_hint__" = pure none := by rw [typeLookup_type, builtinLookup_eq_fast]; kernel_rfl

section
variable {prog : Program} {w : World} {A : Around} {E : Value → Shared → Prop} {s : Shared}

theorem wpAny_extend_zip (hh : A.handled = none) {z TI TO i1 i2 l1 l2 S : Addr} {xs ys : Array Value} (D : ZipApart z TI TO i1 i2 l1 l2) (hS : S ∉ [z, TI, TO, i1, i2, l1, l2]) (hxy : xs.size = ys.size) (hn : xs.size ≤ sizeLine) {lo c₀ : Nat} (hlo : ∀ b ∈ [S, z, TI, TO, i1, i2], b < lo) (hls : lo ≤ s.heap.objs.size) {res : Value} {R : Result → Shared → Prop}
    (Z : ZSt s.heap z TI TO i1 i2 l1 l2 xs ys S 0) (hz : IsZip s.heap z TI TO .none) (hSo : s.heap.get? S = some { cls := .type "list", data := .seq #[] c₀ })
    (hR : ∀ h' acc' c', (∀ b o, b ∉ [S, z, TO, i1, i2] → s.heap.get? b = some o → h'.get? b = some o) → h'.get? S = some { cls := .type "list", dict := none, data := .seq acc' c', slots := #[] } → ZAcc h' xs ys lo acc' xs.size → R (.ok (.ret res)) { s with heap := h' }) :
    wpAny (model prog w) A.in1 (Builtin.List.listExtendWith (.ref S) (.ref z) res)
      (fun fin s' => match fin with | .done f => R (.ok f) s' | .again c' => c'.quiet = true ∧ codeAny (model prog w) A c' R s') (fun e s' => R (.error e) s') s := by
  have hT : s.TypeIs (.ref z) "zip" := ⟨_, hz, rfl⟩
  have hSz : S ≠ z := fun e => hS (by simp [e])
  unfold Builtin.List.listExtendWith
  refine wpAny_bind (wpAny_typeOf hT ?_)
  have h1 : Builtin.List.listSameRef (.ref S) (.ref z) = false := by simp [Builtin.List.listSameRef, hSz]
  have h2 : (Value.type "zip" == Value.type "list") = false := by decide
  have h3 : (Value.type "zip" == Value.type "tuple") = false := by decide
  simp only [h1, h2, h3, Bool.or_false, Bool.false_eq_true, if_false]
  refine wpAny_bind (wpAny_pyIter_zip hz ?_)
  refine wpAny_bind (wpAny_holding ?_)
  unfold Builtin.List.listLengthHint
  refine wpAny_bind (wpAny_specialOf hT zip_no_len ?_)
  show wpAny _ A.in1 (specialOf (Value.ref z) (Str.ofString "__length_hint__") >>= _) _ _ _
  refine wpAny_bind (wpAny_specialOf hT zip_no_hint ?_)
  refine wpAny_pure ?_
  show wpAny _ A.in1 (rule "list.extend.makes-room" >>= fun _ => Builtin.List.listTouch (.ref S) >>= fun _ =>
    again (.builtin "list.extend.loop" ⟨[.ref S, .ref z, res], []⟩)) _ _ _
  refine wpAny_bind (wpAny_rule ?_)
  refine wpAny_bind ?_
  show wpAny _ A.in1 (updateSeq S (·.push .none) >>= fun _ => updateSeq S (·.pop)) _ _ _
  refine wpAny_bind (wpAny_updateSeq hSo rfl ?_)
  have hS₂ := Heap.get?_update_self (Obj.mapSeq (·.push Value.none)) hSo rfl
  refine wpAny_updateSeq (hz := by seq_fits) hS₂ rfl ?_
  have hS₃ := Heap.get?_update_self (Obj.mapSeq (·.pop)) hS₂ rfl
  have oth : ∀ b o, b ≠ S → s.heap.get? b = some o → ((s.heap.update S (Obj.mapSeq (·.push Value.none))).update S (Obj.mapSeq (·.pop))).get? b = some o :=
    fun b o hb e => (Heap.get?_update_other _ _ (Ne.symm hb)).trans ((Heap.get?_update_other _ _ (Ne.symm hb)).trans e)
  have hS' := hS
  simp only [List.mem_cons, List.mem_nil_iff, or_false, not_or] at hS'
  refine x0_7 hS' ?_; (try clear hS'); intro _ hSTI hSTO hS1 hS2 hSl1 hSl2
  refine wpAny_pure ⟨plainId_quiet PySem.F.plain_extend_loop _, codeAny_extend_zip hh D hS hxy hn hlo _ 0 _ _ _ rfl (Nat.zero_le _) ?_ ⟨?_, ?_, ?_, ?_, ?_, ?_⟩ hS₃ ⟨rfl, fun j v hv => ?_⟩ fun h' acc' c' kp hS4 hacc => ?_⟩
  · show lo ≤ ((s.heap.update S _).update S _).objs.size
    rw [show ((s.heap.update S (Obj.mapSeq (·.push Value.none))).update S (Obj.mapSeq (·.pop))).objs.size = s.heap.objs.size from ((Heap.SameBut.update ..).1).trans (Heap.SameBut.update ..).1]
    exact hls
  · exact oth _ _ (Ne.symm hSTI) Z.pair
  · exact Z.it1.at fun o e => oth _ o (Ne.symm hS1) e
  · exact Z.it2.at fun o e => oth _ o (Ne.symm hS2) e
  · exact Z.ls1.at fun o e => oth _ o (Ne.symm hSl1) e
  · exact Z.ls2.at fun o e => oth _ o (Ne.symm hSl2) e
  · rcases Z.own with ⟨_, hz', ta, tb, hTO⟩ | ⟨T, f, oT, hzO, _⟩
    · exact .inl ⟨rfl, oth _ _ (Ne.symm hSz) hz', ta, tb, oth _ _ (Ne.symm hSTO) hTO⟩
    · have := hzO.symm.trans hz
      simp [rawInt] at this
  · simp at hv
  · refine hR h' acc' c' (fun b o hb e => kp b o hb (oth _ _ (fun q => hb (by simp [q])) e)) hS4 hacc

theorem wpAny_list_init_zip (hh : A.handled = none) {z TI TO i1 i2 l1 l2 S : Addr} {xs ys : Array Value} (D : ZipApart z TI TO i1 i2 l1 l2) (hS : S ∉ [z, TI, TO, i1, i2, l1, l2]) (hxy : xs.size = ys.size) (hn : xs.size ≤ sizeLine) {lo : Nat} (hlo : ∀ b ∈ [S, z, TI, TO, i1, i2], b < lo) (hls : lo ≤ s.heap.objs.size) {R : Result → Shared → Prop}
    (Z : ZSt s.heap z TI TO i1 i2 l1 l2 xs ys S 0) (hz : IsZip s.heap z TI TO .none) (hSo : s.heap.get? S = some { cls := .type "list", data := .seq #[] })
    (hR : ∀ h' acc' c', (∀ b o, b ∉ [S, z, TO, i1, i2] → s.heap.get? b = some o → h'.get? b = some o) → h'.get? S = some { cls := .type "list", dict := none, data := .seq acc' c', slots := #[] } → ZAcc h' xs ys lo acc' xs.size → R (.ok (.ret .none)) { s with heap := h' }) :
    wpAny (model prog w) A.in1 (Builtin.«list.__init__» ⟨[.ref S, .ref z], []⟩)
      (fun fin s' => match fin with | .done f => R (.ok f) s' | .again c' => c'.quiet = true ∧ codeAny (model prog w) A c' R s') (fun e s' => R (.error e) s') s := by
  show wpAny _ A.in1 (do let old ← Builtin.List.listItems (.ref S); Builtin.List.listUpdate (.ref S) (fun _ => #[]); letGo old.toList.reverse; Builtin.List.listExtendWith (.ref S) (.ref z) .none) _ _ s
  refine wpAny_bind ?_
  unfold Builtin.List.listItems
  refine wpAny_bind (wpAny_seqItems hSo rfl (wpAny_pure ?_))
  show wpAny _ A.in1 (updateSeq S (fun _ => #[]) >>= fun _ => letGo (#[] : Array Value).toList.reverse >>= fun _ => Builtin.List.listExtendWith (.ref S) (.ref z) .none) _ _ s
  refine wpAny_bind (wpAny_updateSeq hSo rfl ?_)
  have hS₂ := Heap.get?_update_self (Obj.mapSeq (fun _ => (#[] : Array Value))) hSo rfl
  have oth : ∀ b o, b ≠ S → s.heap.get? b = some o → (s.heap.update S (Obj.mapSeq (fun _ => (#[] : Array Value)))).get? b = some o :=
    fun b o hb e => (Heap.get?_update_other _ _ (Ne.symm hb)).trans e
  refine wpAny_bind (wpAny_letGo ?_)
  have hS' := hS
  simp only [List.mem_cons, List.mem_nil_iff, or_false, not_or] at hS'
  refine x0_7 hS' ?_; (try clear hS'); intro hSz hSTI hSTO hS1 hS2 hSl1 hSl2
  refine wpAny_extend_zip hh D hS hxy hn hlo ?_ ⟨?_, ?_, ?_, ?_, ?_, ?_⟩ (oth _ _ (Ne.symm hSz) hz) hS₂ fun h' acc' c' kp hS4 hacc => ?_
  · show lo ≤ (s.heap.update S _).objs.size
    rw [show (s.heap.update S (Obj.mapSeq (fun _ => (#[] : Array Value)))).objs.size = s.heap.objs.size from (Heap.SameBut.update ..).1]
    exact hls
  · exact oth _ _ (Ne.symm hSTI) Z.pair
  · exact Z.it1.at fun o e => oth _ o (Ne.symm hS1) e
  · exact Z.it2.at fun o e => oth _ o (Ne.symm hS2) e
  · exact Z.ls1.at fun o e => oth _ o (Ne.symm hSl1) e
  · exact Z.ls2.at fun o e => oth _ o (Ne.symm hSl2) e
  · rcases Z.own with ⟨_, hz', ta, tb, hTO⟩ | ⟨T, f, oT, hzO, _⟩
    · exact .inl ⟨rfl, oth _ _ (Ne.symm hSz) hz', ta, tb, oth _ _ (Ne.symm hSTO) hTO⟩
    · have := hzO.symm.trans hz
      simp [rawInt] at this
  · exact hR h' acc' c' (fun b o hb e => kp b o hb (oth _ _ (fun q => hb (by simp [q])) e)) hS4 hacc

theorem call_list_zip (hh : A.handled = none) {z TI TO i1 i2 l1 l2 : Addr} {xs ys : Array Value} {Q : Value → Shared → Prop} (D : ZipApart z TI TO i1 i2 l1 l2) (hxy : xs.size = ys.size) (hn : xs.size ≤ sizeLine)
    (hz : IsZip s.heap z TI TO .none) (hTI : IsPair s.heap TI (.ref i1) (.ref i2)) (hTO : IsPair s.heap TO .none .none) (h1 : s.heap.IsListIter i1 l1 0) (h2 : s.heap.IsListIter i2 l2 0) (hl1 : s.heap.IsList l1 xs) (hl2 : s.heap.IsList l2 ys)
    (hQ : ∀ h' acc' c', (∀ b o, b ∉ [z, TO, i1, i2] → s.heap.get? b = some o → h'.get? b = some o) → h'.get? s.heap.objs.size = some { cls := .type "list", dict := none, data := .seq acc' c', slots := #[] } → ZAcc h' xs ys (s.heap.objs.size + 1) acc' xs.size → Q (.ref s.heap.objs.size) { s with heap := h' }) :
    wpAny (model prog w) A (call (.type "list") [.ref z]) Q E s := by
  have lt : ∀ {b : Addr} {o : Obj}, s.heap.get? b = some o → b < s.heap.objs.size := fun e => Heap.lt_size e
  have b1 := lt hz
  have b2 := lt hTI
  have b3 := lt hTO
  have b4 : i1 < s.heap.objs.size := by (refine x1_2 h1 ?_; (try clear h1); intro _ e _); exact lt e
  have b5 : i2 < s.heap.objs.size := by (refine x1_2 h2 ?_; (try clear h2); intro _ e _); exact lt e
  have b6 : l1 < s.heap.objs.size := by (refine x1_2 hl1 ?_; (try clear hl1); intro _ e _); exact lt e
  have b7 : l2 < s.heap.objs.size := by (refine x1_2 hl2 ?_; (try clear hl2); intro _ e _); exact lt e
  refine callType_codes (Q₁ := fun obj s₁ => obj = .ref s.heap.objs.size ∧ s₁ = { s with heap := s.heap.push { cls := .type "list", data := .seq #[] } }) PySem.F.called_list (PySem.F.typeCall_list_1 _) PySem.F.entry_list_init
    (code_list_new _ ⟨rfl, rfl⟩) fun obj s₁ h₁ => ?_
  refine x0_2 h₁ ?_; (try clear h₁); intro rfl rfl
  have hS : (s.heap.push { cls := .type "list", data := .seq #[] }).get? s.heap.objs.size = some { cls := .type "list", data := .seq #[] } := Heap.get?_push_size _ rfl
  have up : ∀ b o, s.heap.get? b = some o → (s.heap.push { cls := .type "list", data := .seq #[] }).get? b = some o := fun b o e => Heap.get?_push_of_some _ e
  have hsz1 : s.heap.objs.size + 1 ≤ (s.heap.push { cls := .type "list", data := .seq #[] }).objs.size := by rw [Heap.size_push]; exact Nat.le_refl _
  refine ⟨⟨_, hS, rfl⟩, PySem.F.args_list_init_2 _ _, wpAny_list_init_zip (A := A.in1) (lo := s.heap.objs.size + 1) hh D ?_ hxy hn ?_ hsz1 ⟨up _ _ hTI, h1.at fun o e => up _ o e, h2.at fun o e => up _ o e, hl1.at fun o e => up _ o e, hl2.at fun o e => up _ o e, .inl ⟨rfl, up _ _ hz, _, _, up _ _ hTO⟩⟩ (up _ _ hz) hS fun h' acc' c' kp hS' hacc => ?_⟩
  · simp only [List.mem_cons, List.mem_nil_iff, or_false, not_or]
    exact ⟨Nat.ne_of_gt b1, Nat.ne_of_gt b2, Nat.ne_of_gt b3, Nat.ne_of_gt b4, Nat.ne_of_gt b5, Nat.ne_of_gt b6, Nat.ne_of_gt b7⟩
  · intro b hb
    simp only [List.mem_cons, List.mem_nil_iff, or_false] at hb
    rcases hb with rfl | rfl | rfl | rfl | rfl | rfl
    · exact Nat.lt_succ_self _
    · exact Nat.lt_succ_of_lt b1
    · exact Nat.lt_succ_of_lt b2
    · exact Nat.lt_succ_of_lt b3
    · exact Nat.lt_succ_of_lt b4
    · exact Nat.lt_succ_of_lt b5
  · refine ⟨rfl, hQ h' acc' c' (fun b o hb e => kp b o ?_ (up b o e)) hS' hacc⟩
    simp only [List.mem_cons, List.mem_nil_iff, or_false, not_or] at hb ⊢
    exact ⟨Nat.ne_of_lt (lt e), hb⟩
end

end -- MW16

section -- MW17

section
variable {G : Gl} {A : Around} {env : Env} {σ : St} {L : Addr}

noncomputable def absT : Obj → MO
  | { data := .seq vs _, .. } => .tuple (vs.toList.map er)
  | _ => .tuple []
/-- the view with a new list at S, and its pairs -/
noncomputable def withL (H : Hp) (h : Heap) (S : Addr) (acc : Array Value) : Hp := fun b => if b = S then some (.list false (acc.toList.map er)) else if Value.ref b ∈ acc then (h.get? b).map absT else H b

theorem We_list_zip {e1 e2 : PySem.Expr} {pl pz p1 pos : Pos} {Q : Value → St → Prop} (O : G.Ok) (hr : A.handled = none) (e : nsIn G.K mainGlobals "zip" = some none) (hv : bootBuiltins "zip" = some (.type "zip")) (e' : nsIn G.K mainGlobals "list" = some none) (hv' : bootBuiltins "list" = some (.type "list"))
    (h : We G A env e1 (fun v1 σ₁ => We G A env e2 (fun v2 σ₂ => ∃ l1 l2 z1 z2 xs ys, v1 = .ref l1 ∧ v2 = .ref l2 ∧ σ₂.H l1 = some (.list z1 xs) ∧ σ₂.H l2 = some (.list z2 ys) ∧ xs.length = ys.length ∧ xs.length ≤ 1000000 ∧
      ∀ a vs H', Ext σ₂.H H' → σ₂.H a = none → H' a = some (.list false vs) → vs.length = xs.length → (∀ (j : Nat) (v : Value), vs[j]? = some v → ∃ (t : Addr) (x y : Value), v = Value.ref t ∧ xs[j]? = some x ∧ ys[j]? = some y ∧ H' t = some (.tuple [x, y])) → Q (.ref a) ⟨σ₂.m, H'⟩) σ₁) σ)
    (hl : env.kindOf "zip" = some .globalImplicit := by with_unfolding_all rfl) (hl' : env.kindOf "list" = some .globalImplicit := by with_unfolding_all rfl) (hk : env.scope.kind = .function := by with_unfolding_all rfl) (hg : env.globals = mainGlobals := by with_unfolding_all rfl) (hb : env.builtins = builtinsNs := by with_unfolding_all rfl)
    (he : eval (.Call (.Name "zip" pz) [e1, e2] [] p1) env = (do callWith p1 (← eval (.Name "zip" pz) env) [] (backTo p1 (starEach [e1, e2] env)) (backToKw p1 (keywordEach [] env))) := by with_unfolding_all rfl)
    (he' : eval (.Call (.Name "list" pl) [.Call (.Name "zip" pz) [e1, e2] [] p1] [] pos) env = (do callWith pos (← eval (.Name "list" pl) env) [] (backTo pos (starEach [.Call (.Name "zip" pz) [e1, e2] [] p1] env)) (backToKw pos (keywordEach [] env))) := by with_unfolding_all rfl)
    (hs1 : starEach [e1, e2] env = (false, eval e1 env) :: starEach [e2] env := by with_unfolding_all rfl) (hs2 : starEach [e2] env = (false, eval e2 env) :: starEach [] env := by with_unfolding_all rfl)
    (hs0 : starEach [.Call (.Name "zip" pz) [e1, e2] [] p1] env = (false, eval (.Call (.Name "zip" pz) [e1, e2] [] p1) env) :: starEach [] env := by with_unfolding_all rfl) :
    We G A env (.Call (.Name "list" pl) [.Call (.Name "zip" pz) [e1, e2] [] p1] [] pos) Q σ := fun s X => by
  refine Call_ (Name_function_global hk hl' (loadGlobal_builtin (hg ▸ O.top.g.keeps X.h.keep) (mg_none_of O.kin O.top.g e') (hb ▸ O.top.b.keeps X.h.keep) ((O.top.builtins _ (by decide)).trans hv') ?_) (by decide)) he'
  refine callWith_of (P := fun _ => True) (by rw [hs0]; rfl) (fun h _ => ⟨.machine, .inr (.inl rfl), Looks.of_pure rfl⟩) ?_
  have go : wpAny (model G.prog G.w) A (spliced (backTo pos (starEach [.Call (.Name "zip" pz) [e1, e2] [] p1] env))) (fun vs s' => True ∧ wpAny (model G.prog G.w) A (call (.type "list") ([] ++ vs)) (fun a s' => ∃ σ', FAbs G env.locals σ' s' ∧ Out (some env.locals) σ.H σ'.H s s' ∧ Q (er a) σ') (fun _ _ => False) s') (fun _ _ => False) s := by
    refine args_cons (zip_eval O X e hv h ?_ hl hk hg hb he hs1 hs2) hs0
    intro l1 l2 z1 z2 xs ys σ₁ s₁ h' z TI TO i1 i2 x₁ o₁ hl1 hl2 ⟨hlen, hsz, q⟩ D hz hTI hTO hi1 hi2 kp hnew hle
    refine args_nil ⟨trivial, ?_⟩
    refine x2_3 (isList_of x₁ hl1) ?_; intro a1 n1 ho1 ea1 _
    refine x2_3 (isList_of x₁ hl2) ?_; intro a2 n2 ho2 ea2 _
    have hs1' : a1.size = xs.length := map_toList_size ea1
    have hs2' : a2.size = ys.length := map_toList_size ea2
    refine x0_2 (x₁.raw (h' := h') (tk := s₁.toks) kp) ?_; intro X2 O2
    refine call_list_zip (s := { s₁ with heap := h' }) hr D (xs := a1) (ys := a2) (by lia) (by rw [sizeLine_eq]; lia) hz hTI hTO hi1 hi2 ⟨_, kp _ _ ho1, rfl, n1, rfl⟩ ⟨_, kp _ _ ho2, rfl, n2, rfl⟩ fun h2 acc c kp2 hS hacc => ?_
    dsimp only at kp2 hS hacc ⊢
    have old : ∀ b o, s₁.heap.get? b = some o → h2.get? b = some o := fun b o eb => kp2 b o (fun hm => by
      have := hnew b (by
        simp only [List.mem_cons, List.mem_nil_iff, or_false] at hm ⊢
        rcases hm with rfl | rfl | rfl | rfl <;> simp)
      rw [this] at eb; cases eb) (kp b o eb)
    refine x0_2 (x₁.raw (h' := h2) (tk := s₁.toks) old) ?_; intro X3 O3
    have newS : s₁.heap.get? h'.objs.size = none := get_ge hle
    have accs : ∀ b, Value.ref b ∈ acc → h'.objs.size + 1 ≤ b ∧ ∃ (j : Nat) (x y : Value), acc[j]? = some (Value.ref b) ∧ a1[j]? = some x ∧ a2[j]? = some y ∧ IsPair h2 b x y := fun b hb => by
      (refine x1_1 (Array.mem_iff_getElem?.mp hb) ?_; intro j hj)
      refine x3_5 (hacc.at_ j _ hj) ?_; intro t x y e1 e2 e3 e4 e5
      cases e1
      exact ⟨e2, j, x, y, hj, e3, e4, e5⟩
    have notL : ∀ b, h'.objs.size ≤ b → σ₁.H b = none ∧ b ≠ env.locals ∧ G.B.get? b = none := fun b hb => by
      have h0 : s₁.heap.get? b = none := get_ge (Nat.le_trans hle hb)
      refine ⟨x₁.noneAt h0, fun q => ?_, ?_⟩
      · refine x1_2 x₁.fr ?_; intro m F _
        refine x3_2 F.ns ?_; intro oL _ _ hL _
        rw [q, hL] at h0; cases h0
      · cases z : G.B.get? b with
        | none => rfl
        | some o => have := x₁.h.keep b o z; rw [h0] at this; cases this
    have eS : withL σ₁.H h2 h'.objs.size acc h'.objs.size = some (.list false (acc.toList.map er)) := if_pos rfl
    have eE : Ext σ₁.H (withL σ₁.H h2 h'.objs.size acc) := fun b o eb => by
      unfold withL
      have n1 : b ≠ h'.objs.size := fun q => by rw [q, (notL _ (Nat.le_refl _)).1] at eb; cases eb
      have n2 : Value.ref b ∉ acc := fun q => by rw [(notL b (Nat.le_of_succ_le (accs b q).1)).1] at eb; cases eb
      rw [if_neg n1, if_neg n2]; exact eb
    have eT : ∀ b, Value.ref b ∈ acc → ∃ x y, IsPair h2 b x y ∧ withL σ₁.H h2 h'.objs.size acc b = some (.tuple [er x, er y]) := fun b hb => by
      obtain ⟨g, j, x, y, _, _, _, e5⟩ := accs b hb
      refine ⟨x, y, e5, ?_⟩
      unfold withL
      rw [if_neg (Nat.ne_of_gt g), if_pos hb, e5]
      simp [absT]
    have eN : ∀ b, b ≠ h'.objs.size → Value.ref b ∉ acc → withL σ₁.H h2 h'.objs.size acc b = σ₁.H b := fun b n1 n2 => by
      unfold withL
      rw [if_neg n1, if_neg n2]
    have notS : ∀ o, s₁.heap.get? h'.objs.size = some o → False := fun o eo => by rw [newS] at eo; cases eo
    refine ⟨⟨σ₁.m, withL σ₁.H h2 h'.objs.size acc⟩, ⟨⟨X3.h.sz, X3.h.keep, fun b o eb => ?_⟩, ?_, X3.fr⟩, o₁.trans ⟨⟨h2, s₁.toks, rfl⟩, fun b o hb hn eb => ⟨?_, old b o eb⟩⟩, ?_⟩
    · dsimp only at eb
      by_cases n1 : b = h'.objs.size
      · subst n1
        rw [eS] at eb; cases eb
        exact ⟨⟨_, hS, acc, c, rfl, rfl⟩, (notL _ (Nat.le_refl _)).2.2⟩
      · by_cases n2 : Value.ref b ∈ acc
        · refine x2_2 (eT b n2) ?_; intro x y e5 e6
          rw [e6] at eb; cases eb
          exact ⟨⟨_, e5, #[x, y], 0, rfl, rfl⟩, (notL b (Nat.le_of_succ_le (accs b n2).1)).2.2⟩
        · rw [eN b n1 n2] at eb
          exact X3.h.ob b o eb
    · refine (eN _ ?_ ?_).trans x₁.off
      · exact fun q => (notL _ (Nat.le_refl _)).2.1 q.symm
      · exact fun q => (notL _ (Nat.le_of_succ_le (accs _ q).1)).2.1 rfl
    · refine (eN _ ?_ ?_).trans hn
      · rintro rfl; exact notS o eb
      · intro q
        have := get_ge (Nat.le_trans hle (Nat.le_of_succ_le (accs b q).1))
        rw [this] at eb; cases eb
    · refine q h'.objs.size _ _ eE (notL _ (Nat.le_refl _)).1 eS (by rw [List.length_map, Array.length_toList, hacc.size, hs1']) fun j v hj => ?_
      rw [List.getElem?_map] at hj
      refine x1_2 (Option.map_eq_some_iff.mp hj) ?_; intro v' hv' rfl
      rw [Array.getElem?_toList] at hv'
      refine x3_5 (hacc.at_ j v' hv') ?_; intro t x y e1 e2 e3 e4 e5
      subst e1
      refine ⟨t, er x, er y, rfl, ?_, ?_, ?_⟩
      · rw [← ea1, List.getElem?_map, Array.getElem?_toList, e3]; rfl
      · rw [← ea2, List.getElem?_map, Array.getElem?_toList, e4]; rfl
      · refine x2_2 (eT t (Array.mem_iff_getElem?.mpr ⟨j, hv'⟩)) ?_; intro x' y' e6 e7
        have := e5.symm.trans e6
        simp only [Option.some.injEq, Obj.mk.injEq, Data.seq.injEq, true_and, and_true, Array.mk.injEq, List.cons.injEq] at this
        rw [this.1, this.2]
        exact e7
  rw [hs0] at go ⊢
  exact evalArgs_plain go
end

end -- MW17

section -- MW18

/-- list has no keys -/
theorem keys_none : typeLookup (.type "list") "keys" = pure none := am_miss_of_fast (by decide +kernel)
theorem keys_miss {prog : Program} {w : World} {A : Around} {E : Value → Shared → Prop} {s : Shared} {a : Addr} {xs : Array Value} {k : Nat} {Q : Option Value → Shared → Prop}
    (hx : s.heap.get? a = some { cls := .type "list", dict := none, data := .seq xs k, slots := #[] }) (hA : A.handled = none)
    (h : ∀ h' tk, (∀ b o, s.heap.get? b = some o → h'.get? b = some o) → Q none { s with heap := h', toks := tk }) : wpAny (model prog w) A (getAttr? (.ref a) "keys") Q E s := by
  obtain ⟨hp, g, d, tk, os⟩ := s
  have hT : ∀ tk', (⟨hp, g, d, tk', os⟩ : Shared).TypeIs (.ref a) "list" := fun _ => ⟨_, hx, rfl⟩
  have f1 := sub_AttributeError
  have f3 := F.slot_list_getattribute.lookup
  have f4 := F.slot_list_getattribute.bind (.ref a)
  have f5 := am_list_getattr_none
  unfold getAttr? getAttrBy? getAttrBy
  repeat (any_goals (first | assumption | exact hT _ | ((with_reducible show wpAny _ _ (call (Value.builtin "list.__getattribute__") _ _) _ _ _); refine call_meets F.slot_list_getattribute (hT _) am_entry_list_getattribute (F.args_list_getattribute_2 _ _) (meets_getattribute_miss_list a xs k #[] _ _ keys_none (by decide) (by size_fits)) ⟨hx, hA, fun h' tk' e hx' => ?_⟩) | wp_step))
  refine x2_1 hx'.there ?_; intro t' u' he
  show wpAny _ _ (getattributeRaised _ _ _ _ _ _ _) _ _ _
  unfold getattributeRaised
  repeat (any_goals (first | assumption | wp_step))
  exact h _ _ hx'.keeps

/-- keys that are ints or strs -/
inductive IS where
  | i (n : Int)
  | s (x : Str)
  deriving DecidableEq
noncomputable def IS.is : IS → Value → Bool
  | .i n, v => v.isInt n
  | .s x, v => Value.isStrOf x v
theorem IS.shi {n : Int} {v : Value} (h : (IS.i n).is v = true) : ∃ t, v = .int n t := by cases v <;> simp_all [IS.is, Value.isInt]
theorem IS.shs {x : Str} {v : Value} (h : (IS.s x).is v = true) : ∃ t, v = .str x t := by cases v <;> simp_all [IS.is, Value.isStrOf]

section
variable {prog : Program} {w : World} {A : Around} {E : Value → Shared → Prop} {s : Shared}
noncomputable def isKind (prog : Program) (w : World) : KeyKind prog w IS where
  is := IS.is
  hash := fun k => match k with
    | .i n => hashInt n
    | .s x => hashStr w x
  inj := fun v a b ha hb => by
    cases a <;> cases b
    · refine x1_1 (IS.shi ha) ?_; intro t rfl; refine x1_1 (IS.shi hb) ?_; intro u hu; cases hu; rfl
    · refine x1_1 (IS.shi ha) ?_; intro t rfl; refine x1_1 (IS.shs hb) ?_; intro u hu; cases hu
    · refine x1_1 (IS.shs ha) ?_; intro t rfl; refine x1_1 (IS.shi hb) ?_; intro u hu; cases hu
    · refine x1_1 (IS.shs ha) ?_; intro t rfl; refine x1_1 (IS.shs hb) ?_; intro u hu; cases hu; rfl
  byValue := fun k v h => by
    cases k
    · refine x1_1 (IS.shi h) ?_; intro t rfl; rfl
    · refine x1_1 (IS.shs h) ?_; intro t rfl; rfl
  pyHash := fun {A E s k v Q} hv h => by
    cases k
    · refine x1_1 (IS.shi hv) ?_; intro t rfl; exact wpAny_pyHash_int h
    · refine x1_1 (IS.shs hv) ?_; intro t rfl; exact wpAny_pyHash_str h
  eqBool := fun {A E s a b u v Q} hu hv h => by
    cases a <;> cases b
    · refine x1_1 (IS.shi hu) ?_; intro t rfl
      refine x1_1 (IS.shi hv) ?_; intro t' rfl
      refine wpAny_eqBool_int ?_
      rename_i n m
      have : (n == m) = decide (IS.i n = IS.i m) := by by_cases q : n = m <;> simp [q]
      rw [this]; exact h
    · refine x1_1 (IS.shi hu) ?_; intro t rfl
      refine x1_1 (IS.shs hv) ?_; intro t' rfl
      exact SeqAt.EqAt.int_str _ _ _ _ _ _ _ _ (by simpa using h)
    · refine x1_1 (IS.shs hu) ?_; intro t rfl
      refine x1_1 (IS.shi hv) ?_; intro t' rfl
      exact SeqAt.EqAt.str_int _ _ _ _ _ _ _ _ (by simpa using h)
    · refine x1_1 (IS.shs hu) ?_; intro t rfl
      refine x1_1 (IS.shs hv) ?_; intro t' rfl
      refine wpAny_eqBool_str ?_
      rename_i n m
      have : decide (n = m) = decide (IS.s n = IS.s m) := by by_cases q : n = m <;> simp [q]
      rw [this]; exact h
  «strs» := fun k x t v h => by
    cases k
    · simp [IS.is, Value.isInt] at h
    · refine x1_1 (IS.shs h) ?_; intro u hu
      injection hu with hx
      subst hx
      cases v <;> rfl

/-- keys that are ints, or tuples ("label", int) -/
inductive KK where
  | i (n : Int)
  | t (l : Int)
  deriving DecidableEq
noncomputable def KK.tup (l : Int) : List IS := [.s "label", .i l]
noncomputable def KK.Is (prog : Program) (w : World) (h : Heap) : KK → Value → Prop
  | .i n, v => ∃ t, v = .int n t
  | .t l, v => ∃ a, v = .ref a ∧ IsTupleKey (isKind prog w) h (KK.tup l) a
noncomputable def KK.hash (prog : Program) (w : World) : KK → Int
  | .i n => hashInt n
  | .t l => tupleKeyHash (isKind prog w) (KK.tup l)
theorem KK.tup_inj {l m : Int} (h : KK.tup l = KK.tup m) : l = m := by
  unfold KK.tup at h
  simp only [List.cons.injEq, IS.i.injEq, and_true, true_and] at h
  exact h
theorem KK.pyHash {k : KK} {v : Value} (hu : A.units < cLine) (hk : k.Is prog w s.heap v) {Q : Int → Shared → Prop} (q : ∀ tk, Q (k.hash prog w) { s with toks := tk }) : wpAny (model prog w) A (PySem.pyHash v) Q E s := by
  cases k with
  | i n => (refine x1_1 hk ?_; (try clear hk); intro t rfl); exact wpAny_pyHash_int (q _)
  | t l => (refine x1_2 hk ?_; (try clear hk); intro a rfl h); exact wpAny_pyHash_tuple hu h (q _)
theorem KK.isTup {l : Int} {a : Addr} (h : IsTupleKey (isKind prog w) s.heap (KK.tup l) a) : ∃ items, s.heap.IsTuple a items := by
  (refine x3_4 h ?_; (try clear h); intro o items n ho hc hd _)
  exact ⟨items, o, ho, hc, n, hd⟩
theorem KK.eqBool {k k' : KK} {v v' : Value} (hu : A.units < cLine) (hk : k.Is prog w s.heap v) (hk' : k'.Is prog w s.heap v') {Q : Bool → Shared → Prop} (q : Q (decide (k = k')) s) : wpAny (model prog w) A (PySem.eqBool v v') Q E s := by
  cases k <;> cases k'
  · refine x1_1 hk ?_; (try clear hk); intro t rfl
    refine x1_1 hk' ?_; (try clear hk'); intro t' rfl
    rename_i n m
    refine wpAny_eqBool_int ?_
    have : (n == m) = decide (KK.i n = KK.i m) := by by_cases q : n = m <;> simp [q]
    rw [this]; exact q
  · refine x1_1 hk ?_; (try clear hk); intro t rfl
    refine x1_2 hk' ?_; (try clear hk'); intro a rfl h
    refine x1_1 (KK.isTup h) ?_; intro items hi
    exact SeqAt.EqAt.int_tuple _ _ hi hu _ _ _ _ (by simpa using q)
  · refine x1_2 hk ?_; (try clear hk); intro a rfl h
    refine x1_1 hk' ?_; (try clear hk'); intro t rfl
    refine x1_1 (KK.isTup h) ?_; intro items hi
    exact SeqAt.EqAt.tuple_int _ _ hi hu _ _ _ _ (by simpa using q)
  · refine x1_2 hk ?_; (try clear hk); intro a rfl h
    refine x1_2 hk' ?_; (try clear hk'); intro a' rfl h'
    rename_i n m
    refine wpAny_eqBool_tuple hu h h' ?_
    have : decide (KK.tup n = KK.tup m) = decide (KK.t n = KK.t m) := by
      by_cases q : n = m
      · simp [q]
      · have : ¬ KK.tup n = KK.tup m := fun e => q (KK.tup_inj e)
        simp [this, q]
    rw [this]; exact q
theorem KK.quiet {k : KK} {v : Value} (hk : k.Is prog w s.heap v) {Q : Bool → Shared → Prop} (q : Q true s) : wpAny (model prog w) A (eqIsQuiet 8 v) Q E s := by
  cases k with
  | i n => (refine x1_1 hk ?_; (try clear hk); intro t rfl); exact wpAny_pure q
  | t l => (refine x1_2 hk ?_; (try clear hk); intro a rfl h); exact wpAny_eqIsQuiet_tuple h q
theorem KK.inj {h : Heap} {k k' : KK} {v : Value} (hk : k.Is prog w h v) (hk' : k'.Is prog w h v) : k = k' := by
  cases k <;> cases k'
  · refine x1_1 hk ?_; (try clear hk); intro t rfl; refine x1_1 hk' ?_; (try clear hk'); intro t' e; cases e; rfl
  · refine x1_1 hk ?_; (try clear hk); intro t rfl; refine x1_2 hk' ?_; (try clear hk'); intro a e _; cases e
  · refine x1_1 hk' ?_; (try clear hk'); intro t e; refine x1_2 hk ?_; (try clear hk); intro a rfl _; cases e
  · refine x1_2 hk ?_; (try clear hk); intro a rfl h1; refine x1_2 hk' ?_; (try clear hk'); intro a' e h2; cases e; rw [KK.tup_inj (h1.inj h2)]
end

end -- MW18

section -- MW19

section
variable {prog : Program} {w : World} {A : Around} {E : Value → Shared → Prop} {s : Shared}

theorem tell_quiet {key : Value} {k : KK} {stored : List Value} {Q : Bool → Shared → Prop} (hkey : k.Is prog w s.heap key) (hst : ∀ v ∈ stored, ∃ k' : KK, k'.Is prog w s.heap v) (h : Q false s) : wpAny (model prog w) A (tableMayTell key stored) Q E s := by
  unfold tableMayTell
  split
  · exact wpAny_pure h
  · refine wpAny_bind (KK.quiet hkey ?_)
    simp only [Bool.not_true, Bool.false_eq_true, if_false]
    refine wpAny_bind ?_
    refine wpAny_forIn_list _ (fun rest r s' => s' = s ∧ r = (none, ()) ∧ ∀ v ∈ rest, ∃ k' : KK, k'.Is prog w s.heap v) _ ?_ ?_ _ _ ⟨rfl, rfl, hst⟩
    · intro x rest r s' hq1
      refine x0_3 hq1 ?_; (try clear hq1); intro rfl rfl hr
      refine x1_1 (hr x List.mem_cons_self) ?_; intro k' hb
      refine wpAny_bind (KK.quiet hb ?_)
      simp only [Bool.not_true, Bool.false_eq_true, if_false]
      exact wpAny_pure ⟨rfl, rfl, fun v hv => hr v (List.mem_cons_of_mem _ hv)⟩
    · intro r s' hq2
      refine x0_3 hq2 ?_; (try clear hq2); intro rfl rfl _
      exact wpAny_pure h

noncomputable def MEnt (prog : Program) (w : World) (h : Heap) (es : Array DictEntry) (ks : List KK) : Prop :=
  ∀ (j : Nat) (e : DictEntry), es[j]? = some e → ∃ k' : KK, ks[j]? = some k' ∧ k'.Is prog w h e.key ∧ e.hash = k'.hash prog w

theorem find_absent {d : Addr} {key : Value} {k : KK} {ks : List KK} {o : Obj} {es : Array DictEntry} {ep : Nat} (hu : A.units < cLine) (hkey : k.Is prog w s.heap key) (hk : k ∉ ks) (ho : s.heap.get? d = some o) (hd : o.data = .dict es ep) (hes : MEnt prog w s.heap es ks)
    {Q : Option Nat → Shared → Prop} (q : Q none s) : wpAny (model prog w) A (dictFind d key (k.hash prog w)) Q E s := by
  have hst : ∀ v ∈ (placesWithHash es.size (fun i => es[i]?.map (·.hash)) (k.hash prog w)).filterMap (fun i => es[i]?.map (·.key)), ∃ k' : KK, k'.Is prog w s.heap v := by
    intro v hv
    refine x1_2 (List.mem_filterMap.mp hv) ?_; intro i _ hi
    cases hei : es[i]? with
    | none => rw [hei] at hi; cases hi
    | some e =>
      rw [hei] at hi
      obtain rfl : e.key = v := by simpa using hi
      refine x1_3 (hes i e hei) ?_; intro k' _ h2 _
      exact ⟨k', h2⟩
  have ne : ∀ {i : Nat} {e : DictEntry}, es[i]? = some e → ∃ k' : KK, k'.Is prog w s.heap e.key ∧ decide (k' = k) = false := fun h => by
    (refine x1_3 (hes _ _ h) ?_; intro k' h1 h2 _)
    exact ⟨k', h2, decide_eq_false fun q => hk (q ▸ List.mem_of_getElem? h1)⟩
  have loop : ∀ (tells : Bool), tells = false → ∀ (st : List Value) (places : List Nat), wpAny (model prog w) A (do
      let mut hit : Option Nat := none
      for i in places do
        if let some e := es[i]? then
          if e.hash == k.hash prog w then
            let before ← dictEpoch d (keyPart key)
            let same ← PySem.eqBool e.key key
            if (← dictEpoch d (keyPart key)) != before then unsupported "dict.changed-during-lookup"
            if same then
              if hit.isSome then unsupported "dict.find:order-among-keys-of-one-hash"
              rule "dict.find.hit"
              if st.length < 2 then return some i
              hit := some i
            else
              rule "dict.find.same-hash-other-key"
              if tells && !(0 ≤ k.hash prog w && k.hash prog w < 32) then unsupported "dict.find:asked-again-or-not-hangs-on-the-table"
      return hit) Q E s := by
    intro tells
    rintro rfl
    intro st places
    refine wpAny_bind ?_
    refine wpAny_forIn_list _ (fun rest b s' => s' = s ∧ b = (none, none)) _ ?_ ?_ _ _ ⟨rfl, rfl⟩
    · intro x rest b s' hq3
      refine x0_2 hq3 ?_; (try clear hq3); intro rfl rfl
      cases hx : es[x]? with
      | none => exact wpAny_pure ⟨rfl, rfl⟩
      | some e =>
        dsimp only
        by_cases hh : (e.hash == k.hash prog w) = true
        · rw [if_pos hh]
          refine x1_2 (ne hx) ?_; intro k' h1 h2
          refine wpAny_bind (wpAny_dictEpoch ho hd (wpAny_bind (KK.eqBool hu h1 hkey (wpAny_bind (wpAny_dictEpoch ho hd ?_)))))
          show wpAny _ _ (if (ep != ep) = true then _ else _) _ E _
          rw [if_neg (by simp), h2]
          simp only [Bool.false_eq_true, if_false]
          refine wpAny_bind (wpAny_rule ?_)
          first | rw [if_neg (by simp)] | skip
          first
            | exact wpAny_pure ⟨rfl, rfl⟩
            | exact wpAny_bind (wpAny_pure (wpAny_pure ⟨rfl, rfl⟩))
        · rw [if_neg hh]
          exact wpAny_pure ⟨rfl, rfl⟩
    · intro b s' hq4
      refine x0_2 hq4 ?_; (try clear hq4); intro rfl rfl
      exact wpAny_pure q
  have walk : wpAny (model prog w) A (dictWalkPlain d key (k.hash prog w) es (placesWithHash es.size (fun i => es[i]?.map (·.hash)) (k.hash prog w))) Q E s := by
    refine wpAny_bind ?_
    refine wpAny_forIn_list _ (fun rest b s' => s' = s ∧ b = (none, ())) _ ?_ ?_ _ _ ⟨rfl, rfl⟩
    · intro x rest b s' hq5
      refine x0_2 hq5 ?_; (try clear hq5); intro rfl rfl
      cases hx : es[x]? with
      | none => exact wpAny_pure ⟨rfl, rfl⟩
      | some e =>
        dsimp only
        by_cases hh : (e.hash == k.hash prog w) = true
        · rw [if_pos hh]
          refine x1_2 (ne hx) ?_; intro k' h1 h2
          refine wpAny_bind (wpAny_dictEpoch ho hd (wpAny_bind (KK.eqBool hu h1 hkey (wpAny_bind (wpAny_dictEpoch ho hd ?_)))))
          show wpAny _ _ (if (ep != ep) = true then _ else _) _ E _
          rw [if_neg (by simp), h2]
          exact wpAny_bind (wpAny_rule (wpAny_pure ⟨rfl, rfl⟩))
        · rw [if_neg hh]
          exact wpAny_pure ⟨rfl, rfl⟩
    · intro b s' hq6
      refine x0_2 hq6 ?_; (try clear hq6); intro rfl rfl
      exact wpAny_pure q
  unfold dictFind
  try with_reducible refine wpAny_holding ?_
  refine wpAny_bind (wpAny_dictEntries ho hd ?_)
  have any_no : ∀ a, key = .ref a → ¬ (es.any fun e => e.key == Value.ref a && e.hash != k.hash prog w) = true := by
    intro a
    rintro rfl
    rw [Array.any_eq_true]
    intro hq7
    obtain ⟨i, hi, hc⟩ := hq7
    refine x1_3 (hes i es[i] (Array.getElem?_eq_getElem hi)) ?_; intro k' _ h2 h3
    rw [Bool.and_eq_true, beq_iff_eq, bne_iff_ne] at hc
    rw [hc.1] at h2
    exact hc.2 (by rw [h3, KK.inj h2 hkey])
  dsimp only
  have rest : wpAny (model prog w) A (do
      let tells ← if ((placesWithHash es.size (fun i => es[i]?.map (·.hash)) (k.hash prog w)).filterMap fun i => es[i]?.map (·.key)) == [key] then pure false else tableMayTell key ((placesWithHash es.size (fun i => es[i]?.map (·.hash)) (k.hash prog w)).filterMap fun i => es[i]?.map (·.key))
      if tells && ((placesWithHash es.size (fun i => es[i]?.map (·.hash)) (k.hash prog w)).filterMap fun i => es[i]?.map (·.key)).length ≥ 2 then unsupported "dict.find:order-among-keys-of-one-hash"
      let mut hit : Option Nat := none
      for i in placesWithHash es.size (fun i => es[i]?.map (·.hash)) (k.hash prog w) do
        if let some e := es[i]? then
          if e.hash == k.hash prog w then
            let before ← dictEpoch d (keyPart key)
            let same ← PySem.eqBool e.key key
            if (← dictEpoch d (keyPart key)) != before then unsupported "dict.changed-during-lookup"
            if same then
              if hit.isSome then unsupported "dict.find:order-among-keys-of-one-hash"
              rule "dict.find.hit"
              if ((placesWithHash es.size (fun i => es[i]?.map (·.hash)) (k.hash prog w)).filterMap fun i => es[i]?.map (·.key)).length < 2 then return some i
              hit := some i
            else
              rule "dict.find.same-hash-other-key"
              if tells && !(0 ≤ k.hash prog w && k.hash prog w < 32) then unsupported "dict.find:asked-again-or-not-hangs-on-the-table"
      return hit) Q E s := by
    by_cases hone : (((placesWithHash es.size (fun i => es[i]?.map (·.hash)) (k.hash prog w)).filterMap (fun i => es[i]?.map (·.key))) == [key]) = true
    · rw [if_pos hone]
      refine wpAny_bind (wpAny_pure ?_)
      dsimp only
      rw [if_neg (by simp)]
      exact loop false rfl _ _
    · rw [if_neg hone]
      refine wpAny_bind (tell_quiet hkey hst ?_)
      dsimp only
      rw [if_neg (by simp)]
      exact loop false rfl _ _
  cases k with
  | i n =>
    (refine x1_1 (id hkey) ?_; intro t rfl)
    dsimp only
    by_cases hall : ((Value.int n t :: (placesWithHash es.size (fun i => es[i]?.map (·.hash)) ((KK.i n).hash prog w)).filterMap fun i => es[i]?.map (·.key)).all carriedByValue) = true
    · rw [if_pos hall]; exact walk
    · rw [if_neg hall]; exact rest
  | t l =>
    (refine x1_2 (id hkey) ?_; intro a rfl _)
    dsimp only
    rw [if_neg (by simp [carriedByValue])]
    rw [if_neg (any_no a rfl)]
    exact rest
end

end -- MW19

section -- MW20

theorem entry_update_loop : entryFor table "dict.update.loop" = some Builtin.«dict.update.loop» := entryFor_of_tree (by kernel_rfl)
theorem plain_update_loop : plainId "dict.update.loop" = true := by decide +kernel

section
variable {prog : Program} {w : World} {A : Around} {E : Value → Shared → Prop} {s : Shared}

noncomputable def MD (prog : Program) (w : World) (h : Heap) (d : Addr) (ks : List KK) : Prop :=
  ∃ o es ep, h.get? d = some o ∧ o.ExactDict ∧ o.data = .dict es ep ∧ es.size = ks.length ∧ MEnt prog w h es ks

theorem MD.typeIs {d : Addr} {ks : List KK} (h : MD prog w s.heap d ks) : s.TypeIs (.ref d) "dict" := let ⟨o, _, _, ho, hc, _⟩ := h; ⟨o, ho, hc.1⟩
theorem KK.Is.keep {h h' : Heap} {k : KK} {v : Value} (hk : k.Is prog w h v) (kp : ∀ a o, v = .ref a → h.get? a = some o → o.cls = .type "tuple" → h'.get? a = some o) : k.Is prog w h' v := by
  cases k with
  | i n => exact hk
  | t l => obtain ⟨a, rfl, o, items, n, ho, hc, r⟩ := hk; exact ⟨a, rfl, o, items, n, kp a o rfl ho hc, hc, r⟩
theorem MD.keep {h h' : Heap} {d : Addr} {ks : List KK} (hm : MD prog w h d ks) (kd : ∀ o, h.get? d = some o → h'.get? d = some o) (kp : ∀ a o, h.get? a = some o → o.cls = .type "tuple" → h'.get? a = some o) : MD prog w h' d ks := by
  (refine x3_5 hm ?_; (try clear hm); intro o es ep ho hc hd hl he)
  exact ⟨o, es, ep, kd o ho, hc, hd, hl, fun j e hj => let ⟨k, h1, h2, h3⟩ := he j e hj; ⟨k, h1, h2.keep fun a o _ => kp a o, h3⟩⟩

theorem md_set {d : Addr} {key v : Value} {k : KK} {ks : List KK} (hu : A.units < cLine) (hkey : k.Is prog w s.heap key) (hk : k ∉ ks) (hm : MD prog w s.heap d ks) (hz : ks.length ≤ sizeLine) {Q : Unit → Shared → Prop}
    (hQ : ∀ h' tk, MD prog w h' d (ks ++ [k]) → Heap.SameBut d s.heap h' → Q () { s with heap := h', toks := tk }) : wpAny (model prog w) A (dictSet d key v) Q E s := by
  (refine x3_5 hm ?_; (try clear hm); intro o es ep ho hc hd hl he)
  unfold dictSet
  try with_reducible refine wpAny_holding ?_
  refine wpAny_bind (KK.pyHash hu hkey fun tk => ?_)
  unfold dictSetHashed
  try with_reducible refine wpAny_holding ?_
  refine wpAny_bind (find_absent (s := { s with toks := tk }) hu hkey hk ho hd he ?_)
  refine wpAny_bind (wpAny_rule (wpAny_updateDictKeys (hz := by rw [hl]; exact hz) (s := { s with toks := tk }) ho hd (hQ _ _ ⟨_, _, ep + 1, Heap.get?_update_self _ ho (Obj.isFreed_of_dict (Obj.data_mapDictKeys hd _)),
      hc.mapDictKeys _, Obj.data_mapDictKeys hd _, ?_, ?_⟩ (Heap.SameBut.update ..))))
  · rw [Array.size_push, List.length_append, hl]; rfl
  · intro j e hj
    rw [Array.getElem?_push] at hj
    split at hj
    · cases hj
      rename_i hjs
      refine ⟨k, by rw [hjs, hl, List.getElem?_append_right (Nat.le_refl _)]; simp, ?_, rfl⟩
      refine hkey.keep fun a o' _ ha hta => ?_
      refine (Heap.get?_update_other _ _ fun q => ?_).trans ha
      subst q
      rw [ho] at ha
      cases ha
      rw [hc.1] at hta
      injection hta with hta
      exact absurd hta (by decide)
    · refine x1_3 (he j e hj) ?_; intro k' h1 h2 h3
      refine ⟨k', by rw [List.getElem?_append_left (List.getElem?_eq_some_iff.mp h1).1]; exact h1, ?_, h3⟩
      refine h2.keep fun a o' _ ha hta => ?_
      refine (Heap.get?_update_other _ _ fun q => ?_).trans ha
      subst q
      rw [ho] at ha
      cases ha
      rw [hc.1] at hta
      injection hta with hta
      exact absurd hta (by decide)

noncomputable def IsPr (h : Heap) (t : Addr) (a b : Value) : Prop := ∃ m, h.get? t = some { cls := .type "tuple", data := .seq #[a, b] m }

theorem codeAny_dict_loop (hh : A.handled = none) (hu : A.units + 1 < cLine) {d it l : Addr} {items : Array Value} {ks : List KK} (hnd : ks.Nodup) (hlen : items.size = ks.length) (hz : ks.length ≤ sizeLine) {res : Value} {R : Result → Shared → Prop} :
    ∀ (n i : Nat) (s : Shared), ks.length - i = n → i ≤ ks.length → MD prog w s.heap d (ks.take i) → s.heap.IsListIter it l i → s.heap.IsList l items →
    (∀ (j : Nat) (v : Value), items[j]? = some v → ∃ t kv x, v = Value.ref t ∧ IsPr s.heap t kv x ∧ ∃ k : KK, ks[j]? = some k ∧ k.Is prog w s.heap kv) →
    (∀ h' tk, (∀ b o, b ≠ d → b ≠ it → s.heap.get? b = some o → h'.get? b = some o) → MD prog w h' d ks → R (.ok (.ret res)) { s with heap := h', toks := tk }) →
    codeAny (model prog w) A (.builtin "dict.update.loop" ⟨[.ref d, .ref it, rawInt (i : Int), res], []⟩) R s := by
  intro n
  induction n with
  | zero =>
    intro i s hn hi hm hit hl hp hR
    obtain rfl : i = ks.length := by lia
    refine codeAny_builtin entry_update_loop ?_
    rw [Around.under_plainId plain_update_loop _]
    show wpAny _ A.in1 (pyNext (.ref it) >>= _) _ _ s
    refine wpAny_bind (wpAny_pyNext_list_end hh hit hl (by rw [← hlen]; exact Array.getElem?_eq_none (Nat.le_refl _)) fun h' kp => ?_)
    show wpAny _ _ (Builtin.Dict.addKeywords d [] >>= _) _ _ _
    refine wpAny_bind (wpAny_pure (wpAny_pure ?_))
    rw [List.take_length] at hm
    refine x1_3 hit ?_; (try clear hit); intro oi hoi hci _
    refine hR h' _ (fun b o _ hb e => kp b o hb e) (hm.keep (fun o e => kp d o ?_ e) fun a o e hc => kp a o ?_ e)
    · rintro rfl
      refine x3_3 hm ?_; (try clear hm); intro o' _ _ ho' hc' _
      rw [hoi] at ho'; cases ho'
      have hc1 := hc'.1
      rw [hci] at hc1
      exact absurd hc1 (by decide)
    · rintro rfl
      rw [hoi] at e; cases e
      rw [hci] at hc
      exact absurd hc (by decide)
  | succ n ih =>
    intro i s hn hi hm hit hl hp hR
    have hlt : i < ks.length := by lia
    have hx : items[i]? = some (items[i]'(by lia)) := Array.getElem?_eq_getElem (by lia)
    obtain ⟨t, kv, x, hv, hq1, k, hki, hkv⟩ := hp i _ hx
    refine x1_1 hq1 ?_; (try clear hq1); intro m ht
    rw [hv] at hx
    refine codeAny_builtin entry_update_loop ?_
    rw [Around.under_plainId plain_update_loop _]
    show wpAny _ A.in1 (pyNext (.ref it) >>= _) _ _ s
    refine wpAny_bind (wpAny_pyNext_list_item hit hl hx fun h₁ hit₁ hs₁ => ?_)
    have dit : d ≠ it := by
      rintro rfl
      refine x3_3 hm ?_; (try clear hm); intro o' _ _ ho' hc' _
      refine x1_3 hit ?_; (try clear hit); intro oi hoi hci _
      rw [hoi] at ho'; cases ho'
      have hc1 := hc'.1
      rw [hci] at hc1
      exact absurd hc1 (by decide)
    have tit : ∀ {a : Addr} {o : Obj}, s.heap.get? a = some o → o.cls = .type "tuple" → a ≠ it := by
      intro a o ha hc
      rintro rfl
      refine x1_3 hit ?_; (try clear hit); intro oi hoi hci _
      rw [hoi] at ha; cases ha
      rw [hci] at hc
      exact absurd hc (by decide)
    have td : ∀ {a : Addr} {o : Obj}, s.heap.get? a = some o → o.cls = .type "tuple" → a ≠ d := by
      intro a o ha hc
      rintro rfl
      refine x3_3 hm ?_; (try clear hm); intro o' _ _ ho' hc' _
      rw [ho'] at ha; cases ha
      rw [hc'.1] at hc
      exact absurd hc (by decide)
    have lit : l ≠ it := by
      rintro rfl
      refine x1_3 hit ?_; (try clear hit); intro oi hoi hci _
      refine x1_3 hl ?_; (try clear hl); intro ol hol hcl _
      rw [hoi] at hol; cases hol
      rw [hci] at hcl
      exact absurd hcl (by decide)
    have ld : l ≠ d := by
      rintro rfl
      refine x3_3 hm ?_; (try clear hm); intro o' _ _ ho' hc' _
      refine x1_3 hl ?_; (try clear hl); intro ol hol hcl _
      rw [ho'] at hol; cases hol
      rw [hc'.1] at hcl
      exact absurd hcl (by decide)
    have k1 : ∀ {a : Addr} {o : Obj}, s.heap.get? a = some o → o.cls = .type "tuple" → h₁.get? a = some o := fun ha hc => (hs₁.2 _ (tit ha hc)).trans ha
    have hm₁ : MD prog w h₁ d (ks.take i) := hm.keep (fun o e => (hs₁.2 d dit).trans e) fun a o ha hc => k1 ha hc
    have ht₁ := k1 ht rfl
    dsimp only
    refine wpAny_bind (wpAny_holding ?_)
    refine wpAny_bind ?_
    refine wpAny_tryCatch ?_
    unfold Builtin.Dict.pairItems
    refine wpAny_bind (wpAny_typeOf (T := "tuple") ⟨_, ht₁, rfl⟩ ?_)
    rw [if_pos (by decide)]
    unfold seqItems?
    refine wpAny_bind (wpAny_bind (wpAny_load ht₁ ?_))
    refine wpAny_pure (wpAny_pure ?_)
    dsimp only [Option.getD_some]
    refine wpAny_holding ?_
    have hnk : k ∉ ks.take i := fun hmem => by
      (refine x1_1 (List.mem_iff_getElem?.mp hmem) ?_; intro j hj)
      have hji : j < i := by have := (List.getElem?_eq_some_iff.mp hj).1; rw [List.length_take] at this; lia
      rw [List.getElem?_take_of_lt hji] at hj
      have := (List.getElem?_inj (List.getElem?_eq_some_iff.mp hj).1 hnd).mp (hj.trans hki.symm)
      lia
    refine md_set (A := A.in1) (s := { s with heap := h₁ }) hu (hkv.keep fun a o _ ha hc => k1 ha hc) hnk hm₁ (by rw [List.length_take]; lia) fun h₂ tk hm₂ hs₂ => ?_
    have e : ((i : Int) + 1) = ((i + 1 : Nat) : Int) := by push_cast; rfl
    have k2 : ∀ {a : Addr} {o : Obj}, s.heap.get? a = some o → o.cls = .type "tuple" → h₂.get? a = some o := fun ha hc => (hs₂.2 _ (td ha hc)).trans (k1 ha hc)
    refine wpAny_pure ⟨Code.quiet_builtin _ (by decide +kernel), ?_⟩
    show codeAny _ _ (.builtin "dict.update.loop" ⟨[.ref d, .ref it, rawInt ((i : Int) + 1), res], []⟩) _ _
    rw [e]
    have hm₃ : MD prog w h₂ d (ks.take (i + 1)) := by rw [List.take_add_one, hki]; exact hm₂
    obtain ⟨ol, hol, hcl, nl, hdl⟩ := hl
    refine x1_3 hit₁ ?_; (try clear hit₁); intro oi hoi hci hdi
    refine ih (i + 1) { s with heap := h₂, toks := tk } (by lia) hlt hm₃ ⟨oi, (hs₂.2 it (Ne.symm dit)).trans hoi, hci, hdi⟩ ⟨ol, (hs₂.2 l ld).trans ((hs₁.2 l lit).trans hol), hcl, nl, hdl⟩ ?_ ?_
    · intro j v hj
      obtain ⟨t, kv, x, hv, hq2, k, hkj, hkv⟩ := hp j v hj
      refine x1_1 hq2 ?_; (try clear hq2); intro m ht
      exact ⟨t, kv, x, hv, ⟨m, k2 ht rfl⟩, k, hkj, hkv.keep fun a o _ ha hc => k2 ha hc⟩
    · intro h₃ tk₃ kp hmd
      exact hR h₃ tk₃ (fun b o hb hb' eb => kp b o hb hb' ((hs₂.2 b hb).trans ((hs₁.2 b hb').trans eb))) hmd
end

end -- MW20

section -- MW21

section
variable {prog : Program} {w : World} {A : Around} {E : Value → Shared → Prop} {s : Shared}

theorem meets_md_len (prog : Program) (w : World) (d : Addr) (hd : (d == sysModules) = false) :
    MeetsIn prog w (Builtin.«dict.__len__» ⟨[.ref d], []⟩) (fun _ R s => ∃ ks, MD prog w s.heap d ks ∧ R (.ok (.ret (.int ks.length s.toks))) { s with toks := s.toks + 1 }) :=
  .of_wp fun A R s ⟨ks, hm, h⟩ => by
    (refine x3_5 hm ?_; (try clear hm); intro o es ep ho hc hdat hl _)
    show wpAny _ _ (dictSize d >>= _) _ _ s
    unfold dictSize
    refine wpAny_bind (wpAny_bind (wpAny_dictEntries ho hdat (wpAny_pure ?_)))
    show wpAny _ _ (Builtin.Dict.pendingCount d >>= _) _ _ s
    refine wpAny_bind (wpAny_pendingCount_other hd ?_)
    refine wpAny_ret_mkInt ?_
    rw [Nat.add_zero, hl]; exact h

theorem call_len_md {d : Addr} {ks : List KK} {Q : Value → Shared → Prop} (hd : (d == sysModules) = false) (hm : MD prog w s.heap d ks) (hfit : (ks.length : Int) < 2 ^ 63)
    (h : Q (.int ks.length (s.toks + 1)) { s with toks := s.toks + 1 + 1 }) : wpAny (model prog w) A (call (.builtin "len") [.ref d]) Q E s := by
  refine Calls.call_function_entry kind_len plain_len entry_len (args_len1 _) ?_
  unfold Builtin.«len»
  refine wpAny_bind (m := oneArg "len" _) (wpAny_pure ?_)
  refine wpAny_bind (m := callSpecial? (.ref d) (Str.ofString "__len__")) (wpAny_callSpecial?_slot (name := Str.ofString "__len__") hm.typeIs F.slot_dict_len
    (call_meetsIn F.slot_dict_len hm.typeIs F.entry_dict_len (F.args_dict_len_1 _) (meets_md_len prog w d hd) ⟨ks, hm, ?_⟩))
  show wpAny _ _ _ _ _ { s with toks := s.toks + 1 }
  refine wpAny_bind (wpAny_holding (wpAny_pure ?_))
  refine wpAny_bind (wpAny_letGo ?_)
  show wpAny _ _ (if ((ks.length : Nat) : Int) < 0 then _ else _) _ _ _
  rw [if_neg (by lia)]
  show wpAny _ _ (if ((ks.length : Nat) : Int) ≥ 2 ^ 63 then _ else _) _ _ _
  rw [if_neg (by lia)]
  exact wpAny_bind (wpAny_mkInt (wpAny_pure ⟨_, rfl, h⟩))

theorem call_dict_md (hh : A.handled = none) (hu : A.units + 2 < cLine) {l : Addr} {items : Array Value} {n : Nat} {ks : List KK} {Q : Value → Shared → Prop} (hnd : ks.Nodup) (hlen : items.size = ks.length) (hz : ks.length ≤ sizeLine)
    (hl : s.heap.get? l = some { cls := .type "list", dict := none, data := .seq items n, slots := #[] })
    (hp : ∀ (j : Nat) (v : Value), items[j]? = some v → ∃ t kv x, v = Value.ref t ∧ IsPr s.heap t kv x ∧ ∃ k : KK, ks[j]? = some k ∧ k.Is prog w s.heap kv)
    (hQ : ∀ h' tk, (∀ b o, s.heap.get? b = some o → h'.get? b = some o) → MD prog w h' s.heap.objs.size ks → Q (.ref s.heap.objs.size) { s with heap := h', toks := tk }) :
    wpAny (model prog w) A (call (.type "dict") [.ref l]) Q E s := by
  refine callType_codes (Q₁ := fun obj s₁ => obj = .ref s.heap.objs.size ∧ s₁ = { s with heap := s.heap.push { cls := .type "dict", data := .dict #[] } }) F.kt_called_dict (F.kt_typeCall_dict_1 _) F.entry_dict_init (kt_code_dict_new _ ⟨rfl, rfl⟩) ?_
  intro obj s₁ hq1
  refine x0_2 hq1 ?_; (try clear hq1); intro rfl rfl
  have hnew : MD prog w (s.heap.push { cls := .type "dict", data := .dict #[] }) s.heap.objs.size [] := ⟨_, #[], 0, Heap.get?_push_size _ rfl, ⟨rfl, rfl, rfl⟩, rfl, rfl, fun j e h => by simp at h⟩
  have up : ∀ b o, s.heap.get? b = some o → (s.heap.push { cls := .type "dict", data := .dict #[] }).get? b = some o := fun b o e => Heap.get?_push_of_some _ e
  refine ⟨MD.typeIs (s := { s with heap := s.heap.push { cls := .type "dict", data := .dict #[] } }) hnew, F.args_dict_init_2 _ _, ?_⟩
  unfold Builtin.«dict.__init__»
  refine wpAny_bind ?_
  unfold Builtin.Dict.selfAndRest
  refine wpAny_bind (wpAny_notOrdered_dict (MD.typeIs (s := { s with heap := s.heap.push { cls := .type "dict", data := .dict #[] } }) hnew) ?_)
  show wpAny _ _ (pure (s.heap.objs.size, [Value.ref l])) _ _ _
  refine wpAny_pure ?_
  show wpAny _ _ (Builtin.Dict.updateFrom "dict.__init__" s.heap.objs.size (.ref l) [] .none) _ _ _
  unfold Builtin.Dict.updateFrom
  refine wpAny_bind (wpAny_typeOf (T := "list") ⟨_, up _ _ hl, rfl⟩ ?_)
  rw [if_pos (by decide)]
  refine wpAny_bind (keys_miss (up _ _ hl) hh fun h₁ tk kp => ?_)
  rw [if_pos (show (none : Option Value).isNone = true from rfl)]
  refine wpAny_bind (wpAny_rule ?_)
  have up₁ : ∀ b o, s.heap.get? b = some o → h₁.get? b = some o := fun b o e => kp b o (up b o e)
  refine wpAny_bind (wpAny_pyIter_list (s := { s with heap := h₁, toks := tk }) ⟨_, up₁ _ _ hl, rfl, n, rfl⟩ ?_)
  have up₂ : ∀ b o, s.heap.get? b = some o → (h₁.push { cls := .type "list_iterator", data := .fields #[.ref l, .int 0 0] }).get? b = some o := fun b o e => Heap.get?_push_of_some _ (up₁ b o e)
  have nd : ∀ b o, s.heap.get? b = some o → b ≠ s.heap.objs.size := fun b o e => Nat.ne_of_lt (Heap.lt_size e)
  have ni : ∀ b o, s.heap.get? b = some o → b ≠ h₁.objs.size := fun b o e => Nat.ne_of_lt (Heap.lt_size (up₁ b o e))
  refine wpAny_pure ⟨Code.quiet_builtin _ (by decide +kernel), ?_⟩
  have hm₂ : MD prog w (h₁.push { cls := .type "list_iterator", data := .fields #[.ref l, .int 0 0] }) s.heap.objs.size (ks.take 0) :=
    MD.keep hnew (fun o e => Heap.get?_push_of_some _ (kp _ _ e)) (fun a o e _ => Heap.get?_push_of_some _ (kp _ _ e))
  refine codeAny_dict_loop (A := A.in1) hh (by show A.units + 1 + 1 < _; lia) hnd hlen hz ks.length 0 { s with heap := h₁.push { cls := .type "list_iterator", data := .fields #[.ref l, .int 0 0] }, toks := tk } rfl (Nat.zero_le _) hm₂
    ⟨_, Heap.get?_push_size _ rfl, rfl, rfl⟩ ⟨_, up₂ _ _ hl, rfl, n, rfl⟩ ?_ ?_
  · intro j v hj
    obtain ⟨t, kv, x, hv, hq2, k, hk, hkv⟩ := hp j v hj
    refine x1_1 hq2 ?_; (try clear hq2); intro m ht
    exact ⟨t, kv, x, hv, ⟨m, up₂ _ _ ht⟩, k, hk, hkv.keep fun a o _ e _ => up₂ _ _ e⟩
  · intro h' tk' kp' hm'
    exact ⟨rfl, hQ h' tk' (fun b o e => kp' b o (nd b o e) (ni b o e) (up₂ b o e)) hm'⟩
end

section
variable {G : Gl} {A : Around} {env : Env} {σ : St} {L : Addr}

noncomputable def KKV (H : Hp) : KK → Value → Prop
  | .i n, v => v = .int n 0
  | .t l, v => ∃ a, v = .ref a ∧ H a = some (.tuple [.str "label" 0, .int l 0])

theorem We_len_dict (O : G.Ok) {e1 : PySem.Expr} {pl pd p1 pos : Pos} {Q : Value → St → Prop} {n : Nat} (R : Rm A (n + 1)) (e : nsIn G.K mainGlobals "len" = some none) (hv : bootBuiltins "len" = some (.builtin "len")) (e' : nsIn G.K mainGlobals "dict" = some none) (hv' : bootBuiltins "dict" = some (.type "dict"))
    (h : We G A env e1 (fun v σ₁ => ∃ (l : Addr) (z : Bool) (vs : List Value) (ks : List KK), v = .ref l ∧ σ₁.H l = some (.list z vs) ∧ ks.Nodup ∧ vs.length = ks.length ∧ vs.length ≤ 1000000 ∧
      (∀ (j : Nat) (v : Value), vs[j]? = some v → ∃ (t : Addr) (kv : Value) (k : KK), v = Value.ref t ∧ σ₁.H t = some (.tuple [kv, .int 0 0]) ∧ ks[j]? = some k ∧ KKV σ₁.H k kv) ∧ Q (.int (vs.length : Int) 0) σ₁) σ)
    (hl : env.kindOf "len" = some .globalImplicit := by with_unfolding_all rfl) (hl' : env.kindOf "dict" = some .globalImplicit := by with_unfolding_all rfl) (hk : env.scope.kind = .function := by with_unfolding_all rfl) (hg : env.globals = mainGlobals := by with_unfolding_all rfl) (hb : env.builtins = builtinsNs := by with_unfolding_all rfl)
    (he : eval (.Call (.Name "dict" pd) [e1] [] p1) env = (do callWith p1 (← eval (.Name "dict" pd) env) [] (backTo p1 (starEach [e1] env)) (backToKw p1 (keywordEach [] env))) := by with_unfolding_all rfl)
    (he' : eval (.Call (.Name "len" pl) [.Call (.Name "dict" pd) [e1] [] p1] [] pos) env = (do callWith pos (← eval (.Name "len" pl) env) [] (backTo pos (starEach [.Call (.Name "dict" pd) [e1] [] p1] env)) (backToKw pos (keywordEach [] env))) := by with_unfolding_all rfl)
    (hs1 : starEach [e1] env = (false, eval e1 env) :: starEach [] env := by with_unfolding_all rfl)
    (hs0 : starEach [.Call (.Name "dict" pd) [e1] [] p1] env = (false, eval (.Call (.Name "dict" pd) [e1] [] p1) env) :: starEach [] env := by with_unfolding_all rfl) :
    We G A env (.Call (.Name "len" pl) [.Call (.Name "dict" pd) [e1] [] p1] [] pos) Q σ := fun s X => by
  refine Call_ (Name_function_global hk hl (loadGlobal_builtin (hg ▸ O.top.g.keeps X.h.keep) (mg_none_of O.kin O.top.g e) (hb ▸ O.top.b.keeps X.h.keep) ((O.top.builtins _ (by decide)).trans hv) ?_) (by decide)) he'
  refine callWith_of (P := fun _ => True) (by rw [hs0]; rfl) (fun h _ => ⟨.machine, .inr (.inl rfl), Looks.of_pure rfl⟩) ?_
  have inner : wpAny (model G.prog G.w) A (eval (.Call (.Name "dict" pd) [e1] [] p1) env) (fun v s' => ∃ (d : Addr) (ks : List KK) (σ' : St), v = .ref d ∧ d ≠ sysModules ∧ MD G.prog G.w s'.heap d ks ∧ ks.length ≤ 1000000 ∧ FAbs G env.locals σ' s' ∧ Out (some env.locals) σ.H σ'.H s s' ∧ Q (.int (ks.length : Int) 0) σ') (fun _ _ => False) s := by
    refine Call_ (Name_function_global hk hl' (loadGlobal_builtin (hg ▸ O.top.g.keeps X.h.keep) (mg_none_of O.kin O.top.g e') (hb ▸ O.top.b.keeps X.h.keep) ((O.top.builtins _ (by decide)).trans hv') ?_) (by decide)) he
    refine callWith_of (P := fun _ => True) (by rw [hs1]; rfl) (fun h _ => ⟨.machine, .inr (.inl rfl), Looks.of_pure rfl⟩) ?_
    have go : wpAny (model G.prog G.w) A (spliced (backTo p1 (starEach [e1] env))) (fun vs s' => True ∧ wpAny (model G.prog G.w) A (call (.type "dict") ([] ++ vs)) (fun v s' => ∃ (d : Addr) (ks : List KK) (σ' : St), v = .ref d ∧ d ≠ sysModules ∧ MD G.prog G.w s'.heap d ks ∧ ks.length ≤ 1000000 ∧ FAbs G env.locals σ' s' ∧ Out (some env.locals) σ.H σ'.H s s' ∧ Q (.int (ks.length : Int) 0) σ') (fun _ _ => False) s') (fun _ _ => False) s := by
      refine args_cons (wpAny_mono (h s X) ?_ fun _ _ x => x) hs1
      intro v s₁ hq3
      obtain ⟨σ₁, x₁, o₁, l, z, vs, ks, hv, hL, hnd, hlen, hsz, hP, q⟩ := hq3
      obtain rfl := er_ref hv
      refine args_nil ⟨trivial, ?_⟩
      refine x2_3 (isList_of x₁ hL) ?_; intro items m ho ea _
      have hs : items.size = vs.length := map_toList_size ea
      refine call_dict_md R.hd (by have := R.un; lia) (ks := ks) hnd (by lia) (by rw [sizeLine_eq]; lia) ho ?_ fun h' tk kp hm => ?_
      · intro j v hj
        have hj' : vs[j]? = some (er v) := by rw [← ea, List.getElem?_map, Array.getElem?_toList, hj]; rfl
        refine x3_4 (hP j _ hj') ?_; intro t kv k hv ht hk hkv
        obtain rfl := er_ref hv
        refine x1_3 (x₁.at ht) ?_; intro o ho hq4 _
        refine x2_2 hq4 ?_; (try clear hq4); intro ws m rfl ew
        refine x2_3 (two_args ew) ?_; intro u u' hw e1 e2
        have hws : ws = #[u, u'] := by rw [← Array.toList_inj]; simpa using hw
        subst hws
        refine ⟨t, u, u', rfl, ⟨m, ho⟩, k, hk, ?_⟩
        cases k with
        | i n => exact er_int (e1.trans hkv)
        | t n =>
          (refine x1_2 hkv ?_; (try clear hkv); intro a rfl ha)
          obtain rfl := er_ref e1
          refine x1_3 (x₁.at ha) ?_; intro o2 ho2 hq5 _
          refine x2_2 hq5 ?_; (try clear hq5); intro w2 m2 rfl ew2
          refine x2_3 (two_args ew2) ?_; intro u2 u2' hw2 e3 e4
          refine x1_1 (er_str e3) ?_; intro t3 rfl
          refine x1_1 (er_int e4) ?_; intro t4 rfl
          refine ⟨a, rfl, _, w2, m2, ho2, rfl, rfl, ?_⟩
          rw [hw2]
          exact .cons (by simp [isKind, IS.is, Value.isStrOf]) (.cons (by simp [isKind, IS.is, Value.isInt]) .nil)
      · refine x0_2 (x₁.raw (h' := h') (tk := tk) kp) ?_; intro X2 O2
        refine ⟨s₁.heap.objs.size, ks, σ₁, rfl, ?_, hm, by lia, X2, o₁.trans O2, by rw [← hlen]; exact q⟩
        have h1 := modules_low O.top.nolimit
        exact Nat.ne_of_gt (Nat.lt_of_lt_of_le h1 x₁.h.sz)
    rw [hs1] at go ⊢
    exact evalArgs_plain go
  have go : wpAny (model G.prog G.w) A (spliced (backTo pos (starEach [.Call (.Name "dict" pd) [e1] [] p1] env))) (fun vs s' => True ∧ wpAny (model G.prog G.w) A (call (.builtin "len") ([] ++ vs)) (fun a s' => ∃ σ', FAbs G env.locals σ' s' ∧ Out (some env.locals) σ.H σ'.H s s' ∧ Q (er a) σ') (fun _ _ => False) s') (fun _ _ => False) s := by
    refine args_cons (wpAny_mono inner ?_ fun _ _ x => x) hs0
    intro v s₁ hq6
    refine x3_7 hq6 ?_; (try clear hq6); intro d ks σ' rfl hd hm hsz x₁ o₁ q
    refine args_nil ⟨trivial, ?_⟩
    exact call_len_md (beq_eq_false_iff_ne.mpr hd) hm (by lia) ⟨σ', x₁.tok, o₁.trans Out.tok, q⟩
  rw [hs0] at go ⊢
  exact evalArgs_plain go
end

end -- MW21

section -- MC5
set_option maxRecDepth 20000
variable {G : Gl} {a : KA} {A : Around} {env : Env} {σ : St} {L : Addr}

theorem lambda_with_parts (O : G.Ok) (K : KF G a) {n : Nat} (R : Rm A (n + 4)) {H : Hp} {l p : Int} {b b' : T} {x y fl : Addr} {z : Bool} (hr : Rep a H (.lam l p b) x) (hf : H fl = some (.list z [.ref y])) (hb : Rep a H b' y) {Q : Value → Hp → Prop}
    (q : ∀ r H', Ext H H' → Rep a H' (.lam l p b') r → Q (.ref r) H') : Wc G A (.ref a.fLambda_with_parts) [.ref x, .ref fl] Q H := by
  (refine x3_4 hr ?_; (try clear hr); intro d pl yo h1 h2 h3 h4)
  refine Wc_fun O K.m.m_Lambda_with_parts R.room ["self", "parts"] (bd2 fun _ _ _ _ _ _ _ _ _ => rfl) (by rfl) (by rfl) (by rfl) (by rfl) (by rfl) ?_
  intro L qual cdv hL
  refine Ws_ret ?_
  refine We_callK O K.n.k_Lambda.glob K.n.k_Lambda.keep ?_
  refine Wargs_c ?_
  refine We_own O K.n.k_Lambda K.n.o_Lambda_label h1 h2 (by with_unfolding_all exact Eq.refl (some _)) (by walk_at "v") ?_
  refine Wargs_c ?_
  refine We_own O K.n.k_Lambda K.n.o_Lambda_params h1 h2 (by with_unfolding_all exact Eq.refl (some _)) (by walk_at "v") ?_
  refine Wargs_c ?_
  refine We_own O K.n.k_Lambda K.n.o_Lambda_rest h1 h2 (by with_unfolding_all exact Eq.refl (some _)) (by walk_at "v") ?_
  refine Wargs_c ?_
  refine We_Subscript ?_
  refine We_L (by walk_at "v") ?_
  refine We_Int ?_
  refine W_item_list hf (by decide) (by decide) (x := .ref y) rfl ?_
  refine Wargs_nil ?_
  refine new_Lambda O K R.deeper ?_
  intro r d' H' hE hr0 hd0 g1 g2
  exact q r H' hE ⟨d', pl, y, g1, g2, hE _ _ h3, hb.mono hE.le⟩

theorem call_with_parts (O : G.Ok) (K : KF G a) {n : Nat} (R : Rm A (n + 4)) {H : Hp} {x y fl : Addr} {vs : List Value} {z : Bool} (hf : H fl = some (.list z (.ref y :: vs))) (hz : vs.length ≤ 1000) {Q : Value → Hp → Prop}
    (q : ∀ r d ol H', Ext H H' → H' r = some (.inst a.cCall d) → H' d = some (.attrs true [("operator", .ref y), ("operands", .ref ol)]) → H' ol = some (.list true vs) → Q (.ref r) H') : Wc G A (.ref a.fCall_with_parts) [.ref x, .ref fl] Q H := by
  refine Wc_fun O K.m.m_Call_with_parts R.room ["self", "parts"] (bd2 fun _ _ _ _ _ _ _ _ _ => rfl) (by rfl) (by rfl) (by rfl) (by rfl) (by rfl) ?_
  intro L qual cdv hL
  refine Ws_ret ?_
  refine We_callK O K.n.k_Call.glob K.n.k_Call.keep ?_
  refine Wargs_c ?_
  refine We_Subscript ?_
  refine We_L (by walk_at "v") ?_
  refine We_Int ?_
  refine W_item_list hf (by decide) (by decide) (x := .ref y) rfl ?_
  refine Wargs_c ?_
  refine W_slice_from ?_
  refine We_L (by walk_at "v") ?_
  refine We_Int ?_
  refine ⟨fl, z, _, 1, rfl, rfl, hf, by simp; lia, fun ol hol holL => ?_⟩
  have hE : Ext H (upd H ol (.list false vs)) := Ext.new hol
  refine Wargs_nil ?_
  refine Wcall.frz (Frz.one (a := ol) upd_same) ?_
  refine new_Call O K R.deeper ?_
  intro r d' H' hE' hr0 hd0 g1 g2
  exact q r d' ol H' ((hE.mut hol).trans hE') g1 g2 (hE' _ _ upd_same)

theorem W_with_parts (O : G.Ok) (K : KF G a) {n : Nat} (R : Rm A (n + 4)) {t : T} {x fl : Addr} {z : Bool} {ts : List T} {vs : List Value} (hr : Rep a σ.H t x) (hk0 : t.kids ≠ []) (hf : σ.H fl = some (.list z vs)) (hk : Reps a σ.H ts vs) (hlen : ts.length = t.kids.length)
    {pl : Sem Bool} {pos : Pos} {e : PySem.Expr} {Q : Value → St → Prop} (he : We G A env e (fun v σ₁ => v = .ref fl ∧ σ₁ = σ) σ)
    (q : ∀ r H', Ext σ.H H' → Rep a H' (t.withK ts) r → Q (.ref r) ⟨σ.m, H'⟩) (hst : starEach [e] env = (false, eval e env) :: starEach [] env := by with_unfolding_all rfl) :
    ∀ u, er u = .ref x → Wt G A env.locals (fun p => (er p.1, p.2.map er)) (getMethod u "with_parts" pl) (fun fx σ₂ => ∀ p : Value × List Value, (er p.1, p.2.map er) = fx → Wt G A env.locals er (callWith pos p.1 p.2 (backTo pos (starEach [e] env)) []) Q σ₂) σ := by
  cases t <;> simp [T.kids] at hk0
  · rename_i l p b
    have hr0 := hr
    refine x3_4 hr ?_; (try clear hr); intro d pl y h1 h2 h3 h4
    rcases hk with _ | @⟨t1, y1, ts1, vs1, k1, k2⟩
    · simp [T.kids] at hlen
    cases k2 with
    | cons _ _ => simp [T.kids] at hlen
    | nil =>
    refine W_mcall O K.n.k_Lambda K.m.m_Lambda_with_parts K.m.a_Lambda_with_parts h1 h2 (by with_unfolding_all rfl) ?_ hst
    refine Wargs_cons (he.mono ?_) hst
    intro v σ₁ hq1
    refine x0_2 hq1 ?_; (try clear hq1); intro rfl rfl
    refine Wargs_nil ?_
    exact lambda_with_parts O K R hr0 hf k1 fun r H' g1 g2 => q r H' g1 g2
  · rename_i g gx
    refine x4_5 hr ?_; (try clear hr); intro d y ol z h1 h2 h3 h4 h5
    rcases hk with _ | @⟨t1, y1, ts1, vs1, k1, k2⟩
    · simp [T.kids] at hlen
    rcases k2 with _ | @⟨t2, y2, ts2, vs2, k2, k3⟩
    · simp [T.kids] at hlen
    cases k3 with
    | cons _ _ => simp [T.kids] at hlen
    | nil =>
    refine W_mcall O K.n.k_Call K.m.m_Call_with_parts K.m.a_Call_with_parts h1 h2 (by with_unfolding_all rfl) ?_ hst
    refine Wargs_cons (he.mono ?_) hst
    intro v σ₁ hq2
    refine x0_2 hq2 ?_; (try clear hq2); intro rfl rfl
    refine Wargs_nil ?_
    exact call_with_parts O K R hf (Nat.le_of_ble_eq_true rfl) fun r d ol H' g1 g2 g3 g4 => q r H' g1 ⟨d, _, ol, _, g2, g3, g4, k1.mono g1.le, k2.mono g1.le⟩
  · rename_i g gx gy
    refine x5_6 hr ?_; (try clear hr); intro d y ol z w h1 h2 h3 h4 h5 h6
    rcases hk with _ | @⟨t1, y1, ts1, vs1, k1, k2⟩
    · simp [T.kids] at hlen
    rcases k2 with _ | @⟨t2, y2, ts2, vs2, k2, k3⟩
    · simp [T.kids] at hlen
    rcases k3 with _ | @⟨t3, y3, ts3, vs3, k3, k4⟩
    · simp [T.kids] at hlen
    cases k4 with
    | cons _ _ => simp [T.kids] at hlen
    | nil =>
    refine W_mcall O K.n.k_Call K.m.m_Call_with_parts K.m.a_Call_with_parts h1 h2 (by with_unfolding_all rfl) ?_ hst
    refine Wargs_cons (he.mono ?_) hst
    intro v σ₁ hq3
    refine x0_2 hq3 ?_; (try clear hq3); intro rfl rfl
    refine Wargs_nil ?_
    exact call_with_parts O K R hf (Nat.le_of_ble_eq_true rfl) fun r d ol H' g1 g2 g3 g4 => q r H' g1 ⟨d, _, ol, _, _, g2, g3, g4, k1.mono g1.le, k2.mono g1.le, k3.mono g1.le⟩

/-- what `change` does -/
noncomputable def Chg (G : Gl) (a : KA) {S : Type} (H₀ : Hp) (c d : Addr) (M : S → MO) (f : T → S → T × S) (P : T → S → Prop) (n : Nat) : Prop :=
  ∃ g self, H₀ c = some (.meth g self) ∧ fnIn G.K g = true ∧ ∀ (A : Around), Rm A n → ∀ (H : Hp) (s : S) (t : T) (x : Addr) (Q : Value → Hp → Prop), Le H₀ H → H d = some (M s) → Rep a H t x → P t s →
    (∀ y H', ExtB d H H' → Le H H' → H' d = some (M (f t s).2) → Rep a H' (f t s).1 y → Q (.ref y) H') → Wc G A (.ref g) [.ref self, .ref x] Q H


theorem kids_le (t : T) : t.kids.length ≤ 3 := by cases t <;> simp [T.kids]

/-- the loops' states -/
inductive RbJ {S : Type} (a : KA) (H : Hp) (c d wl : Addr) (M : S → MO) (f : T → S → T × S) (P : T → S → Prop) (t : T) (s : S) (k : Nat) (σ : St) : Prop
  | mk (dl : Addr) (D : List T) (dv : List Value) (ws : List (T × Bool)) (wv : List Value) (s' : S) (hk : k = wgt ws) (m1 : σ.m "change" = some (.ref c)) (m2 : σ.m "done" = some (.ref dl)) (m3 : σ.m "waiting" = some (.ref wl)) (hB : ExtB d H σ.H) (hLe : Le H σ.H)
      (hds : σ.H d = some (M s')) (hdl : σ.H dl = some (.list false dv)) (hw : σ.H wl = some (.list false wv.reverse)) (hdl0 : H dl = none) (hdw : dl ≠ wl) (hD : Reps a σ.H D dv) (hW : Wrk a σ.H ws wv) (hfin : fin f ws D s' = ([(reb f t s).1], (reb f t s).2)) (hfok : fok f P ws D s') (hsz : D.length + wgt ws ≤ 2 * t.size)
inductive RbK (a : KA) (H H3 : Hp) (c d dl wl ql : Addr) (Ms : MO) (dv pv wv0 : List Value) (ks : List T) (i : Nat) (σ' : St) : Prop
  | mk (g1 : σ'.m "change" = some (.ref c)) (g2 : σ'.m "done" = some (.ref dl)) (g3 : σ'.m "waiting" = some (.ref wl)) (g4 : ExtB d H σ'.H) (g5 : Le H3 σ'.H) (g6 : σ'.H d = some Ms) (g7 : σ'.H dl = some (.list false dv)) (g8 : σ'.H ql = some (.list false pv)) (kv : List Value)
      (g9 : σ'.H wl = some (.list false (wv0 ++ kv.reverse))) (gl : kv.length = i) (g10 : Wrk a σ'.H ((ks.reverse.take i).reverse.map fun k => (k, false)) kv)
inductive RbM (a : KA) (H4 : Hp) (c el wl : Addr) (t : T) (fl' : Flow) (σ₁ : St) : Prop
  | mk (hf : fl' = .next) (y : Addr) (k1 : σ₁.m "here" = some (.ref y)) (k2 : σ₁.m "change" = some (.ref c)) (k3 : σ₁.m "done" = some (.ref el)) (k4 : σ₁.m "waiting" = some (.ref wl)) (hE4 : Ext H4 σ₁.H) (hry : Rep a σ₁.H t y)
theorem rebuilt (O : G.Ok) (K : KF G a) {n : Nat} (R : Rm A (n + 6)) {S : Type} {H : Hp} {c d : Addr} {M : S → MO} {f : T → S → T × S} {P : T → S → Prop} {t : T} {x : Addr} {s : S} (hz : t.size ≤ 1000) (hr : Rep a H t x) (hd : H d = some (M s)) (hM : (∀ s, (M s).fz = false) ∨ ∀ s s', M s = M s')
    (hc : Chg G a H c d M f P n) (ok : rok f P t s) {Q : Value → Hp → Prop}
    (q : ∀ y H', ExtB d H H' → Le H H' → H' d = some (M (reb f t s).2) → Rep a H' (reb f t s).1 y → Q (.ref y) H') : Wc G A (.ref a.f_rebuilt) [.ref x, .ref c] Q H := by
  (refine x2_3 hc ?_; (try clear hc); intro g self hcm hg hcall)
  refine Wc_fun O K.d.d_rebuilt.fn R.room ["node", "change"] (bd2 fun _ _ _ _ _ _ _ _ _ => rfl) (by rfl) (by rfl) (by rfl) (by rfl) (by rfl) ?_
  intro L qual cdv hL
  refine Ws_asg ?_
  refine We_List ?_
  refine Wargs_nil ?_
  refine ⟨Nat.zero_le _, fun d0 hd0 hd0L => ?_⟩
  have hE1 : Ext H (upd H d0 (.list false [])) := Ext.new hd0
  try dsimp only
  refine Ws_asg ?_
  refine We_List ?_
  refine Wargs_c ?_
  refine We_Tuple ?_
  refine Wargs_l (by walk_at "v") ?_
  refine Wargs_c ?_
  refine We_Bool ?_
  refine Wargs_nil ?_
  refine ⟨Nat.le_of_ble_eq_true rfl, fun tp htp htpL => ?_⟩
  have hE2 : Ext H (upd (upd H d0 (.list false [])) tp (.tuple [.ref x, .bool false])) := hE1.trans (Ext.new htp)
  refine Wargs_nil ?_
  refine ⟨Nat.le_of_ble_eq_true rfl, fun wl hwl hwlL => ?_⟩
  have hE3 := hE2.trans (Ext.new (o := .list false [.ref tp]) hwl)
  have hwl0 : H wl = none := hE2.none hwl
  have hwd : wl ≠ d := fun e => by rw [e, hd] at hwl0; cases hwl0
  try dsimp only
  refine Ws_cons ?_
  refine Wst_While (RbJ a H c d wl M f P t s) (2 * t.size) ?_ ?_
  · refine ⟨d0, [], [], [(t, false)], [.ref tp], s, by simp [wgt], by walk_at "v", by walk_at "v", by walk_at "v", hE3.b, hE3.le, hE3 _ _ hd, ?_, upd_same, hd0, ?_, .nil, .cons (t := t) (x := x) ?_ (hr.mono hE3.le) .nil, rfl, ⟨ok, trivial⟩, by simp [wgt]⟩
    · have h1 := ne_new htp (show _ = _ from upd_same)
      have h2 : d0 ≠ wl := ne_new hwl ((upd_ne h1).trans upd_same)
      exact (upd_ne h2).trans ((upd_ne h1).trans upd_same)
    · have h1 := ne_new htp (show _ = _ from upd_same)
      exact ne_new hwl ((upd_ne h1).trans upd_same)
    · exact (upd_ne (ne_new hwl upd_same)).trans upd_same
  intro k σ hq4
  obtain ⟨dl, D, dv, ws, wv, s', rfl, m1, m2, m3, hB, hLe, hds, hdl, hw, hdl0, hdw, hD, hW, hfin, hfok, hsz⟩ := hq4
  have hlw := length_wgt ws
  have hwv := hW.length
  have hdv := hD.length
  refine Wb_Compare ?_
  refine We_callB O K.c.nb_len bb_len ?_
  refine Wargs_l (by walk_at "v") ?_
  refine Wargs_nil ?_
  refine W_len_list hw (by rw [List.length_reverse]; lia) ?_
  refine We_Int ?_
  refine W_gt ?_
  refine W_truthy_bool ?_
  refine ifs (fun _ => ?_) (fun _ => ?_)
  · rename_i hgt
    rcases hW with _ | @⟨t0, b, tp0, x0, ws, wv, htp0, hr0, hW⟩
    · simp at hgt
    rw [List.reverse_cons] at hw
    rw [List.length_cons, List.length_cons] at hwv
    rw [List.length_cons] at hlw
    refine Ws_cons ?_
    refine Wst_AssignTuple ?_
    refine We_MethodCall ?_
    refine We_L (by walk_at "v") ?_
    refine W_mpop hw (by rw [List.length_reverse]; lia) ?_
    intro v' hv'
    cases er_ref hv'
    have hu1 : Le σ.H (upd σ.H wl (.list false wv.reverse)) := Le.mut hw rfl
    refine W_assign2 (R.le (Nat.le_add_left 0 _)).hd (hu1 _ _ rfl htp0) ?_
    intro u u' hu hu'
    refine W_nm hu ?_
    refine W_nm hu' ?_
    have hB1 : ExtB d H (upd σ.H wl (.list false wv.reverse)) := hB.mut hwl0
    have hL1 : Le H (upd σ.H wl (.list false wv.reverse)) := hLe.trans hu1
    have hD1 := hD.mono hu1
    have hW1 := hW.mono hu1
    have hr1 := hr0.mono hu1
    have hdl1 : upd σ.H wl (.list false wv.reverse) dl = some (.list false dv) := (upd_ne hdw).trans hdl
    have hwl1 : upd σ.H wl (.list false wv.reverse) wl = some (.list false wv.reverse) := upd_same
    have hds1 : upd σ.H wl (.list false wv.reverse) d = some (M s') := (upd_ne (Ne.symm hwd)).trans hds
    generalize upd σ.H wl (.list false wv.reverse) = H1 at hB1 hL1 hD1 hW1 hr1 hdl1 hwl1 hds1
    clear hu1 hD hW hr0 htp0
    try dsimp only
    refine Ws_asg ?_
    refine We_MethodCall ?_
    refine We_L (by walk_at "v") ?_
    refine W_parts O K (R.deeper (n := n + 5) |>.le (Nat.le_add_left 1 _)) (H₀ := H1) (.refl _) hr1 ?_
    intro pl pv H2 hE12 hpl0 hpl hkp hsame
    try dsimp only at hE12 hpl0 ⊢
    have hpv := hkp.length
    have hk3 := kids_le t0
    have hB2 := hB1.trans hE12.b
    have hL2 := hL1.trans hE12.le
    have hD2 := hD1.mono hE12.le
    have hW2 := hW1.mono hE12.le
    have hr2 := hr1.mono hE12.le
    have hkp2 := hkp.mono hE12.le
    have hdl2 := hE12 _ _ hdl1
    have hwl2 := hE12 _ _ hwl1
    have hds2 := hE12 _ _ hds1
    have hpl0' : pl ≠ dl := fun e => by rw [e, hdl1] at hpl0; cases hpl0
    have hplw : pl ≠ wl := fun e => by rw [e, hwl1] at hpl0; cases hpl0
    have hpld : pl ≠ d := fun e => by rw [e, hds1] at hpl0; cases hpl0
    have hplH : H pl = none := hB1.none hpld hpl0
    generalize hmm : setm (setm (setm σ.m "here" (.ref x0)) "is_left" (.bool b)) "parts" (.ref pl) = mm
    have n1 : mm "here" = some (.ref x0) := by rw [← hmm]; walk_at "v"
    have n2 : mm "is_left" = some (.bool b) := by rw [← hmm]; walk_at "v"
    have n3 : mm "parts" = some (.ref pl) := by rw [← hmm]; walk_at "v"
    have n4 : mm "change" = some (.ref c) := by rw [← hmm]; walk_at "v"
    have n5 : mm "done" = some (.ref dl) := by rw [← hmm]; walk_at "v"
    have n6 : mm "waiting" = some (.ref wl) := by rw [← hmm]; walk_at "v"
    clear hmm
    refine Ws_cons ?_
    refine Wst_IfE (fun σ₁ => σ₁ = ⟨mm, H2⟩ ∧ (b = true ∨ t0.kids = [])) ?_ ?_
    · intro _ hq5
      refine x0_2 hq5 ?_; (try clear hq5); intro rfl hb
      have hkl : t0.kids.length ≤ D.length ∧ P (t0.withK (D.drop (D.length - t0.kids.length))) s' ∧
          fin f ws (D.take (D.length - t0.kids.length) ++ [(f (t0.withK (D.drop (D.length - t0.kids.length))) s').1]) (f (t0.withK (D.drop (D.length - t0.kids.length))) s').2 = ([(reb f t s).1], (reb f t s).2) ∧
          fok f P ws (D.take (D.length - t0.kids.length) ++ [(f (t0.withK (D.drop (D.length - t0.kids.length))) s').1]) (f (t0.withK (D.drop (D.length - t0.kids.length))) s').2 := by
        cases b with
        | true => exact ⟨hfok.1.2.1, hfok.1.2.2, hfin, hfok.2⟩
        | false =>
          have hk0 : t0.kids = [] := by rcases hb with h | h; cases h; exact h
          have e1 : D.take (D.length - t0.kids.length) = D := by rw [hk0]; exact List.take_length
          rw [e1, withK_leaf hk0]
          have e2 : reb f t0 s' = f t0 s' := reb_leaf hk0 s'
          refine ⟨by rw [hk0]; exact Nat.zero_le _, rok_leaf hk0 s' hfok.1, ?_, ?_⟩
          · rw [← e2]; exact hfin
          · rw [← e2]; exact hfok.2
      refine x0_4 hkl ?_; (try clear hkl); intro hkl hP hfin' hfok'
      have hw0 : 1 ≤ wgt [(t0, b)] := by cases b <;> simp [wgt]; have := t0.size_pos; lia
      have hwg : wgt ((t0, b) :: ws) = wgt [(t0, b)] + wgt ws := by cases b <;> simp [wgt]
      rw [hwg] at hsz hlw
      have hnat : (dv.length : Int) - pv.length = ((D.length - t0.kids.length : Nat) : Int) := by rw [hpv, hdv]; lia
      refine Ws_asg ?_
      refine We_BinOp ?_
      refine We_callB O K.c.nb_len bb_len ?_
      refine Wargs_l (by walk_at "v") ?_
      refine Wargs_nil ?_
      refine W_len_list hdl2 (by lia) ?_
      refine We_callB O K.c.nb_len bb_len ?_
      refine Wargs_l (by walk_at "v") ?_
      refine Wargs_nil ?_
      refine W_len_list hpl (by lia) ?_
      refine W_sub ?_
      rw [hnat]
      try dsimp only
      refine Ws_asg ?_
      refine W_slice_from ?_
      refine We_L (by walk_at "v") ?_
      refine We_L (by walk_at "v") ?_
      refine ⟨dl, false, dv, _, rfl, rfl, hdl2, by lia, fun fl hfl hflL => ?_⟩
      try dsimp only at hfl ⊢
      have hE23 : Ext H2 (upd H2 fl (.list false (dv.drop (D.length - t0.kids.length)))) := Ext.new hfl
      refine Ws_asg ?_
      refine W_slice_upto ?_
      refine We_L (by walk_at "v") ?_
      refine We_L (by walk_at "v") ?_
      refine ⟨dl, dv, _, rfl, rfl, .inl ⟨false, hE23 _ _ hdl2⟩, by lia, fun el hel helL => ?_⟩
      try dsimp only at hel ⊢
      have hE24 := hE23.trans (Ext.new (o := .list false (dv.take (D.length - t0.kids.length))) hel)
      have hfe : fl ≠ el := ne_new hel upd_same
      generalize hH4 : upd (upd H2 fl (.list false (dv.drop (D.length - t0.kids.length)))) el (.list false (dv.take (D.length - t0.kids.length))) = H4 at hE24
      have hfl4 : H4 fl = some (.list false (dv.drop (D.length - t0.kids.length))) := by rw [← hH4, upd_ne hfe]; exact upd_same
      have hel4 : H4 el = some (.list false (dv.take (D.length - t0.kids.length))) := by rw [← hH4]; exact upd_same
      clear hH4
      have hel2 : H2 el = none := hE23.none hel
      have hed : el ≠ d := fun e => by rw [e, hds2] at hel2; cases hel2
      have hew : el ≠ wl := fun e => by rw [e, hwl2] at hel2; cases hel2
      have helH : H el = none := hB2.none hed hel2
      have hDd := (hD2.mono hE24.le).drop (D.length - t0.kids.length)
      have hDt := (hD2.mono hE24.le).take (D.length - t0.kids.length)
      refine Ws_cons ?_
      refine Wt.mono (Q := RbM a H4 c el wl (t0.withK (D.drop (D.length - t0.kids.length)))) ?_ ?_
      · refine Wst_If ?_
        refine Wb_Not ?_
        refine Wb_value ?_
        refine We_callK O K.d.d_are_same_list.glob K.d.d_are_same_list.fn.keep ?_
        refine Wargs_l (by walk_at "v") ?_
        refine Wargs_l (by walk_at "v") ?_
        refine Wargs_nil ?_
        refine Wcall_of ?_
        refine x_same O K (R.deeper (n := n + 5)) (hE24 _ _ hpl) hfl4 (by lia) (by rw [List.length_drop]; lia) (hkp2.mono hE24.le).inst hDd.inst ?_
        intro H5 hE45
        refine W_truthy_bool ?_
        refine ifs (fun _ => ?_) (fun _ => ?_)
        · rename_i hns
          have hk0 : t0.kids ≠ [] := fun e => by
            have h1 : pv = [] := by cases pv with | nil => rfl | cons _ _ => rw [e] at hpv; simp at hpv
            have h2 : dv.drop (D.length - t0.kids.length) = [] := List.drop_eq_nil_of_le (by rw [e]; simp; lia)
            rw [h1, h2] at hns
            simp at hns
          refine Ws_asg ?_
          refine We_MethodCall ?_
          refine We_L (by walk_at "v") ?_
          refine W_with_parts O K ((R.deeper (n := n + 5)).le (k := n + 4) (by lia)) (hr2.mono (hE24.le.trans hE45.le)) hk0 (hE45 _ _ hfl4) (hDd.mono hE45.le) (by rw [List.length_drop]; lia) ?_ ?_
          · refine We_L (by walk_at "v") ?_
            exact ⟨rfl, rfl⟩
          intro y H6 hE56 hry
          try dsimp only
          refine Ws_nil ?_
          exact ⟨rfl, y, by walk_at "v", by walk_at "v", by walk_at "v", by walk_at "v", hE45.trans hE56, hry⟩
        · rename_i hns
          refine Ws_nil ?_
          have he : pv = dv.drop (D.length - t0.kids.length) := by simpa using hns
          refine ⟨rfl, x0, by walk_at "v", by walk_at "v", by walk_at "v", by walk_at "v", hE45, hsame _ _ ((hE12.trans hE24).le.trans hE45.le) ?_⟩
          rw [he]; exact hDd.mono hE45.le
      intro _ σ₁ hq6
      obtain ⟨rfl, y, k1, k2, k3, k4, hE4, hry⟩ := hq6
      try dsimp only
      have hB4 : ExtB d H σ₁.H := hB2.trans (hE24.trans hE4).b
      have hL4 : Le H σ₁.H := hL2.trans (hE24.trans hE4).le
      refine Ws_cons ?_
      refine Wst_Expr ?_
      refine We_MethodCall ?_
      refine We_L (by walk_at "v") ?_
      refine W_mappend (hE4 _ _ hel4) ?_
      refine We_Call ?_
      refine We_L (by walk_at "v") ?_
      intro f' hf'
      cases er_ref hf'
      refine W_callWith_M (x := self) O hg ?_
      refine Wargs_l (by walk_at "v") ?_
      refine Wargs_nil ?_
      refine ⟨hL4 _ _ rfl hcm, ?_⟩
      refine Wcall_of (Wc_meth (hL4 _ _ rfl hcm) ?_)
      refine hcall _ (R.deeper (n := n + 5) |>.le (Nat.le_add_right n 5)) σ₁.H s' _ y _ hL4 ((hE24.trans hE4) _ _ hds2) hry hP ?_
      intro r H7 hB7 hL7 hd7 hr7
      have hel7 : H7 el = some (.list false (dv.take (D.length - t0.kids.length))) := hB7 _ _ hed (hE4 _ _ hel4)
      refine ⟨_, hel7, by rw [List.length_take]; lia, (fun _ h => by cases h), ?_⟩
      try dsimp only
      refine Ws_nil ?_
      refine Ws_nil ?_
      have hLe7 : Le H7 (upd H7 el (.list false (dv.take (D.length - t0.kids.length) ++ [.ref r]))) := Le.mut hel7 rfl
      refine ⟨_, ?_, el, _, _, ws, wv, _, rfl, by walk_at "v", by walk_at "v", by walk_at "v", (hB4.trans hB7).mut helH, (hL4.trans hL7).trans hLe7, (upd_ne (Ne.symm hed)).trans hd7, upd_same, ?_, helH, hew, (((hDt.mono hE4.le).mono hL7).append (.one hr7)).mono hLe7, ?_, hfin', hfok', ?_⟩
      · rw [hwg]; lia
      · refine (upd_ne (Ne.symm hew)).trans ?_
        exact hB7 _ _ hwd (hE4 _ _ (hE24 _ _ hwl2))
      · exact (((hW2.mono hE24.le).mono hE4.le).mono hL7).mono hLe7
      · rw [List.length_append, List.length_take, List.length_singleton]; lia
    · refine Wb_BoolOp ?_
      refine Wall_And ?_
      refine Wb_Not ?_
      refine Wb_value ?_
      refine We_L (by walk_at "v") ?_
      refine W_truthy_bool ?_
      cases b with
      | true =>
        exact And.intro rfl (.inl rfl)
      | false =>
        simp only [Bool.not_false, if_true]
        refine Wall_And ?_
        refine Wb_Compare ?_
        refine We_callB O K.c.nb_len bb_len ?_
        refine Wargs_l (by walk_at "v") ?_
        refine Wargs_nil ?_
        refine W_len_list hpl (by lia) ?_
        refine We_Int ?_
        refine W_gt ?_
        refine W_truthy_bool ?_
        refine ifs (fun _ => ?_) (fun _ => ?_)
        · rename_i hgt2
          have hk0 : t0.kids ≠ [] := fun e => by rw [e] at hpv; rw [hpv] at hgt2; simp at hgt2
          refine Wall_And_nil ?_
          simp only [if_true]
          have hwg : wgt ((t0, false) :: ws) = 2 * t0.size + wgt ws := rfl
          rw [hwg] at hsz hlw
          refine Ws_cons ?_
          refine Wst_Expr ?_
          refine We_MethodCall ?_
          refine We_L (by walk_at "v") ?_
          refine W_mappend hwl2 ?_
          refine We_Tuple ?_
          refine Wargs_l (by walk_at "v") ?_
          refine Wargs_c ?_
          refine We_Bool ?_
          refine Wargs_nil ?_
          refine ⟨Nat.le_of_ble_eq_true rfl, fun tq htq htqL => ?_⟩
          have hwq : wl ≠ tq := ne_new htq hwl2
          refine ⟨_, (upd_ne hwq).trans hwl2, by rw [List.length_reverse]; lia, (fun _ h => by cases h), ?_⟩
          try dsimp only
          have hL23 : Le H2 (upd (upd H2 tq (.tuple [.ref x0, .bool true])) wl (.list false (wv.reverse ++ [.ref tq]))) := (Ext.new htq).le.trans (Le.mut ((upd_ne hwq).trans hwl2) rfl)
          have htq0 : H2 tq = none := htq
          have htqd : tq ≠ d := fun e => by rw [e, hds2] at htq0; cases htq0
          have hB3 : ExtB d H (upd (upd H2 tq (.tuple [.ref x0, .bool true])) wl (.list false (wv.reverse ++ [.ref tq]))) := (hB2.mut (hB2.none htqd htq0)).mut hwl0
          have htq3 : upd (upd H2 tq (.tuple [.ref x0, .bool true])) wl (.list false (wv.reverse ++ [.ref tq])) tq = some (.tuple [.ref x0, .bool true]) := (upd_ne (Ne.symm hwq)).trans upd_same
          have keep3 : ∀ z o, z ≠ wl → H2 z = some o → upd (upd H2 tq (.tuple [.ref x0, .bool true])) wl (.list false (wv.reverse ++ [.ref tq])) z = some o := fun z o h1 h2 => (upd_ne h1).trans ((upd_ne (ne_new htq0 h2)).trans h2)
          have hwl3 : upd (upd H2 tq (.tuple [.ref x0, .bool true])) wl (.list false (wv.reverse ++ [.ref tq])) wl = some (.list false (wv.reverse ++ [.ref tq])) := upd_same
          generalize upd (upd H2 tq (.tuple [.ref x0, .bool true])) wl (.list false (wv.reverse ++ [.ref tq])) = H3 at hL23 hB3 htq3 keep3 hwl3
          refine Ws_cons ?_
          refine Wst_For_list (R.le (Nat.le_add_left 0 _)).hd ?_
          refine W_slice_rev ?_
          refine We_L (by walk_at "v") ?_
          refine We_Unary ?_
          refine We_Int ?_
          refine W_neg ?_
          refine ⟨pl, false, pv, rfl, rfl, keep3 _ _ hplw hpl, by lia, fun ql hql hqlL => ?_⟩
          dsimp only at hql
          have hqE : Ext H3 (upd H3 ql (.list false pv.reverse)) := Ext.new hql
          have hqw : wl ≠ ql := ne_new hql hwl3
          have hqd : ql ≠ d := fun e => by rw [e, keep3 _ _ (Ne.symm hwd) hds2] at hql; cases hql
          have hqdl : dl ≠ ql := ne_new hql (keep3 _ _ hdw hdl2)
          have hkr := (hkp2.mono hL23).reverse
          refine ⟨ql, pv.reverse, RbK a H H3 c d dl wl ql (M s') dv pv.reverse (wv.reverse ++ [.ref tq]) t0.kids, rfl, ?_⟩
          refine ⟨⟨by walk_at "v", by walk_at "v", by walk_at "v", hB3.trans hqE.b, hqE.le, hqE _ _ (keep3 _ _ (Ne.symm hwd) hds2), hqE _ _ (keep3 _ _ hdw hdl2), upd_same, [], ?_, rfl, .nil⟩, fun i σ' ⟨_, _, _, _, _, _, _, g8, _, _, _, _⟩ => ⟨_, g8⟩, ?_, ?_⟩
          · refine (upd_ne hqw).trans ?_
            simpa using hwl3
          · intro i v σ' hv hq7
            obtain ⟨g1, g2, g3, g4, g5, g6, g7, g8, kv, g9, gl, g10⟩ := hq7
            intro u hu
            refine x2_3 (hkr.get hv) ?_; intro ti xi hti rfl hri
            refine W_nm hu ?_
            refine Ws_cons ?_
            refine Wst_Expr ?_
            refine We_MethodCall ?_
            refine We_L (by walk_at "v") ?_
            refine W_mappend g9 ?_
            refine We_Tuple ?_
            refine Wargs_l (by walk_at "v") ?_
            refine Wargs_c ?_
            refine We_Bool ?_
            refine Wargs_nil ?_
            refine ⟨Nat.le_of_ble_eq_true rfl, fun tr htr htrL => ?_⟩
            try dsimp only at htr ⊢
            have hwr : wl ≠ tr := ne_new htr g9
            have hrd : tr ≠ d := fun e => by rw [e, g6] at htr; cases htr
            have hi3 : i < 3 := by
              have := (List.getElem?_eq_some_iff.mp hv).1
              rw [List.length_reverse] at this; lia
            refine ⟨_, (upd_ne hwr).trans g9, by rw [List.length_append, List.length_append, List.length_reverse, List.length_reverse, List.length_singleton]; lia, (fun _ h => by cases h), ?_⟩
            refine Ws_nil ?_
            have hLs : Le σ'.H (upd (upd σ'.H tr (.tuple [.ref xi, .bool false])) wl (.list false (wv.reverse ++ [.ref tq] ++ kv.reverse ++ [.ref tr]))) := (Ext.new htr).le.trans (Le.mut ((upd_ne hwr).trans g9) rfl)
            have kp : ∀ z o, z ≠ wl → σ'.H z = some o → upd (upd σ'.H tr (.tuple [.ref xi, .bool false])) wl (.list false (wv.reverse ++ [.ref tq] ++ kv.reverse ++ [.ref tr])) z = some o := fun z o h1 h2 => (upd_ne h1).trans ((upd_ne (ne_new htr h2)).trans h2)
            refine ⟨by walk_at "v", by walk_at "v", by walk_at "v", (g4.mut (g4.none hrd htr)).mut hwl0, g5.trans hLs, kp _ _ (Ne.symm hwd) g6, kp _ _ hdw g7, kp _ _ (Ne.symm hqw) g8, .ref tr :: kv, ?_, by simp [gl], ?_⟩
            · refine upd_same.trans ?_
              simp
            · have e : (t0.kids.reverse.take (i + 1)).reverse = ti :: (t0.kids.reverse.take i).reverse := by rw [List.take_add_one, hti]; simp
              rw [e]
              exact .cons ((upd_ne (Ne.symm hwr)).trans upd_same) ((hri.mono g5).mono hLs) (g10.mono hLs)
          · intro σ' hq8
            obtain ⟨g1, g2, g3, g4, g5, g6, g7, g8, kv, g9, gl, g10⟩ := hq8
            refine Ws_nil ?_
            refine Ws_nil ?_
            have e : t0.kids.reverse.take pv.reverse.length = t0.kids.reverse := List.take_of_length_le (by rw [List.length_reverse, List.length_reverse, hpv]; exact Nat.le_refl _)
            rw [e, List.reverse_reverse] at g10
            have hks := t0.size_kids
            refine ⟨_, ?_, dl, D, dv, t0.kids.map (fun k => (k, false)) ++ (t0, true) :: ws, kv ++ .ref tq :: wv, s', rfl, g1, g2, g3, g4, hL2.trans (hL23.trans g5), g6, g7, ?_, hdl0, hdw, (hD2.mono hL23).mono g5, g10.append (.cons (g5 _ _ rfl htq3) ((hr2.mono hL23).mono g5) ((hW2.mono hL23).mono g5)), ?_, fok_kids hk0 ws D s' hfok, ?_⟩
            · rw [wgt_kids, hwg]
              show _ + (1 + wgt ws) < _
              lia
            · rw [g9]; simp
            · rw [fin_kids hk0]; exact hfin
            · rw [wgt_kids]
              show _ + (_ + (1 + wgt ws)) ≤ _
              lia
        · rename_i hgt2
          refine ⟨rfl, .inr ?_⟩
          cases hk : t0.kids with
          | nil => rfl
          | cons _ _ => rw [hk] at hpv; rw [hpv] at hgt2; simp at hgt2
  · rename_i hgt
    have hs0 : ws = [] := by
      cases ws with
      | nil => rfl
      | cons t0 S => exfalso; apply hgt; rw [List.length_cons] at hwv; rw [List.length_reverse]; simp; lia
    subst hs0
    have hf1 : D = [(reb f t s).1] := congrArg Prod.fst hfin
    have hf2 : s' = (reb f t s).2 := congrArg Prod.snd hfin
    subst hf1
    rcases hD with _ | @⟨_, y, _, _, hy, hD⟩
    cases hD
    refine Ws_ret ?_
    refine We_Subscript ?_
    refine We_L (by walk_at "v") ?_
    refine We_Int ?_
    refine W_item_list hdl (by decide) (by decide) (x := .ref y) rfl ?_
    rw [hf2] at hds
    exact q y _ hB hLe hds hy

end -- MC5

section -- MC6
set_option maxRecDepth 20000
variable {G : Gl} {a : KA} {A : Around} {env : Env} {σ : St} {L : Addr}

namespace T
noncomputable def isLam : T → Bool
  | lam .. => true
  | _ => false
noncomputable def isLet : T → Bool
  | call1 f _ => f.isLam
  | _ => false
end T
theorem kind_call {t : T} : ((t.kind != 8) = false) ↔ (∃ f x, t = .call1 f x) ∨ ∃ f x y, t = .call2 f x y := by
  cases t <;> simp [T.kind]
theorem kind_lam {t : T} : (t.kind != 7) = !t.isLam := by cases t <;> simp [T.kind, T.isLam]

theorem is_let (O : G.Ok) (K : KF G a) {n : Nat} (R : Rm A (n + 1)) {H : Hp} {t : T} {x : Addr} (hr : Rep a H t x) {Q : Value → Hp → Prop} (q : Q (.bool t.isLet) H) : Wc G A (.ref a.f_is_let) [.ref x] Q H := by
  refine Wc_fun O K.d.d_is_let.fn R.room ["node"] (bd1 fun _ _ _ _ _ _ _ _ => rfl) (by rfl) (by rfl) (by rfl) (by rfl) (by rfl) ?_
  intro L qual cdv hL
  refine Ws_cons ?_
  refine Wst_If ?_
  refine Wb_BoolOp ?_
  refine Wall_Or ?_
  refine Wb_Compare ?_
  refine We_at ?_
  refine We_L (by walk_at "v") ?_
  refine W_kindT O K hr ?_
  refine We_GI O K.c.g_CALL ?_
  refine W_ne ?_
  refine W_truthy_bool ?_
  have rest : ∀ (y ol d : Addr) (f : T) (vs : List Value), H x = some (.inst a.cCall d) → H d = some (.attrs true [("operator", .ref y), ("operands", .ref ol)]) → H ol = some (.list true vs) → vs.length ≤ 1000 → Rep a H f y → t.isLet = (f.isLam && vs.length == 1) → (t.kind != 8) = false → Q (.bool (f.isLam && vs.length == 1)) H := by
    intro y ol d f vs _ _ _ _ _ h _; rw [← h]; exact q
  refine ifs (fun _ => ?_) (fun _ => ?_)
  · rename_i hk
    simp only [if_true]
    refine Ws_ret ?_
    refine We_Bool ?_
    have : t.isLet = false := by cases t <;> first | rfl | (simp [T.kind] at hk)
    rw [this] at q
    exact q
  · rename_i hk
    have hk : (t.kind != 8) = false := by simpa using hk
    obtain ⟨y, ol, d, f, vs, h1, h2, h3, h4, h5, h6⟩ : ∃ y ol d f vs, H x = some (.inst a.cCall d) ∧ H d = some (.attrs true [("operator", .ref y), ("operands", .ref ol)]) ∧ H ol = some (.list true vs) ∧ vs.length ≤ 1000 ∧ Rep a H f y ∧ t.isLet = (f.isLam && vs.length == 1) := by
      rcases kind_call.mp hk with ⟨f, g, rfl⟩ | ⟨f, g, k, rfl⟩
      · refine x4_5 hr ?_; (try clear hr); intro d y ol z h1 h2 h3 h4 h5
        exact ⟨y, ol, d, f, _, h1, h2, h3, Nat.le_of_ble_eq_true rfl, h4, by simp [T.isLet]⟩
      · refine x5_5 hr ?_; (try clear hr); intro d y ol z w h1 h2 h3 h4 h5
        exact ⟨y, ol, d, f, _, h1, h2, h3, Nat.le_of_ble_eq_true rfl, h4, by simp [T.isLet]⟩
    refine Wall_Or ?_
    refine Wb_Compare ?_
    refine We_at ?_
    refine We_own O K.n.k_Call K.n.o_Call_operator h1 h2 (by with_unfolding_all exact Eq.refl (some _)) (by walk_at "v") ?_
    refine W_kindT O K h5 ?_
    refine We_GI O K.c.g_LAMBDA ?_
    refine W_ne ?_
    refine W_truthy_bool ?_
    rw [kind_lam]
    refine ifs (fun _ => ?_) (fun _ => ?_)
    · rename_i hl
      simp only [if_true]
      refine Ws_ret ?_
      refine We_Bool ?_
      have : f.isLam = false := by simpa using hl
      rw [h6, this] at q
      exact q
    · rename_i hl
      have hl : f.isLam = true := by simpa using hl
      refine Wall_Or_nil ?_
      simp only [Bool.false_eq_true, if_false]
      obtain ⟨lb, p, b, rfl⟩ : ∃ lb p b, f = .lam lb p b := by cases f <;> simp [T.isLam] at hl; exact ⟨_, _, _, rfl⟩
      refine x3_4 h5 ?_; (try clear h5); intro d' pl yb g1 g2 g3 g4
      refine Ws_nil ?_
      refine Ws_ret ?_
      refine We_And2 ?_
      refine We_Compare ?_
      refine We_at ?_
      refine We_own O K.n.k_Call K.n.o_Call_operator h1 h2 (by with_unfolding_all exact Eq.refl (some _)) (by walk_at "v") ?_
      refine W_own O K.n.k_Lambda K.n.o_Lambda_rest g1 g2 (by with_unfolding_all rfl) ?_
      refine We_Int ?_
      refine W_lt ?_
      refine W_truthy_bool ?_
      simp only [show decide ((-1 : Int) < 0) = true from rfl, if_true]
      refine We_Compare ?_
      refine We_callB O K.c.nb_len bb_len ?_
      refine Wargs_c ?_
      refine We_at ?_
      refine We_own O K.n.k_Call K.n.o_Call_operator h1 h2 (by with_unfolding_all exact Eq.refl (some _)) (by walk_at "v") ?_
      refine W_own O K.n.k_Lambda K.n.o_Lambda_params g1 g2 (by with_unfolding_all rfl) ?_
      refine Wargs_nil ?_
      refine W_len_list g3 (by simp) ?_
      refine We_callB O K.c.nb_len bb_len ?_
      refine Wargs_c ?_
      refine We_own O K.n.k_Call K.n.o_Call_operands h1 h2 (by with_unfolding_all exact Eq.refl (some _)) (by walk_at "v") ?_
      refine Wargs_nil ?_
      refine W_len_list h3 (by lia) ?_
      refine W_eq ?_
      rw [h6] at q
      have e : ((([Value.int p 0].length : Nat) : Int) == (vs.length : Int)) = (T.isLam (.lam lb p b) && vs.length == 1) := by
        simp only [T.isLam, Bool.true_and, List.length_singleton]
        rw [Bool.eq_iff_iff, beq_iff_eq, beq_iff_eq]
        lia
      rw [e]
      exact q

/-- the numbers' giver at d, with the last number given -/
noncomputable def nmo (tb ti dop : Addr) (s : Int) : MO := .attrs false [("table", .ref tb), ("last", .int s 0), ("titles", .ref ti), ("ops", .ref dop), ("root", .none)]
structure Wld (a : KA) (H : Hp) (w d ti : Addr) : Prop where
  inst : H w = some (.inst a.cNames d)
  tit : H ti = some (.tab true [])
  low : ti ≠ sysModules
theorem Wld.mono {H H' : Hp} {w d ti : Addr} (h : Le H H') (x : Wld a H w d ti) : Wld a H' w d ti := ⟨h _ _ rfl x.inst, h _ _ rfl x.tit, x.low⟩

theorem fresh (O : G.Ok) (K : KF G a) {n : Nat} (R : Rm A (n + 1)) {H : Hp} {w d ti tb dop : Addr} {s : Int} (hw : Wld a H w d ti) (hd : H d = some (nmo tb ti dop s)) {Q : Value → Hp → Prop} (q : Q (.int (s + 1) 0) (upd H d (nmo tb ti dop (s + 1)))) : Wc G A (.ref a.fNames_fresh) [.ref w] Q H := by
  refine Wc_fun O K.m.m_Names_fresh R.room ["self"] (bd1 fun _ _ _ _ _ _ _ _ => rfl) (by rfl) (by rfl) (by rfl) (by rfl) (by rfl) ?_
  intro L qual cdv hL
  refine Ws_asga ?_
  refine We_BinOp ?_
  refine We_own O K.o.k_Names K.o.o_Names_last hw.inst hd (by with_unfolding_all exact Eq.refl (some _)) (by walk_at "v") ?_
  refine We_Int ?_
  refine W_add ?_
  refine We_L (by walk_at "v") ?_
  refine W_set O (x := w) (d := d) K.o.k_Names K.o.o_Names_last hw.inst hd (Nat.le_of_ble_eq_true rfl) ?_
  have e : upd H d (.attrs false (puta "last" (.int (s + 1) 0) [("table", .ref tb), ("last", .int s 0), ("titles", .ref ti), ("ops", .ref dop), ("root", .none)])) = upd H d (nmo tb ti dop (s + 1)) := by
    congr 1
  have hwd : w ≠ d := fun e => by have := hw.inst; rw [e, hd] at this; cases this
  try dsimp only
  refine Ws_ret ?_
  refine We_own O (x := w) (d := d) K.o.k_Names K.o.o_Names_last ((upd_ne hwd).trans hw.inst) upd_same (by with_unfolding_all exact Eq.refl (some _)) (by walk_at "v") ?_
  rw [← e] at q
  exact q

theorem W_fresh (O : G.Ok) (K : KF G a) {n : Nat} (R : Rm A (n + 1)) {w d ti tb dop : Addr} {s : Int} (hw : Wld a σ.H w d ti) (hd : σ.H d = some (nmo tb ti dop s)) {pl : Sem Bool} {pos : Pos} {Q : Value → St → Prop} (q : Q (.int (s + 1) 0) ⟨σ.m, upd σ.H d (nmo tb ti dop (s + 1))⟩) :
    ∀ u, er u = .ref w → Wt G A env.locals (fun p => (er p.1, p.2.map er)) (getMethod u "fresh" pl) (fun fx σ₂ => ∀ p : Value × List Value, (er p.1, p.2.map er) = fx → Wt G A env.locals er (callWith pos p.1 p.2 (backTo pos (starEach [] env)) []) Q σ₂) σ :=
  W_mcall0 O K.o.k_Names K.m.m_Names_fresh K.m.a_Names_fresh hw.inst hd (by with_unfolding_all rfl) (fresh O K R hw hd q)

end -- MC6

section -- MC7
set_option maxRecDepth 20000
variable {G : Gl} {a : KA} {A : Around} {env : Env} {σ : St} {L : Addr}

/-- int-valued dicts -/
noncomputable def im (m : List (Int × Int)) : List (Int × Value) := m.map fun p => (p.1, .int p.2 0)
noncomputable def iget (k : Int) : List (Int × Int) → Option Int
  | [] => none
  | p :: r => if p.1 = k then some p.2 else iget k r
theorem tget_im (k : Int) : ∀ m : List (Int × Int), tget k (im m) = (iget k m).map fun i => Value.int i 0
  | [] => rfl
  | p :: r => by
    unfold im tget iget
    rw [List.map_cons]
    try dsimp only
    by_cases h : p.1 = k
    · rw [if_pos h, if_pos h]; rfl
    · rw [if_neg h, if_neg h]; exact tget_im k r
noncomputable def irn (m : List (Int × Int)) (k : Int) : Int := (iget k m).getD k
theorem getD_im (k : Int) (m : List (Int × Int)) : (tget k (im m)).getD (.int k 0) = .int (irn m k) 0 := by
  rw [tget_im]
  unfold irn
  cases iget k m <;> rfl

theorem new_Renaming (O : G.Ok) (K : KF G a) {n : Nat} (R : Rm A (n + 2)) {Q : Value → St → Prop}
    (q : ∀ x d lo la H', Ext σ.H H' → σ.H x = none → σ.H d = none → σ.H lo = none → σ.H la = none → lo ≠ la → lo ≠ sysModules → la ≠ sysModules → H' x = some (.inst a.cRenaming d) → H' d = some (.attrs true [("locals", .ref lo), ("labels", .ref la)]) → H' lo = some (.tab false []) → H' la = some (.tab false []) → Q (.ref x) ⟨σ.m, H'⟩) : Wcall G A L (.ref a.cRenaming) [] Q σ := by
  refine Wcall_new O K.o.k_Renaming.made K.o.k_Renaming.init K.o.k_Renaming.fni.isFn ?_
  intro x d hx hd hxd hxL hdL us hus
  refine Wc_fun O K.o.k_Renaming.fni (R.make (n := n + 1)).room ["self"] (bd1 fun _ _ _ _ _ _ _ _ => rfl) (by rfl) (by rfl) (by rfl) (by rfl) (by rfl) ?_
  intro L' qual cdv hL'
  have hE1 : Ext σ.H (upd (upd σ.H d (.attrs false [])) x (.inst a.cRenaming d)) := Ext.mut (Ext.new hd) hx
  refine Ws_asga ?_
  refine W_Dict_empty O ?_
  intro lo hlo hloL hlow
  try dsimp only at hlo ⊢
  have hlo0 : σ.H lo = none := hE1.none hlo
  have hlx : x ≠ lo := ne_new hlo upd_same
  have hld : d ≠ lo := ne_new hlo ((upd_ne (Ne.symm hxd)).trans upd_same)
  have hE2 := hE1.trans (Ext.new (o := .tab false []) hlo)
  refine We_L (by walk_at "v") ?_
  refine W_set O (x := x) (d := d) K.o.k_Renaming K.o.o_Renaming_locals (by repeat (first | with_reducible assumption | with_reducible exact upd_same | with_reducible refine upd_other (by first | assumption | exact Ne.symm (by assumption)) ?_)) (by repeat (first | with_reducible assumption | with_reducible exact upd_same | with_reducible refine upd_other (by first | assumption | exact Ne.symm (by assumption)) ?_)) (Nat.le_of_ble_eq_true (by with_unfolding_all rfl)) ?_
  have hE3 := hE2.mut (o := .attrs false (puta "locals" (.ref lo) [])) hd
  try dsimp only
  refine Ws_asga ?_
  refine W_Dict_empty O ?_
  intro la hla hlaL hlaw
  try dsimp only at hla ⊢
  have hla0 : σ.H la = none := hE3.none hla
  have hax : x ≠ la := ne_new hla (by repeat (first | with_reducible assumption | with_reducible exact upd_same | with_reducible refine upd_other (by first | assumption | exact Ne.symm (by assumption)) ?_))
  have had : d ≠ la := ne_new hla (by repeat (first | with_reducible assumption | with_reducible exact upd_same | with_reducible refine upd_other (by first | assumption | exact Ne.symm (by assumption)) ?_))
  have hal : lo ≠ la := ne_new hla (by repeat (first | with_reducible assumption | with_reducible exact upd_same | with_reducible refine upd_other (by first | assumption | exact Ne.symm (by assumption)) ?_))
  have hE4 := hE3.trans (Ext.new (o := .tab false []) hla)
  refine We_L (by walk_at "v") ?_
  refine W_set O (x := x) (d := d) K.o.k_Renaming K.o.o_Renaming_labels (by repeat (first | with_reducible assumption | with_reducible exact upd_same | with_reducible refine upd_other (by first | assumption | exact Ne.symm (by assumption)) ?_)) (by repeat (first | with_reducible assumption | with_reducible exact upd_same | with_reducible refine upd_other (by first | assumption | exact Ne.symm (by assumption)) ?_)) (Nat.le_of_ble_eq_true (by with_unfolding_all rfl)) ?_
  refine Wt.frz (Frz.one (a := d) upd_same) ?_
  refine Ws_nil ?_
  refine ⟨rfl, q x d lo la _ ?_ hx hd hlo0 hla0 hal hlow hlaw ?_ upd_same ?_ ?_⟩
  · exact (hE4.mut hd).mut hd
  · repeat (first | with_reducible assumption | with_reducible exact upd_same | with_reducible refine upd_other (by first | assumption | exact Ne.symm (by assumption)) ?_)
  · repeat (first | with_reducible assumption | with_reducible exact upd_same | with_reducible refine upd_other (by first | assumption | exact Ne.symm (by assumption)) ?_)
  · repeat (first | with_reducible assumption | with_reducible exact upd_same | with_reducible refine upd_other (by first | assumption | exact Ne.symm (by assumption)) ?_)

structure Ren (a : KA) (H : Hp) (r d lo la : Addr) : Prop where
  inst : H r = some (.inst a.cRenaming d)
  at_ : H d = some (.attrs true [("locals", .ref lo), ("labels", .ref la)])
  low : lo ≠ sysModules
  low' : la ≠ sysModules
theorem Ren.mono {H H' : Hp} {r d lo la : Addr} (h : Le H H') (x : Ren a H r d lo la) : Ren a H' r d lo la := ⟨h _ _ rfl x.inst, h _ _ rfl x.at_, x.low, x.low'⟩

theorem renaming_local (O : G.Ok) (K : KF G a) {n : Nat} (R : Rm A (n + 1)) {H : Hp} {r d lo la : Addr} {z : Bool} {m : List (Int × Int)} {k : Int} (hr : Ren a H r d lo la) (hm : H lo = some (.tab z (im m))) {Q : Value → Hp → Prop} (q : Q (.int (irn m k) 0) H) : Wc G A (.ref a.fRenaming_local) [.ref r, .int k 0] Q H := by
  refine Wc_fun O K.m.m_Renaming_local R.room ["self", "number"] (bd2 fun _ _ _ _ _ _ _ _ _ => rfl) (by rfl) (by rfl) (by rfl) (by rfl) (by rfl) ?_
  intro L qual cdv hL
  refine Ws_ret ?_
  refine We_MethodCall ?_
  refine We_own O K.o.k_Renaming K.o.o_Renaming_locals hr.inst hr.at_ (by with_unfolding_all exact Eq.refl (some _)) (by walk_at "v") ?_
  refine W_bcall (gm_tab hm PySem.F.slot_dict_get (by rfl)) ?_
  refine Wargs_l (by walk_at "v") ?_
  refine Wargs_l (by walk_at "v") ?_
  refine Wargs_nil ?_
  refine W_get2 hm hr.low ?_
  rw [getD_im]
  exact q
theorem renaming_label (O : G.Ok) (K : KF G a) {n : Nat} (R : Rm A (n + 1)) {H : Hp} {r d lo la : Addr} {z : Bool} {m : List (Int × Int)} {k : Int} (hr : Ren a H r d lo la) (hm : H la = some (.tab z (im m))) {Q : Value → Hp → Prop} (q : Q (.int (irn m k) 0) H) : Wc G A (.ref a.fRenaming_label) [.ref r, .int k 0] Q H := by
  refine Wc_fun O K.m.m_Renaming_label R.room ["self", "number"] (bd2 fun _ _ _ _ _ _ _ _ _ => rfl) (by rfl) (by rfl) (by rfl) (by rfl) (by rfl) ?_
  intro L qual cdv hL
  refine Ws_ret ?_
  refine We_MethodCall ?_
  refine We_own O K.o.k_Renaming K.o.o_Renaming_labels hr.inst hr.at_ (by with_unfolding_all exact Eq.refl (some _)) (by walk_at "v") ?_
  refine W_bcall (gm_tab hm PySem.F.slot_dict_get (by rfl)) ?_
  refine Wargs_l (by walk_at "v") ?_
  refine Wargs_l (by walk_at "v") ?_
  refine Wargs_nil ?_
  refine W_get2 hm hr.low' ?_
  rw [getD_im]
  exact q

noncomputable def renF (locs labs : List (Int × Int)) : T → Unit → T × Unit
  | .loc n, _ => (.loc (irn locs n), ())
  | .lam l p b, _ => (.lam (irn labs l) (irn locs p) b, ())
  | t, _ => (t, ())

theorem irn_none {m : List (Int × Int)} {k : Int} (h : (tget k (im m)).isSome = false) : irn m k = k := by
  rw [tget_im] at h
  unfold irn
  cases q : iget k m with
  | none => rfl
  | some i => rw [q] at h; cases h

end -- MC7

section -- MC8
set_option maxRecDepth 20000
variable {G : Gl} {a : KA} {A : Around} {env : Env} {σ : St} {L : Addr}

theorem renaming_turned (O : G.Ok) (K : KF G a) {n : Nat} (R : Rm A (n + 6)) {H : Hp} {t : T} {x r d lo la : Addr} {locs labs : List (Int × Int)} {z z' : Bool} (hr : Ren a H r d lo la) (hlo : H lo = some (.tab z (im locs))) (hla : H la = some (.tab z' (im labs))) (ht : Rep a H t x) {Q : Value → Hp → Prop}
    (q : ∀ y H', Ext H H' → Rep a H' (renF locs labs t ()).1 y → Q (.ref y) H') : Wc G A (.ref a.fRenaming_turned) [.ref r, .ref x] Q H := by
  refine Wc_funC O K.m.m_Renaming_turned R.room ["self", "node"] "self" (bd2 fun _ _ _ _ _ _ _ _ _ => rfl) (by intro _; with_unfolding_all rfl) (by rfl) (by rfl) (by rfl) (by rfl) ?_
  intro L qual cdv hL hL1
  have hE0 : Ext H (upd H (L + 1) (.cell (some (.ref r)))) := Ext.new hL1
  have hc : upd H (L + 1) (.cell (some (.ref r))) (L + 1) = some (.cell (some (.ref r))) := upd_same
  show Ws G _ _ _ _ ⟨_, upd H (L + 1) (.cell (some (.ref r)))⟩
  generalize upd H (L + 1) (.cell (some (.ref r))) = H0 at hE0 hc
  have hr0 := hr.mono hE0.le
  have hlo0 := hE0 _ _ hlo
  have hla0 := hE0 _ _ hla
  have ht0 := ht.mono hE0.le
  have R1 : Rm (A.deeper (envOfC qual (scopeOf (methAt 25 3)) L a.fRenaming_turned cdv)) (n + 5) := R.deeper
  refine Ws_cons ?_
  refine Wst_If ?_
  refine Wb_kind O K ht0 K.c.g_LOCAL (by walk_at "v") ?_
  refine ifs (fun _ => ?_) (fun _ => ?_)
  · rename_i hk
    obtain ⟨k, rfl⟩ : ∃ k, t = .loc k := by cases t <;> simp [T.kind] at hk; exact ⟨_, rfl⟩
    refine x1_2 ht0 ?_; (try clear ht0); intro dn g1 g2
    refine Ws_ret ?_
    refine We_IfExp ?_
    refine Wb_Compare ?_
    refine We_own O K.n.k_Local K.n.o_Local_number g1 g2 (by with_unfolding_all exact Eq.refl (some _)) (by walk_at "v") ?_
    refine We_at ?_
    refine We_Cell (c := L + 1) (by repeat (first | with_reducible assumption | with_reducible exact upd_same | with_reducible refine upd_other (by first | assumption | exact Ne.symm (by assumption)) ?_)) ?_
    refine W_own O K.o.k_Renaming K.o.o_Renaming_locals hr0.inst hr0.at_ (by with_unfolding_all rfl) ?_
    refine W_in hlo0 hr0.low ?_
    refine W_truthy_bool ?_
    refine ifs (fun _ => ?_) (fun _ => ?_)
    · rename_i hin
      refine We_callK O K.n.k_Local.glob K.n.k_Local.keep ?_
      refine Wargs_c ?_
      refine We_MethodCall ?_
      refine We_Cell (c := L + 1) (by repeat (first | with_reducible assumption | with_reducible exact upd_same | with_reducible refine upd_other (by first | assumption | exact Ne.symm (by assumption)) ?_)) ?_
      refine W_mcall O K.o.k_Renaming K.m.m_Renaming_local K.m.a_Renaming_local hr0.inst hr0.at_ (by with_unfolding_all rfl) ?_
      refine Wargs_c ?_
      refine We_own O K.n.k_Local K.n.o_Local_number g1 g2 (by with_unfolding_all exact Eq.refl (some _)) (by walk_at "v") ?_
      refine Wargs_nil ?_
      refine renaming_local O K (R1.le (k := 1) (by lia)) hr0 hlo0 ?_
      refine Wargs_nil ?_
      refine new_Local O K (R1.le (k := n + 2) (by lia)) ?_
      intro y dy H' hE _ _ k1 k2
      exact q y H' (hE0.trans hE) ⟨dy, k1, k2⟩
    · rename_i hin
      refine We_L (by walk_at "v") ?_
      refine q x H0 hE0 ?_
      show Rep a H0 (.loc (irn locs k)) x
      rw [irn_none (by simpa using hin)]
      exact ⟨dn, g1, g2⟩
  · rename_i hk
    refine Ws_nil ?_
    refine Ws_cons ?_
    refine Wst_If ?_
    refine Wb_kind O K ht0 K.c.g_SET_LOCAL (by walk_at "v") ?_
    refine iff_ (by cases t <;> simp [T.kind]) ?_
    refine Ws_nil ?_
    refine Ws_cons ?_
    refine Wst_If ?_
    refine Wb_kind O K ht0 K.c.g_LAMBDA (by walk_at "v") ?_
    refine ifs (fun _ => ?_) (fun _ => ?_)
    · rename_i hk
      obtain ⟨l, p, b, rfl⟩ : ∃ l p b, t = .lam l p b := by cases t <;> simp [T.kind] at hk; exact ⟨_, _, _, rfl⟩
      refine x3_4 ht0 ?_; (try clear ht0); intro dn pl y g1 g2 g3 g4
      refine Ws_cons ?_
      refine Wst_AssignComp [("self", L + 1)] R1.hd ?_
      refine We_own O K.n.k_Lambda K.n.o_Lambda_params g1 g2 (by with_unfolding_all exact Eq.refl (some _)) (by walk_at "v") ?_
      refine ⟨_, _, _, fun acc i ys H' => H' acc = some (.list false ys) ∧ (H0 acc = none ∧ Ext H0 H') ∧ ((i = 0 ∧ ys = []) ∨ (i = 1 ∧ ys = [.int (irn locs p) 0])), Src.list g3, ?_⟩
      refine ⟨Nat.le_of_ble_eq_true rfl, fun acc h => ⟨upd_same, ⟨h, Ext.new h⟩, .inl ⟨rfl, rfl⟩⟩, fun acc i ys H' ⟨j1, ⟨j0, j2⟩, j3⟩ => ⟨j1, ⟨_, j2 _ _ g3⟩, ?_⟩, ?_, ?_⟩
      · rcases j3 with ⟨rfl, rfl⟩ | ⟨rfl, rfl⟩ <;> exact Nat.le_refl _
      · intro acc C i v ys H' hi hP hq1
        refine x0_3 hq1 ?_; (try clear hq1); intro j1 hq2 j3
        refine x0_2 hq2 ?_; (try clear hq2); intro j0 j2
        intro hCa hHC
        obtain rfl : i = 0 := by simpa using hi
        obtain rfl : v = .int p 0 := by simpa using hP.symm
        rcases j3 with ⟨_, rfl⟩ | ⟨h, _⟩
        · refine Wts_nil ?_
          refine ift rfl ?_
          have hr1 := hr0.mono j2.le
          refine We_MethodCall ?_
          refine We_Cell (c := L + 1) (j2 _ _ hc) ?_
          refine W_mcall O K.o.k_Renaming K.m.m_Renaming_local K.m.a_Renaming_local hr1.inst hr1.at_ (by with_unfolding_all rfl) ?_
          refine Wargs_l (by walk_at "v") ?_
          refine Wargs_nil ?_
          refine renaming_local O K (R1.le (k := 1) (by lia)) hr1 (j2 _ _ hlo0) ?_
          exact ⟨j1, upd_same, ⟨j0, j2.mut j0⟩, .inr ⟨rfl, rfl⟩⟩
        · cases h
      · intro acc ys H' hacc hq3
        refine x0_3 hq3 ?_; (try clear hq3); intro j1 hq4 j3
        refine x0_2 hq4 ?_; (try clear hq4); intro j0 j2
        obtain rfl : ys = [.int (irn locs p) 0] := by
          rcases j3 with ⟨h, _⟩ | ⟨_, h⟩
          · cases h
          · exact h
        have hr1 := hr0.mono j2.le
        try dsimp only
        refine Ws_asg ?_
        refine We_IfExp ?_
        refine Wb_Compare ?_
        refine We_own O K.n.k_Lambda K.n.o_Lambda_rest (j2 _ _ g1) (j2 _ _ g2) (by with_unfolding_all exact Eq.refl (some _)) (by walk_at "v") ?_
        refine We_Int ?_
        refine W_ge ?_
        refine W_truthy_bool ?_
        refine iff_ (by decide) ?_
        refine We_Unary ?_
        refine We_Int ?_
        refine W_neg ?_
        try dsimp only
        refine Ws_ret ?_
        refine We_callK O K.n.k_Lambda.glob K.n.k_Lambda.keep ?_
        refine Wargs_c ?_
        refine We_MethodCall ?_
        refine We_Cell (c := L + 1) (j2 _ _ hc) ?_
        refine W_mcall O K.o.k_Renaming K.m.m_Renaming_label K.m.a_Renaming_label hr1.inst hr1.at_ (by with_unfolding_all rfl) ?_
        refine Wargs_c ?_
        refine We_own O K.n.k_Lambda K.n.o_Lambda_label (j2 _ _ g1) (j2 _ _ g2) (by with_unfolding_all exact Eq.refl (some _)) (by walk_at "v") ?_
        refine Wargs_nil ?_
        refine renaming_label O K (R1.le (k := 1) (by lia)) hr1 (j2 _ _ hla0) ?_
        refine Wargs_l (by walk_at "v") ?_
        refine Wargs_l (by walk_at "v") ?_
        refine Wargs_c ?_
        refine We_own O K.n.k_Lambda K.n.o_Lambda_body (j2 _ _ g1) (j2 _ _ g2) (by with_unfolding_all exact Eq.refl (some _)) (by walk_at "v") ?_
        refine Wargs_nil ?_
        refine Wcall.frz (Frz.one (a := acc) j1) ?_
        refine new_Lambda O K (R1.le (k := n + 2) (by lia)) ?_
        intro yy dy H2 hE2 _ _ k1 k2
        have hE : Ext H0 H2 := (j2.mut j0).trans hE2
        exact q yy H2 (hE0.trans hE) ⟨dy, acc, y, k1, k2, hE2 _ _ upd_same, g4.mono hE.le⟩
    · rename_i hk2
      refine Ws_nil ?_
      refine Ws_cons ?_
      refine Wst_If ?_
      refine Wb_kind O K ht0 K.c.g_FIX (by walk_at "v") ?_
      refine iff_ (by cases t <;> simp [T.kind]) ?_
      refine Ws_nil ?_
      refine Ws_ret ?_
      refine We_L (by walk_at "v") ?_
      refine q x H0 hE0 ?_
      have : (renF locs labs t ()).1 = t := by cases t <;> first | rfl | (simp [T.kind] at hk hk2)
      rw [this]
      exact ht0

theorem chg_ren (O : G.Ok) (K : KF G a) {n : Nat} {H₀ : Hp} {r d lo la c : Addr} {locs labs : List (Int × Int)} (hc : H₀ c = some (.meth a.fRenaming_turned r)) (hr : Ren a H₀ r d lo la) (hlo : H₀ lo = some (.tab true (im locs))) (hla : H₀ la = some (.tab true (im labs))) :
    Chg G a H₀ c d (fun _ : Unit => .attrs true [("locals", .ref lo), ("labels", .ref la)]) (renF locs labs) (fun _ _ => True) (n + 6) :=
  ⟨_, r, hc, K.m.m_Renaming_turned.fnIn, fun A R H s t x Q hL hd ht _ q => renaming_turned O K R (hr.mono hL) (hL _ _ rfl hlo) (hL _ _ rfl hla) ht fun y H' hE hy => q y H' hE.b hE.le (hE _ _ hd) hy⟩

end -- MC8

section -- MC9
set_option maxRecDepth 20000
variable {G : Gl} {a : KA} {A : Around} {env : Env} {σ : St} {L : Addr}

namespace T
noncomputable def binds : T → List Value
  | lam _ p _ => [.int p 0]
  | _ => []
noncomputable def noLam : T → Bool
  | lam .. => false
  | call1 f x => f.noLam && x.noLam
  | call2 f x y => f.noLam && x.noLam && y.noLam
  | con _ => true
  | loc _ => true
  | glob => true
end T
theorem noLam_nodes : ∀ {t : T}, t.noLam = true → ∀ s ∈ t.nodes, s.isLam = false
  | .con _, _, s, hs => by simp [T.nodes] at hs; subst hs; rfl
  | .loc _, _, s, hs => by simp [T.nodes] at hs; subst hs; rfl
  | .glob, _, s, hs => by simp [T.nodes] at hs; subst hs; rfl
  | .lam .., h, _, _ => by simp [T.noLam] at h
  | .call1 f x, h, s, hs => by
    simp only [T.noLam, Bool.and_eq_true] at h
    simp only [T.nodes, List.mem_cons, List.mem_append] at hs
    rcases hs with rfl | hs | hs
    · rfl
    · exact noLam_nodes h.1 s hs
    · exact noLam_nodes h.2 s hs
  | .call2 f x y, h, s, hs => by
    simp only [T.noLam, Bool.and_eq_true] at h
    simp only [T.nodes, List.mem_cons, List.mem_append] at hs
    rcases hs with rfl | hs | hs | hs
    · rfl
    · exact noLam_nodes h.1.1 s hs
    · exact noLam_nodes h.1.2 s hs
    · exact noLam_nodes h.2 s hs

theorem lambda_binders (O : G.Ok) (K : KF G a) {n : Nat} (R : Rm A (n + 1)) {H : Hp} {l p : Int} {b : T} {x : Addr} (hr : Rep a H (.lam l p b) x) {Q : Value → Hp → Prop}
    (q : ∀ r H', Ext H H' → H r = none → H' r = some (.list false [.int p 0]) → Q (.ref r) H') : Wc G A (.ref a.fLambda_binders) [.ref x] Q H := by
  (refine x3_4 hr ?_; (try clear hr); intro d pl y h1 h2 h3 h4)
  refine Wc_fun O K.m.m_Lambda_binders R.room ["self"] (bd1 fun _ _ _ _ _ _ _ _ => rfl) (by rfl) (by rfl) (by rfl) (by rfl) (by rfl) ?_
  intro L qual cdv hL
  refine Ws_ret ?_
  refine We_IfExp ?_
  refine Wb_Compare ?_
  refine We_own O K.n.k_Lambda K.n.o_Lambda_rest h1 h2 (by with_unfolding_all exact Eq.refl (some _)) (by walk_at "v") ?_
  refine We_Int ?_
  refine W_ge ?_
  refine W_truthy_bool ?_
  refine iff_ (by decide) ?_
  refine We_callT O K.c.nb_list bb_list ?_
  refine Wargs_c ?_
  refine We_own O K.n.k_Lambda K.n.o_Lambda_params h1 h2 (by with_unfolding_all exact Eq.refl (some _)) (by walk_at "v") ?_
  refine Wargs_nil ?_
  refine W_list_copy h3 (Nat.le_of_ble_eq_true rfl) ?_
  intro r hr _
  exact q r _ (Ext.new hr) hr upd_same

theorem binders_of (O : G.Ok) (K : KF G a) {n : Nat} (R : Rm A (n + 2)) {H : Hp} {t : T} {x : Addr} (hr : Rep a H t x) {Q : Value → Hp → Prop}
    (q : ∀ r H', Ext H H' → H r = none → H' r = some (.list false t.binds) → Q (.ref r) H') : Wc G A (.ref a.f_binders_of) [.ref x] Q H := by
  refine Wc_fun O K.d.d_binders_of.fn R.room ["node"] (bd1 fun _ _ _ _ _ _ _ _ => rfl) (by rfl) (by rfl) (by rfl) (by rfl) (by rfl) ?_
  intro L qual cdv hL
  refine Ws_cons ?_
  refine Wst_If ?_
  refine Wb_kind O K hr K.c.g_LAMBDA (by walk_at "v") ?_
  refine ifs (fun _ => ?_) (fun _ => ?_)
  · rename_i hk
    obtain ⟨l, p, b, rfl⟩ : ∃ l p b, t = .lam l p b := by cases t <;> simp [T.kind] at hk; exact ⟨_, _, _, rfl⟩
    have hr0 := hr
    refine x3_4 hr ?_; (try clear hr); intro d pl y h1 h2 h3 h4
    refine Ws_ret ?_
    refine We_MethodCall ?_
    refine We_L (by walk_at "v") ?_
    refine W_mcall0 O K.n.k_Lambda K.m.m_Lambda_binders K.m.a_Lambda_binders h1 h2 (by with_unfolding_all rfl) ?_
    exact lambda_binders O K (R.deeper (n := n + 1)) hr0 q
  · rename_i hk
    refine Ws_nil ?_
    refine Ws_ret ?_
    refine We_IfExp ?_
    refine Wb_kind O K hr K.c.g_FIX (by walk_at "v") ?_
    refine iff_ (by cases t <;> simp [T.kind]) ?_
    refine We_List ?_
    refine Wargs_nil ?_
    refine ⟨Nat.zero_le _, fun r hr _ => q r _ (Ext.new hr) hr ?_⟩
    have : t.binds = [] := by cases t <;> first | rfl | (simp [T.kind] at hk)
    rw [this]
    exact upd_same

/-- the maps after the first i nodes -/
noncomputable def rst (l p s : Int) : Nat → List (Int × Int) × List (Int × Int) × Int
  | 0 => ([], [], s)
  | _ + 1 => ([(p, s + 2)], [(l, s + 1)], s + 2)

inductive RnJ (H H2 : Hp) (r w x d nl lo la tb ti dop : Addr) (nvs : List Value) (l p s : Int) (i : Nat) (σ' : St) : Prop
  | mk (m1 : σ'.m "names" = some (.ref r)) (m2 : σ'.m "world" = some (.ref w)) (m3 : σ'.m "node" = some (.ref x)) (g1 : ExtB d H σ'.H) (g2 : Le H2 σ'.H) (g3 : σ'.H nl = some (.list false nvs)) (g4 : σ'.H d = some (nmo tb ti dop (rst l p s i).2.2)) (g5 : σ'.H lo = some (.tab false (im (rst l p s i).1))) (g6 : σ'.H la = some (.tab false (im (rst l p s i).2.1)))
inductive RnK (H H5 : Hp) (r w x d nl bl lo la tb ti dop : Addr) (nvs : List Value) (l p s : Int) (i : Nat) (σ₂ : St) : Prop
  | mk (m1 : σ₂.m "names" = some (.ref r)) (m2 : σ₂.m "world" = some (.ref w)) (m3 : σ₂.m "node" = some (.ref x)) (p1 : ExtB d H σ₂.H) (p2 : Le H5 σ₂.H) (p3 : σ₂.H bl = some (.list false [.int p 0])) (p4 : σ₂.H nl = some (.list false nvs)) (p5 : σ₂.H la = some (.tab false (im [(l, s + 1)])))
      (p6 : (i = 0 ∧ σ₂.H d = some (nmo tb ti dop (s + 1)) ∧ σ₂.H lo = some (.tab false (im []))) ∨ (i = 1 ∧ σ₂.H d = some (nmo tb ti dop (s + 2)) ∧ σ₂.H lo = some (.tab false (im [(p, s + 2)]))))
theorem renumbered (O : G.Ok) (K : KF G a) {n : Nat} (R : Rm A (n + 14)) {H : Hp} {l p : Int} {b : T} {x w d ti tb dop : Addr} {s : Int} (hz : (T.lam l p b).size ≤ 1000) (hb : b.noLam = true) (hr : Rep a H (.lam l p b) x) (hw : Wld a H w d ti) (hd : H d = some (nmo tb ti dop s)) {Q : Value → Hp → Prop}
    (q : ∀ y H', ExtB d H H' → Le H H' → H' d = some (nmo tb ti dop (s + 2)) → Rep a H' (reb (renF [(p, s + 2)] [(l, s + 1)]) (.lam l p b) ()).1 y → Q (.ref y) H') : Wc G A (.ref a.f_renumbered) [.ref x, .ref w] Q H := by
  refine Wc_fun O K.d.d_renumbered.fn R.room ["node", "world"] (bd2 fun _ _ _ _ _ _ _ _ _ => rfl) (by rfl) (by rfl) (by rfl) (by rfl) (by rfl) ?_
  intro L qual cdv hL
  have R1 : Rm (A.deeper (envOf qual (scopeOf (stmtAt 26)) L a.f_renumbered cdv)) (n + 13) := R.deeper
  refine Ws_asg ?_
  refine We_callK0 O K.o.k_Renaming.glob K.o.k_Renaming.keep ?_
  refine new_Renaming O K (R1.le (k := n + 2) (by lia)) ?_
  intro r rd lo la H1 hE1 hr0 hrd0 hlo0 hla0 hll hlow hlaw hri hra hlo1 hla1
  dsimp only at hE1 hr0 hrd0 hlo0 hla0
  have hren1 : Ren a H1 r rd lo la := ⟨hri, hra, hlow, hlaw⟩
  have ddo : d ≠ lo := fun e => by rw [e] at hd; rw [hd] at hlo0; cases hlo0
  have dda : d ≠ la := fun e => by rw [e] at hd; rw [hd] at hla0; cases hla0
  have drd : d ≠ rd := fun e => by rw [e] at hd; rw [hd] at hrd0; cases hrd0
  try dsimp only
  refine Ws_cons ?_
  refine Wst_For_list R1.hd ?_
  refine We_callK O K.d.d_all_nodes.glob K.d.d_all_nodes.fn.keep ?_
  refine Wargs_l (by walk_at "v") ?_
  refine Wargs_nil ?_
  refine Wcall_of ?_
  refine all_nodes O K (R1.le (k := n + 2) (by lia)) (hr.mono hE1.le) hz ?_
  intro nl nvs H2 hE2 hnl0 hnl hnv
  try dsimp only at hE2 hnl0 hnv
  have hE12 := hE1.trans hE2
  have hnld : nl ≠ d := fun e => by rw [e, hE1 _ _ hd] at hnl0; cases hnl0
  have hnlo : nl ≠ lo := fun e => by rw [e, hlo1] at hnl0; cases hnl0
  have hnla : nl ≠ la := fun e => by rw [e, hla1] at hnl0; cases hnl0
  have hnlr : H2 rd = some (.attrs true [("locals", .ref lo), ("labels", .ref la)]) := hE2 _ _ hra
  have hwd : w ≠ d := fun e => by have := hw.inst; rw [e, hd] at this; cases this
  refine ⟨nl, nvs, RnJ H H2 r w x d nl lo la tb ti dop nvs l p s, rfl, ?_⟩
  have hnlen := hnv.length
  refine ⟨⟨by walk_at "v", by walk_at "v", by walk_at "v", hE12.b, .refl _, hnl, hE12 _ _ hd, hE2 _ _ hlo1, hE2 _ _ hla1⟩, fun i σ' ⟨_, _, _, _, _, g3, _, _, _⟩ => ⟨_, g3⟩, ?_, ?_⟩
  · intro i v hq1
    obtain ⟨mm, HH⟩ := hq1
    intro hv hq2
    obtain ⟨m1, m2, m3, g1, g2, g3, g4, g5, g6⟩ := hq2
    intro u hu
    dsimp only at m1 m2 m3 g1 g2 g3 g4 g5 g6
    refine x2_3 (hnv.get hv) ?_; intro t xx ht rfl htr
    have htr := (htr.mono hE2.le).mono g2
    have hren := (hren1.mono hE2.le).mono g2
    have hw' := (hw.mono hE12.le).mono g2
    refine W_nm hu ?_
    refine Ws_cons ?_
    refine Wst_If ?_
    refine Wb_kind O K htr K.c.g_LAMBDA (by walk_at "v") ?_
    cases i with
    | zero =>
      obtain rfl : t = .lam l p b := by simp [T.nodes] at ht; exact ht.symm
      have htr0 := htr
      refine x3_4 htr ?_; (try clear htr); intro dn pl y k1 k2 k3 k4
      refine ift (by rfl) ?_
      refine Ws_asg ?_
      refine We_MethodCall ?_
      refine We_L (by walk_at "v") ?_
      refine W_fresh O K (R1.le (k := 1) (by lia)) hw' g4 ?_
      have hfz : (nmo tb ti dop s).fz = false := rfl
      have L1 : Le HH (upd HH d (nmo tb ti dop (s + 1))) := Le.mut g4 rfl
      have hren2 := hren.mono L1
      have e5 : upd HH d (nmo tb ti dop (s + 1)) lo = some (.tab false []) := (upd_ne (Ne.symm ddo)).trans g5
      have e6 : upd HH d (nmo tb ti dop (s + 1)) la = some (.tab false []) := (upd_ne (Ne.symm dda)).trans g6
      have e3 : upd HH d (nmo tb ti dop (s + 1)) nl = some (.list false nvs) := (upd_ne hnld).trans g3
      have e4 : upd HH d (nmo tb ti dop (s + 1)) d = some (nmo tb ti dop (s + 1)) := upd_same
      have e1 : ExtB d H (upd HH d (nmo tb ti dop (s + 1))) := g1.at_
      have htr2 := htr0.mono L1
      have hw2 := hw'.mono L1
      have L12 := g2.trans L1
      show Ws G _ _ _ _ ⟨_, upd HH d (nmo tb ti dop (s + 1))⟩
      generalize upd HH d (nmo tb ti dop (s + 1)) = H3 at L1 hren2 e5 e6 e3 e4 e1 htr2 hw2 L12
      refine x3_4 htr2 ?_; (try clear htr2); intro dn2 pl2 y2 k1 k2 k3 k4
      try dsimp only
      refine Ws_cons ?_
      refine Wst_AssignSub ?_
      refine We_L (by walk_at "v") ?_
      refine We_own O K.o.k_Renaming K.o.o_Renaming_labels hren2.inst hren2.at_ (by with_unfolding_all exact Eq.refl (some _)) (by walk_at "v") ?_
      refine We_own O K.n.k_Lambda K.n.o_Lambda_label k1 k2 (by with_unfolding_all exact Eq.refl (some _)) (by walk_at "v") ?_
      refine W_setI e6 (Nat.zero_le _) ?_
      have L2 : Le H3 (upd H3 la (.tab false [(l, .int (s + 1) 0)])) := Le.mut e6 rfl
      have hren3 := hren2.mono L2
      have f5 : upd H3 la (.tab false [(l, .int (s + 1) 0)]) lo = some (.tab false []) := (upd_ne hll).trans e5
      have f6 : upd H3 la (.tab false [(l, .int (s + 1) 0)]) la = some (.tab false [(l, .int (s + 1) 0)]) := upd_same
      have f3 : upd H3 la (.tab false [(l, .int (s + 1) 0)]) nl = some (.list false nvs) := (upd_ne hnla).trans e3
      have f4 : upd H3 la (.tab false [(l, .int (s + 1) 0)]) d = some (nmo tb ti dop (s + 1)) := (upd_ne dda).trans e4
      have f1 : ExtB d H (upd H3 la (.tab false [(l, .int (s + 1) 0)])) := e1.mut hla0
      have hw3 := hw2.mono L2
      have j1 := L2 _ _ rfl k1
      have j2 := L2 _ _ rfl k2
      have j3 := L2 _ _ rfl k3
      have j4 := k4.mono L2
      have L13 := L12.trans L2
      show Ws G _ _ _ _ ⟨_, upd H3 la (.tab false [(l, .int (s + 1) 0)])⟩
      generalize upd H3 la (.tab false [(l, .int (s + 1) 0)]) = H4 at L2 hren3 f5 f6 f3 f4 f1 hw3 j1 j2 j3 j4 L13
      refine Ws_cons ?_
      refine Wst_If ?_
      refine Wb_Compare ?_
      refine We_own O K.n.k_Lambda K.n.o_Lambda_label j1 j2 (by with_unfolding_all exact Eq.refl (some _)) (by walk_at "v") ?_
      refine We_own O K.o.k_Names K.o.o_Names_titles hw3.inst f4 (by with_unfolding_all exact Eq.refl (some _)) (by walk_at "v") ?_
      refine W_in hw3.tit hw3.low ?_
      refine W_truthy_bool ?_
      refine iff_ (by simp [tget]) ?_
      refine Ws_nil ?_
      refine Ws_nil ?_
      refine Ws_cons ?_
      refine Wst_For_list R1.hd ?_
      refine We_callK O K.d.d_binders_of.glob K.d.d_binders_of.fn.keep ?_
      refine Wargs_l (by walk_at "v") ?_
      refine Wargs_nil ?_
      refine Wcall_of ?_
      refine binders_of O K (R1.le (k := 2) (by lia)) (t := .lam l p b) ⟨dn2, pl2, y2, j1, j2, j3, j4⟩ ?_
      intro bl H5 hE5 hbl0 hbl
      try dsimp only at hE5 hbl0
      have hbd : bl ≠ d := fun e => by rw [e, f4] at hbl0; cases hbl0
      have hblo : bl ≠ lo := fun e => by rw [e, f5] at hbl0; cases hbl0
      refine ⟨bl, [.int p 0], RnK H H5 r w x d nl bl lo la tb ti dop nvs l p s, rfl, ?_⟩
      refine ⟨⟨by walk_at "v", by walk_at "v", by walk_at "v", f1.trans hE5.b, .refl _, hbl, hE5 _ _ f3, hE5 _ _ f6, .inl ⟨rfl, hE5 _ _ f4, hE5 _ _ f5⟩⟩, fun i σ₂ ⟨_, _, _, _, _, p3, _, _, _⟩ => ⟨_, p3⟩, ?_, ?_⟩
      · intro i v hq3
        obtain ⟨mm2, HH2⟩ := hq3
        intro hv hq4
        obtain ⟨n1, n2, n3, p1, p2, p3, p4, p5, p6⟩ := hq4
        intro u hu
        dsimp only at n1 n2 n3 p1 p2 p3 p4 p5 p6
        obtain rfl : i = 0 := by have := (List.getElem?_eq_some_iff.mp hv).1; simpa using this
        obtain rfl : v = .int p 0 := by simpa using hv.symm
        rcases p6 with ⟨_, p6, p7⟩ | ⟨h, _⟩
        · have hw4 := (hw3.mono hE5.le).mono p2
          have hren4 := (hren3.mono hE5.le).mono p2
          refine W_nm hu ?_
          refine Ws_cons ?_
          refine Wst_AssignSub ?_
          refine We_MethodCall ?_
          refine We_L (by walk_at "v") ?_
          refine W_fresh O K (R1.le (k := 1) (by lia)) hw4 p6 ?_
          have L6 : Le HH2 (upd HH2 d (nmo tb ti dop (s + 1 + 1))) := Le.mut p6 rfl
          have hren5 := hren4.mono L6
          have x5 : upd HH2 d (nmo tb ti dop (s + 1 + 1)) lo = some (.tab false []) := (upd_ne (Ne.symm ddo)).trans p7
          refine We_own O K.o.k_Renaming K.o.o_Renaming_locals hren5.inst hren5.at_ (by with_unfolding_all exact Eq.refl (some _)) (by walk_at "v") ?_
          refine We_L (by walk_at "v") ?_
          refine W_setI x5 (Nat.zero_le _) ?_
          have e2 : s + 1 + 1 = s + 2 := by lia
          rw [e2] at x5 L6 ⊢
          try dsimp only
          refine Ws_nil ?_
          refine ⟨by walk_at "v", by walk_at "v", by walk_at "v", p1.at_.mut hlo0, (p2.trans L6).trans (Le.mut x5 rfl), ?_, ?_, ?_, .inr ⟨rfl, ?_, ?_⟩⟩
          · exact (upd_ne hblo).trans ((upd_ne hbd).trans p3)
          · exact (upd_ne hnlo).trans ((upd_ne hnld).trans p4)
          · exact (upd_ne (Ne.symm hll)).trans ((upd_ne (Ne.symm dda)).trans p5)
          · exact (upd_ne ddo).trans upd_same
          · exact upd_same
        · cases h
      · intro hq5
        obtain ⟨mm2, HH2⟩ := hq5
        intro hq6
        obtain ⟨n1, n2, n3, p1, p2, p3, p4, p5, p6⟩ := hq6
        dsimp only at n1 n2 n3 p1 p2 p3 p4 p5 p6
        rcases p6 with ⟨h, _⟩ | ⟨_, p6, p7⟩
        · cases h
        refine Ws_nil ?_
        exact ⟨n1, n2, n3, p1, L13.trans (hE5.le.trans p2), p4, p6, p7, p5⟩
    | succ i =>
      have hl : t.isLam = false := by
        have : t ∈ b.nodes := by
          simp only [T.nodes, List.getElem?_cons_succ] at ht
          exact List.mem_of_getElem? ht
        exact noLam_nodes hb t this
      refine iff_ (by cases t <;> simp [T.kind, T.isLam] at hl ⊢) ?_
      have hbs : t.binds = [] := by cases t <;> first | rfl | (simp [T.isLam] at hl)
      refine Ws_nil ?_
      refine Ws_cons ?_
      refine Wst_For_list R1.hd ?_
      refine We_callK O K.d.d_binders_of.glob K.d.d_binders_of.fn.keep ?_
      refine Wargs_l (by walk_at "v") ?_
      refine Wargs_nil ?_
      refine Wcall_of ?_
      refine binders_of O K (R1.le (k := 2) (by lia)) htr ?_
      intro bl H5 hE5 hbl0 hbl
      try dsimp only at hE5 hbl0
      rw [hbs] at hbl
      refine ⟨bl, [], fun i σ₂ => i = 0 ∧ σ₂ = ⟨setm mm "here" (.ref xx), H5⟩, rfl, ?_⟩
      refine ⟨⟨rfl, rfl⟩, ?_, ?_, ?_⟩
      · intro i σ₂ hq7
        refine x0_2 hq7 ?_; (try clear hq7); intro _ rfl; exact ⟨_, hbl⟩
      · intro i v σ₂ hv; simp at hv
      · intro σ₂ hq8
        refine x0_2 hq8 ?_; (try clear hq8); intro _ rfl
        refine Ws_nil ?_
        exact ⟨by walk_at "v", by walk_at "v", by walk_at "v", g1.trans hE5.b, g2.trans hE5.le, hE5 _ _ g3, hE5 _ _ g4, hE5 _ _ g5, hE5 _ _ g6⟩
  · intro hq9
    obtain ⟨mm, HH⟩ := hq9
    intro hq10
    obtain ⟨m1, m2, m3, g1, g2, g3, g4, g5, g6⟩ := hq10
    dsimp only at m1 m2 m3 g1 g2 g3 g4 g5 g6
    obtain ⟨j, hj⟩ : ∃ j, nvs.length = j + 1 := by
      rw [hnlen]
      exact ⟨b.nodes.length, by simp [T.nodes]⟩
    rw [hj] at g4 g5 g6
    have hren := (hren1.mono hE2.le).mono g2
    have F1 : Frz G HH (upd HH lo (.tab true (im [(p, s + 2)]))) := Frz.one g5
    have F2 : Frz G (upd HH lo (.tab true (im [(p, s + 2)]))) (upd (upd HH lo (.tab true (im [(p, s + 2)]))) la (.tab true (im [(l, s + 1)]))) := Frz.one ((upd_ne (Ne.symm hll)).trans g6)
    refine Wt.frz (F1.trans F2) ?_
    have L1 : Le HH (upd HH lo (.tab true (im [(p, s + 2)]))) := Le.mut g5 rfl
    have L2 := L1.trans (Le.mut (o := .tab true (im [(l, s + 1)])) ((upd_ne (Ne.symm hll)).trans g6) rfl)
    have e1 : ExtB d H (upd (upd HH lo (.tab true (im [(p, s + 2)]))) la (.tab true (im [(l, s + 1)]))) := (g1.mut hlo0).mut hla0
    have e2 : upd (upd HH lo (.tab true (im [(p, s + 2)]))) la (.tab true (im [(l, s + 1)])) lo = some (.tab true (im [(p, s + 2)])) := (upd_ne hll).trans upd_same
    have e3 : upd (upd HH lo (.tab true (im [(p, s + 2)]))) la (.tab true (im [(l, s + 1)])) la = some (.tab true (im [(l, s + 1)])) := upd_same
    have e4 : upd (upd HH lo (.tab true (im [(p, s + 2)]))) la (.tab true (im [(l, s + 1)])) d = some (nmo tb ti dop (s + 2)) := (upd_ne dda).trans ((upd_ne ddo).trans g4)
    generalize upd (upd HH lo (.tab true (im [(p, s + 2)]))) la (.tab true (im [(l, s + 1)])) = H3 at L2 e1 e2 e3 e4
    have hren3 := hren.mono L2
    have L3 : Le H H3 := hE12.le.trans (g2.trans L2)
    refine Ws_ret ?_
    refine We_callK O K.d.d_rebuilt.glob K.d.d_rebuilt.fn.keep ?_
    refine Wargs_l (by walk_at "v") ?_
    refine Wargs_c ?_
    refine We_at ?_
    refine We_L (by walk_at "v") ?_
    refine W_attr_meth O hren3.inst hren3.at_ (by with_unfolding_all rfl) K.m.a_Renaming_turned (K.o.k_Renaming.get _) K.o.k_Renaming.hd K.m.m_Renaming_turned.isFn K.m.m_Renaming_turned.get K.m.m_Renaming_turned.takes (by with_unfolding_all rfl) ?_
    intro c hc hcL
    try dsimp only at hc ⊢
    have hE4 : Ext H3 (upd H3 c (.meth a.fRenaming_turned r)) := Ext.new hc
    refine Wargs_nil ?_
    refine Wcall_of ?_
    refine rebuilt O K (n := n + 7) (R1.le (by lia)) (S := Unit) (s := ()) hz ((hr.mono L3).mono hE4.le) (hE4 _ _ hren3.at_) (M := fun _ => .attrs true [("locals", .ref lo), ("labels", .ref la)]) (.inr fun _ _ => rfl) (chg_ren O K (n := n + 1) upd_same (hren3.mono hE4.le) (hE4 _ _ e2) (hE4 _ _ e3)) ?_ ?_
    · clear q
      generalize T.lam l p b = t
      generalize () = s
      induction t generalizing s <;> simp_all [rok_lam, rok_call1, rok_call2] <;> trivial
    intro y H' hB hL' hd' hy
    refine q y H' ?_ (L3.trans (hE4.le.trans hL')) ?_ hy
    · intro b o hb e
      have h1 := hE4 _ _ (e1 _ _ hb e)
      by_cases hbr : b = rd
      · rw [hbr, hrd0] at e; cases e
      · exact hB _ _ hbr h1
    · exact hB _ _ drd (hE4 _ _ e4)

end -- MC9

section -- MC10
set_option maxRecDepth 20000
variable {G : Gl} {a : KA} {A : Around} {env : Env} {σ : St} {L : Addr}

/-- a call of the local p, with the number of its operands -/
noncomputable def callOf (p : Int) : T → Option Nat
  | .call1 (.loc n) _ => if n = p then some 1 else none
  | .call2 (.loc n) _ _ => if n = p then some 2 else none
  | _ => none

theorem call_parts_of {H : Hp} {t : T} {x : Addr} (hr : Rep a H t x) (hk : t.kind = 8) : ∃ d y ol f vs, H x = some (.inst a.cCall d) ∧ H d = some (.attrs true [("operator", .ref y), ("operands", .ref ol)]) ∧ H ol = some (.list true vs) ∧ Rep a H f y ∧ vs.length ≤ 2 ∧
    ∀ p, callOf p t = match f with | .loc n => if n = p then some vs.length else none | _ => none := by
  cases t <;> simp [T.kind] at hk
  · rename_i f g
    refine x4_5 hr ?_; (try clear hr); intro d y ol z h1 h2 h3 h4 h5
    refine ⟨d, y, ol, f, _, h1, h2, h3, h4, Nat.le_of_ble_eq_true rfl, fun p => ?_⟩
    cases f <;> rfl
  · rename_i f g k
    refine x5_5 hr ?_; (try clear hr); intro d y ol z w h1 h2 h3 h4 h5
    refine ⟨d, y, ol, f, _, h1, h2, h3, h4, Nat.le_of_ble_eq_true rfl, fun p => ?_⟩
    cases f <;> rfl
theorem callOf_kind {p : Int} {t : T} (h : t.kind ≠ 8) : callOf p t = none := by cases t <;> first | rfl | (simp [T.kind] at h)

noncomputable def fitF (p : Int) (t : T) (s : Int × Bool) : T × (Int × Bool) := match callOf p t with
  | some k => (t, (s.1 + 1, s.2 && k == 1))
  | none => (t, s)
noncomputable def fmo (p : Int) (x : Addr) (s : Int × Bool) : MO := .attrs false [("number", .int p 0), ("own", .ref x), ("many", .int s.1 0), ("is_so", .bool s.2)]

theorem new_Fitting (O : G.Ok) (K : KF G a) {n : Nat} (R : Rm A (n + 2)) {p : Int} {own : Addr} {Q : Value → St → Prop}
    (q : ∀ x d H', Ext σ.H H' → σ.H x = none → σ.H d = none → H' x = some (.inst a.cFitting d) → H' d = some (fmo p own (0, true)) → Q (.ref x) ⟨σ.m, H'⟩) : Wcall G A L (.ref a.cFitting) [.int p 0, .ref own] Q σ := by
  refine Wcall_new O K.o.k_Fitting.made K.o.k_Fitting.init K.o.k_Fitting.fni.isFn ?_
  intro x d hx hd hxd hxL hdL us hus
  refine Wc_fun O K.o.k_Fitting.fni (R.make (n := n + 1)).room ["self", "number", "own"] (bd3 fun _ _ _ _ _ _ _ _ _ _ => rfl) (by rfl) (by rfl) (by rfl) (by rfl) (by rfl) ?_
  intro L' qual cdv hL'
  refine Ws_asga ?_
  refine We_L (by walk_at "v") ?_
  refine We_L (by walk_at "v") ?_
  refine W_set O (x := x) (d := d) K.o.k_Fitting K.o.o_Fitting_number (by repeat (first | with_reducible assumption | with_reducible exact upd_same | with_reducible refine upd_other (by first | assumption | exact Ne.symm (by assumption)) ?_)) (by repeat (first | with_reducible assumption | with_reducible exact upd_same | with_reducible refine upd_other (by first | assumption | exact Ne.symm (by assumption)) ?_)) (Nat.le_of_ble_eq_true (by with_unfolding_all rfl)) ?_
  refine Ws_asga ?_
  refine We_L (by walk_at "v") ?_
  refine We_L (by walk_at "v") ?_
  refine W_set O (x := x) (d := d) K.o.k_Fitting K.o.o_Fitting_own (by repeat (first | with_reducible assumption | with_reducible exact upd_same | with_reducible refine upd_other (by first | assumption | exact Ne.symm (by assumption)) ?_)) (by repeat (first | with_reducible assumption | with_reducible exact upd_same | with_reducible refine upd_other (by first | assumption | exact Ne.symm (by assumption)) ?_)) (Nat.le_of_ble_eq_true (by with_unfolding_all rfl)) ?_
  refine Ws_asga ?_
  refine We_Int ?_
  refine We_L (by walk_at "v") ?_
  refine W_set O (x := x) (d := d) K.o.k_Fitting K.o.o_Fitting_many (by repeat (first | with_reducible assumption | with_reducible exact upd_same | with_reducible refine upd_other (by first | assumption | exact Ne.symm (by assumption)) ?_)) (by repeat (first | with_reducible assumption | with_reducible exact upd_same | with_reducible refine upd_other (by first | assumption | exact Ne.symm (by assumption)) ?_)) (Nat.le_of_ble_eq_true (by with_unfolding_all rfl)) ?_
  refine Ws_asga ?_
  refine We_Bool ?_
  refine We_L (by walk_at "v") ?_
  refine W_set O (x := x) (d := d) K.o.k_Fitting K.o.o_Fitting_is_so (by repeat (first | with_reducible assumption | with_reducible exact upd_same | with_reducible refine upd_other (by first | assumption | exact Ne.symm (by assumption)) ?_)) (by repeat (first | with_reducible assumption | with_reducible exact upd_same | with_reducible refine upd_other (by first | assumption | exact Ne.symm (by assumption)) ?_)) (Nat.le_of_ble_eq_true (by with_unfolding_all rfl)) ?_
  refine Ws_nil ?_
  refine ⟨rfl, q x d _ ?_ hx hd ?_ upd_same⟩
  · refine Ext.mut ?_ hd; refine Ext.mut ?_ hd; refine Ext.mut ?_ hd; refine Ext.mut ?_ hd
    exact Ext.mut (Ext.new hd) hx
  · repeat (first | with_reducible assumption | with_reducible exact upd_same | with_reducible refine upd_other (by first | assumption | exact Ne.symm (by assumption)) ?_)

theorem lambda_takes (O : G.Ok) (K : KF G a) {n : Nat} (R : Rm A (n + 1)) {H : Hp} {l p : Int} {b : T} {x : Addr} {k : Nat} (hr : Rep a H (.lam l p b) x) {Q : Value → Hp → Prop} (q : Q (.bool (k == 1)) H) : Wc G A (.ref a.fLambda_takes) [.ref x, .int k 0] Q H := by
  (refine x3_4 hr ?_; (try clear hr); intro d pl y h1 h2 h3 h4)
  refine Wc_fun O K.m.m_Lambda_takes R.room ["self", "many"] (bd2 fun _ _ _ _ _ _ _ _ _ => rfl) (by rfl) (by rfl) (by rfl) (by rfl) (by rfl) ?_
  intro L qual cdv hL
  refine Ws_ret ?_
  refine We_Or2 ?_
  refine We_Compare ?_
  refine We_L (by walk_at "v") ?_
  refine We_callB O K.c.nb_len bb_len ?_
  refine Wargs_c ?_
  refine We_own O K.n.k_Lambda K.n.o_Lambda_params h1 h2 (by with_unfolding_all exact Eq.refl (some _)) (by walk_at "v") ?_
  refine Wargs_nil ?_
  refine W_len_list h3 (Nat.le_of_ble_eq_true rfl) ?_
  refine W_eq ?_
  refine W_truthy_bool ?_
  have e : ((k : Int) == (([Value.int p 0].length : Nat) : Int)) = (k == 1) := by
    rw [Bool.eq_iff_iff, beq_iff_eq, beq_iff_eq]
    simp only [List.length_singleton]
    lia
  rw [e]
  refine ifs (fun _ => ?_) (fun _ => ?_)
  · rename_i hk
    exact q
  · rename_i hk
    have hk : (k == 1) = false := by simpa using hk
    rw [hk] at q
    refine We_And2 ?_
    refine We_Compare ?_
    refine We_L (by walk_at "v") ?_
    refine We_callB O K.c.nb_len bb_len ?_
    refine Wargs_c ?_
    refine We_own O K.n.k_Lambda K.n.o_Lambda_params h1 h2 (by with_unfolding_all exact Eq.refl (some _)) (by walk_at "v") ?_
    refine Wargs_nil ?_
    refine W_len_list h3 (Nat.le_of_ble_eq_true rfl) ?_
    refine W_gt ?_
    refine W_truthy_bool ?_
    refine ifs (fun _ => ?_) (fun _ => ?_)
    · refine We_Compare ?_
      refine We_own O K.n.k_Lambda K.n.o_Lambda_rest h1 h2 (by with_unfolding_all exact Eq.refl (some _)) (by walk_at "v") ?_
      refine We_Int ?_
      refine W_ge ?_
      exact q
    · rename_i h
      have : decide ((([Value.int p 0].length : Nat) : Int) < (k : Int)) = false := by simpa using h
      rw [this]
      exact q

theorem fitting_turned (O : G.Ok) (K : KF G a) {n : Nat} (R : Rm A (n + 2)) {H : Hp} {t : T} {x f d own : Addr} {p l q' : Int} {b : T} {s : Int × Bool} (hf : H f = some (.inst a.cFitting d)) (hd : H d = some (fmo p own s)) (ho : Rep a H (.lam l q' b) own) (ht : Rep a H t x) {Q : Value → Hp → Prop}
    (q : ∀ y H', ExtB d H H' → Le H H' → H' d = some (fmo p own (fitF p t s).2) → Rep a H' (fitF p t s).1 y → Q (.ref y) H') : Wc G A (.ref a.fFitting_turned) [.ref f, .ref x] Q H := by
  refine Wc_fun O K.m.m_Fitting_turned R.room ["self", "node"] (bd2 fun _ _ _ _ _ _ _ _ _ => rfl) (by rfl) (by rfl) (by rfl) (by rfl) (by rfl) ?_
  intro L qual cdv hL
  have hfd : f ≠ d := fun e => by rw [e, hd] at hf; cases hf
  refine Ws_cons ?_
  refine Wst_IfE (fun σ₁ => σ₁ = ⟨bindm ["self", "node"] [.ref f, .ref x], H⟩ ∧ callOf p t = none) ?_ ?_
  · intro _ hq1
    refine x0_2 hq1 ?_; (try clear hq1); intro rfl hc
    refine Ws_nil ?_
    refine Ws_ret ?_
    refine We_L (by walk_at "v") ?_
    have e : fitF p t s = (t, s) := by unfold fitF; rw [hc]
    rw [e] at q
    exact q x H (Ext.refl H).b (.refl H) hd ht
  refine Wb_BoolOp ?_
  refine Wall_And ?_
  refine Wb_kind O K ht K.c.g_CALL (by walk_at "v") ?_
  refine ifs (fun _ => ?_) (fun _ => ?_)
  · rename_i hk
    have hk : t.kind = 8 := by simpa using hk
    refine x5_6 (call_parts_of ht hk) ?_; intro dc y ol ff vs h1 h2 h3 h4 h5 h6
    refine Wall_And ?_
    refine Wb_Compare ?_
    refine We_at ?_
    refine We_own O K.n.k_Call K.n.o_Call_operator h1 h2 (by with_unfolding_all exact Eq.refl (some _)) (by walk_at "v") ?_
    refine W_kindT O K h4 ?_
    refine We_GI O K.c.g_LOCAL ?_
    refine W_eq ?_
    refine W_truthy_bool ?_
    refine ifs (fun _ => ?_) (fun _ => ?_)
    · rename_i hl
      obtain ⟨k, rfl⟩ : ∃ k, ff = .loc k := by cases ff <;> simp [T.kind] at hl; exact ⟨_, rfl⟩
      refine x1_2 h4 ?_; (try clear h4); intro dl k1 k2
      refine Wall_And ?_
      refine Wb_Compare ?_
      refine We_at ?_
      refine We_own O K.n.k_Call K.n.o_Call_operator h1 h2 (by with_unfolding_all exact Eq.refl (some _)) (by walk_at "v") ?_
      refine W_own O K.n.k_Local K.n.o_Local_number k1 k2 (by with_unfolding_all rfl) ?_
      refine We_own O K.o.k_Fitting K.o.o_Fitting_number hf hd (by with_unfolding_all exact Eq.refl (some _)) (by walk_at "v") ?_
      refine W_eq ?_
      refine W_truthy_bool ?_
      refine ifs (fun _ => ?_) (fun _ => ?_)
      · rename_i hkp
        obtain rfl : k = p := by simpa using hkp
        have hco : callOf k t = some vs.length := by rw [h6]; simp
        have e : fitF k t s = (t, (s.1 + 1, s.2 && vs.length == 1)) := by unfold fitF; rw [hco]
        rw [e] at q
        refine Wall_And_nil ?_
        refine ift rfl ?_
        refine Ws_asga ?_
        refine We_BinOp ?_
        refine We_own O K.o.k_Fitting K.o.o_Fitting_many hf hd (by with_unfolding_all exact Eq.refl (some _)) (by walk_at "v") ?_
        refine We_Int ?_
        refine W_add ?_
        refine We_L (by walk_at "v") ?_
        refine W_set O (x := f) (d := d) K.o.k_Fitting K.o.o_Fitting_many hf hd (Nat.le_of_ble_eq_true rfl) ?_
        have hd1 : upd H d (fmo k own (s.1 + 1, s.2)) d = some (fmo k own (s.1 + 1, s.2)) := upd_same
        have hf1 : upd H d (fmo k own (s.1 + 1, s.2)) f = some (.inst a.cFitting d) := (upd_ne hfd).trans hf
        have L1 : Le H (upd H d (fmo k own (s.1 + 1, s.2))) := Le.mut hd rfl
        have B1 : ExtB d H (upd H d (fmo k own (s.1 + 1, s.2))) := (Ext.refl H).b.at_
        show Ws G _ _ _ _ ⟨_, upd H d (fmo k own (s.1 + 1, s.2))⟩
        generalize upd H d (fmo k own (s.1 + 1, s.2)) = H1 at hd1 hf1 L1 B1
        have ho1 := ho.mono L1
        have ho2 := ho1
        refine x3_4 ho2 ?_; (try clear ho2); intro do' pl yb g1 g2 g3 g4
        refine Ws_asga ?_
        refine We_And2 ?_
        refine We_own O K.o.k_Fitting K.o.o_Fitting_is_so hf1 hd1 (by with_unfolding_all exact Eq.refl (some _)) (by walk_at "v") ?_
        refine W_truthy_bool ?_
        have last : ∀ c, c = (s.2 && vs.length == 1) → Ws G (A.deeper (envOf qual (scopeOf (methAt 55 1)) L a.fFitting_turned cdv)) (envOf qual (scopeOf (methAt 55 1)) L a.fFitting_turned cdv) [] (fun f' σ' => Q (.ref x) H) ⟨bindm ["self", "node"] [.ref f, .ref x], H⟩ → True := fun _ _ _ => trivial
        refine ifs (fun _ => ?_) (fun _ => ?_)
        · rename_i hs
          refine We_MethodCall ?_
          refine We_own O K.o.k_Fitting K.o.o_Fitting_own hf1 hd1 (by with_unfolding_all exact Eq.refl (some _)) (by walk_at "v") ?_
          refine W_mcall O K.n.k_Lambda K.m.m_Lambda_takes K.m.a_Lambda_takes g1 g2 (by with_unfolding_all rfl) ?_
          refine Wargs_c ?_
          refine We_callB O K.c.nb_len bb_len ?_
          refine Wargs_c ?_
          refine We_own O K.n.k_Call K.n.o_Call_operands (L1 _ _ rfl h1) (L1 _ _ rfl h2) (by with_unfolding_all exact Eq.refl (some _)) (by walk_at "v") ?_
          refine Wargs_nil ?_
          refine W_len_list (L1 _ _ rfl h3) (by lia) ?_
          refine Wargs_nil ?_
          refine lambda_takes O K (R.deeper (n := n + 1)) ho1 ?_
          refine We_L (by walk_at "v") ?_
          refine W_set O (x := f) (d := d) K.o.k_Fitting K.o.o_Fitting_is_so hf1 hd1 (Nat.le_of_ble_eq_true rfl) ?_
          have hs : s.2 = true := hs
          rw [hs, Bool.true_and] at q
          refine Ws_nil ?_
          refine Ws_ret ?_
          refine We_L (by walk_at "v") ?_
          exact q x _ (B1.trans (Ext.refl H1).b.at_) (L1.trans (Le.mut hd1 rfl)) upd_same ((ht.mono L1).mono (Le.mut hd1 rfl))
        · rename_i hs
          have hs : s.2 = false := by simpa using hs
          rw [hs, Bool.false_and] at q
          refine We_L (by walk_at "v") ?_
          refine W_set O (x := f) (d := d) K.o.k_Fitting K.o.o_Fitting_is_so hf1 hd1 (Nat.le_of_ble_eq_true rfl) ?_
          rw [hs] at hd1 ⊢
          refine Ws_nil ?_
          refine Ws_ret ?_
          refine We_L (by walk_at "v") ?_
          exact q x _ (B1.trans (Ext.refl H1).b.at_) (L1.trans (Le.mut hd1 rfl)) upd_same ((ht.mono L1).mono (Le.mut hd1 rfl))
      · rename_i hkp
        refine iff_ (by decide) ?_
        refine ⟨rfl, ?_⟩
        rw [h6]
        have : ¬ k = p := by simpa using hkp
        simp [this]
    · rename_i hl
      refine iff_ (by decide) ?_
      refine ⟨rfl, ?_⟩
      rw [h6]
      cases ff <;> first | rfl | (simp [T.kind] at hl)
  · rename_i hk
    refine iff_ (by decide) ?_
    exact ⟨rfl, callOf_kind (by simpa using hk)⟩

theorem chg_fit (O : G.Ok) (K : KF G a) {n : Nat} {H₀ : Hp} {f d own c : Addr} {p l q' : Int} {b : T} (hc : H₀ c = some (.meth a.fFitting_turned f)) (hf : H₀ f = some (.inst a.cFitting d)) (ho : Rep a H₀ (.lam l q' b) own) :
    Chg G a H₀ c d (fmo p own) (fitF p) (fun _ _ => True) (n + 2) :=
  ⟨_, f, hc, K.m.m_Fitting_turned.fnIn, fun A R H s t x Q hL hd ht _ q => fitting_turned O K R (hL _ _ rfl hf) hd (ho.mono hL) ht q⟩

end -- MC10

section -- MC11
set_option maxRecDepth 20000
variable {G : Gl} {a : KA} {A : Around} {env : Env} {σ : St} {L : Addr}

/-- the copy of lam l q b with new numbers -/
noncomputable def ren (l q : Int) (b : T) (s : Int) : T := (reb (renF [(q, s + 2)] [(l, s + 1)]) (.lam l q b) ()).1
/-- the operator turned -/
noncomputable def T.op : T → T → T
  | .call1 _ x, f => .call1 f x
  | .call2 _ x y, f => .call2 f x y
  | t, _ => t
noncomputable def spF (p l q : Int) (b : T) (t : T) (s : Int) : T × Int := match callOf p t with
  | some _ => (t.op (ren l q b s), s + 2)
  | none => (t, s)

theorem call_op {H : Hp} {t : T} {x : Addr} (hr : Rep a H t x) (hk : t.kind = 8) : ∃ d y ol vs, H x = some (.inst a.cCall d) ∧ H d = some (.attrs true [("operator", .ref y), ("operands", .ref ol)]) ∧ H ol = some (.list true vs) ∧
    ∀ f yf H' d' r, Le H H' → Rep a H' f yf → H' r = some (.inst a.cCall d') → H' d' = some (.attrs true [("operator", .ref yf), ("operands", .ref ol)]) → Rep a H' (t.op f) r := by
  cases t <;> simp [T.kind] at hk
  · rename_i f g
    refine x4_5 hr ?_; (try clear hr); intro d y ol z h1 h2 h3 h4 h5
    exact ⟨d, y, ol, _, h1, h2, h3, fun f yf H' d' r hL hf g1 g2 => ⟨d', yf, ol, z, g1, g2, hL _ _ rfl h3, hf, h5.mono hL⟩⟩
  · rename_i f g k
    refine x5_6 hr ?_; (try clear hr); intro d y ol z w h1 h2 h3 h4 h5 h6
    exact ⟨d, y, ol, _, h1, h2, h3, fun f yf H' d' r hL hf g1 g2 => ⟨d', yf, ol, z, w, g1, g2, hL _ _ rfl h3, hf, h5.mono hL, h6.mono hL⟩⟩

structure Spr (a : KA) (H : Hp) (r dr w own : Addr) (p : Int) : Prop where
  inst : H r = some (.inst a.cSpreading dr)
  at_ : H dr = some (.attrs true [("number", .int p 0), ("own", .ref own), ("world", .ref w)])

theorem spreading_turned (O : G.Ok) (K : KF G a) {n : Nat} (R : Rm A (n + 16)) {H : Hp} {t : T} {x r dr d w ti tb dop own : Addr} {p l q' : Int} {b : T} {s : Int} (hsp : Spr a H r dr w own p) (hw : Wld a H w d ti) (hd : H d = some (nmo tb ti dop s)) (ho : Rep a H (.lam l q' b) own) (hz : (T.lam l q' b).size ≤ 1000) (hb : b.noLam = true) (ht : Rep a H t x) {Q : Value → Hp → Prop}
    (q : ∀ y H', ExtB d H H' → Le H H' → H' d = some (nmo tb ti dop (spF p l q' b t s).2) → Rep a H' (spF p l q' b t s).1 y → Q (.ref y) H') : Wc G A (.ref a.fSpreading_turned) [.ref r, .ref x] Q H := by
  refine Wc_fun O K.m.m_Spreading_turned R.room ["self", "node"] (bd2 fun _ _ _ _ _ _ _ _ _ => rfl) (by rfl) (by rfl) (by rfl) (by rfl) (by rfl) ?_
  intro L qual cdv hL
  have R1 : Rm (A.deeper (envOf qual (scopeOf (methAt 54 1)) L a.fSpreading_turned cdv)) (n + 15) := R.deeper
  refine Ws_cons ?_
  refine Wst_IfE (fun σ₁ => σ₁ = ⟨bindm ["self", "node"] [.ref r, .ref x], H⟩ ∧ callOf p t = none) ?_ ?_
  · intro _ hq1
    refine x0_2 hq1 ?_; (try clear hq1); intro rfl hc
    refine Ws_nil ?_
    refine Ws_ret ?_
    refine We_L (by walk_at "v") ?_
    have e : spF p l q' b t s = (t, s) := by unfold spF; rw [hc]
    rw [e] at q
    exact q x H (Ext.refl H).b (.refl H) hd ht
  refine Wb_BoolOp ?_
  refine Wall_And ?_
  refine Wb_kind O K ht K.c.g_CALL (by walk_at "v") ?_
  refine ifs (fun _ => ?_) (fun _ => ?_)
  · rename_i hk
    have hk : t.kind = 8 := by simpa using hk
    refine x5_6 (call_parts_of ht hk) ?_; intro dc y ol ff vs h1 h2 h3 h4 h5 h6
    refine Wall_And ?_
    refine Wb_Compare ?_
    refine We_at ?_
    refine We_own O K.n.k_Call K.n.o_Call_operator h1 h2 (by with_unfolding_all exact Eq.refl (some _)) (by walk_at "v") ?_
    refine W_kindT O K h4 ?_
    refine We_GI O K.c.g_LOCAL ?_
    refine W_eq ?_
    refine W_truthy_bool ?_
    refine ifs (fun _ => ?_) (fun _ => ?_)
    · rename_i hl
      obtain ⟨k, rfl⟩ : ∃ k, ff = .loc k := by cases ff <;> simp [T.kind] at hl; exact ⟨_, rfl⟩
      refine x1_2 h4 ?_; (try clear h4); intro dl k1 k2
      refine Wall_And ?_
      refine Wb_Compare ?_
      refine We_at ?_
      refine We_own O K.n.k_Call K.n.o_Call_operator h1 h2 (by with_unfolding_all exact Eq.refl (some _)) (by walk_at "v") ?_
      refine W_own O K.n.k_Local K.n.o_Local_number k1 k2 (by with_unfolding_all rfl) ?_
      refine We_own O K.o.k_Spreading K.o.o_Spreading_number hsp.inst hsp.at_ (by with_unfolding_all exact Eq.refl (some _)) (by walk_at "v") ?_
      refine W_eq ?_
      refine W_truthy_bool ?_
      refine ifs (fun _ => ?_) (fun _ => ?_)
      · rename_i hkp
        obtain rfl : k = p := by simpa using hkp
        have hco : callOf k t = some vs.length := by rw [h6]; simp
        have e : spF k l q' b t s = (t.op (ren l q' b s), s + 2) := by unfold spF; rw [hco]
        rw [e] at q
        refine x4_4 (call_op ht hk) ?_; intro dc' y' ol' vs' h1' h2' h3' hop
        rw [h1] at h1'
        cases h1'
        rw [h2] at h2'
        cases h2'
        refine Wall_And_nil ?_
        refine ift rfl ?_
        refine Ws_ret ?_
        refine We_callK O K.n.k_Call.glob K.n.k_Call.keep ?_
        refine Wargs_c ?_
        refine We_callK O K.d.d_renumbered.glob K.d.d_renumbered.fn.keep ?_
        refine Wargs_c ?_
        refine We_own O K.o.k_Spreading K.o.o_Spreading_own hsp.inst hsp.at_ (by with_unfolding_all exact Eq.refl (some _)) (by walk_at "v") ?_
        refine Wargs_c ?_
        refine We_own O K.o.k_Spreading K.o.o_Spreading_world hsp.inst hsp.at_ (by with_unfolding_all exact Eq.refl (some _)) (by walk_at "v") ?_
        refine Wargs_nil ?_
        refine Wcall_of ?_
        refine renumbered O K (n := n + 1) R1 hz hb ho hw hd ?_
        intro yr H1 hB1 hL1 hd1 hr1
        refine Wargs_c ?_
        refine We_own O K.n.k_Call K.n.o_Call_operands (hL1 _ _ rfl h1) (hL1 _ _ rfl h2) (by with_unfolding_all exact Eq.refl (some _)) (by walk_at "v") ?_
        refine Wargs_nil ?_
        refine new_Call O K (R1.le (k := n + 2) (by lia)) ?_
        intro yc dc2 H2 hE2 _ _ g1 g2
        exact q yc H2 (hB1.trans hE2.b) (hL1.trans hE2.le) (hE2 _ _ hd1) (hop _ yr H2 dc2 yc (hL1.trans hE2.le) (hr1.mono hE2.le) g1 g2)
      · rename_i hkp
        refine iff_ (by decide) ?_
        refine ⟨rfl, ?_⟩
        rw [h6]
        have : ¬ k = p := by simpa using hkp
        simp [this]
    · rename_i hl
      refine iff_ (by decide) ?_
      refine ⟨rfl, ?_⟩
      rw [h6]
      cases ff <;> first | rfl | (simp [T.kind] at hl)
  · rename_i hk
    refine iff_ (by decide) ?_
    exact ⟨rfl, callOf_kind (by simpa using hk)⟩

theorem chg_spread (O : G.Ok) (K : KF G a) {n : Nat} {H₀ : Hp} {r dr w d ti tb dop own c : Addr} {p l q' : Int} {b : T} (hc : H₀ c = some (.meth a.fSpreading_turned r)) (hsp : Spr a H₀ r dr w own p) (hw : Wld a H₀ w d ti) (ho : Rep a H₀ (.lam l q' b) own) (hz : (T.lam l q' b).size ≤ 1000) (hb : b.noLam = true) :
    Chg G a H₀ c d (nmo tb ti dop) (spF p l q' b) (fun _ _ => True) (n + 16) :=
  ⟨_, r, hc, K.m.m_Spreading_turned.fnIn, fun A R H s t x Q hL hd ht _ q => spreading_turned O K R ⟨hL _ _ rfl hsp.inst, hL _ _ rfl hsp.at_⟩ (hw.mono hL) hd (ho.mono hL) hz hb ht q⟩

/-- is_small: trees without constants -/
noncomputable def T.noCon : T → Bool
  | con _ => false
  | lam _ _ b => b.noCon
  | call1 f x => f.noCon && x.noCon
  | call2 f x y => f.noCon && x.noCon && y.noCon
  | loc _ => true
  | glob => true
theorem noCon_nodes : ∀ {t : T}, t.noCon = true → ∀ s ∈ t.nodes, s.kind ≠ 0
  | .con _, h, s, hs => by simp [T.noCon] at h
  | .loc _, _, s, hs => by simp [T.nodes] at hs; subst hs; simp [T.kind]
  | .glob, _, s, hs => by simp [T.nodes] at hs; subst hs; simp [T.kind]
  | .lam _ _ b, h, s, hs => by
    simp only [T.nodes, List.mem_cons] at hs
    rcases hs with rfl | hs
    · simp [T.kind]
    · exact noCon_nodes (t := b) h s hs
  | .call1 f x, h, s, hs => by
    simp only [T.noCon, Bool.and_eq_true] at h
    simp only [T.nodes, List.mem_cons, List.mem_append] at hs
    rcases hs with rfl | hs | hs
    · simp [T.kind]
    · exact noCon_nodes h.1 s hs
    · exact noCon_nodes h.2 s hs
  | .call2 f x y, h, s, hs => by
    simp only [T.noCon, Bool.and_eq_true] at h
    simp only [T.nodes, List.mem_cons, List.mem_append] at hs
    rcases hs with rfl | hs | hs | hs
    · simp [T.kind]
    · exact noCon_nodes h.1.1 s hs
    · exact noCon_nodes h.1.2 s hs
    · exact noCon_nodes h.2 s hs

theorem is_small (O : G.Ok) (K : KF G a) {n : Nat} (R : Rm A (n + 4)) {H : Hp} {t : T} {x : Addr} (hz : t.size ≤ 1000) (hc : t.noCon = true) (ht : Rep a H t x) {Q : Value → Hp → Prop} (q : ∀ H', Ext H H' → Q (.bool (decide (t.size ≤ 9))) H') : Wc G A (.ref a.f_is_small) [.ref x] Q H := by
  refine Wc_fun O K.d.d_is_small.fn R.room ["own"] (bd1 fun _ _ _ _ _ _ _ _ => rfl) (by rfl) (by rfl) (by rfl) (by rfl) (by rfl) ?_
  intro L qual cdv hL
  have R1 : Rm (A.deeper (envOf qual (scopeOf (stmtAt 56)) L a.f_is_small cdv)) (n + 3) := R.deeper
  refine Ws_asg ?_
  refine We_callK O K.d.d_all_nodes.glob K.d.d_all_nodes.fn.keep ?_
  refine Wargs_l (by walk_at "v") ?_
  refine Wargs_nil ?_
  refine Wcall_of ?_
  refine all_nodes O K (R1.le (k := n + 2) (by lia)) ht hz ?_
  intro nl vs H1 hE1 hnl0 hnl hv
  have hlen : vs.length = t.size := by rw [hv.length, T.length_nodes]
  try dsimp only
  refine Ws_cons ?_
  refine Wst_If ?_
  refine Wb_Compare ?_
  refine We_callB O K.c.nb_len bb_len ?_
  refine Wargs_l (by walk_at "v") ?_
  refine Wargs_nil ?_
  refine W_len_list hnl (by lia) ?_
  refine We_GI O K.c.g_SMALL_SIZE ?_
  refine W_gt ?_
  refine W_truthy_bool ?_
  refine ifs (fun _ => ?_) (fun _ => ?_)
  · rename_i h
    refine Ws_ret ?_
    refine We_Bool ?_
    have : ¬ t.size ≤ 9 := by have := of_decide_eq_true h; lia
    have h1 := q H1 hE1
    rw [decide_eq_false this] at h1
    exact h1
  · rename_i h
    have h9 : t.size ≤ 9 := by
      have := of_decide_eq_false (by simpa using h : decide ((9 : Int) < (vs.length : Int)) = false)
      lia
    refine Ws_nil ?_
    refine Ws_cons ?_
    refine Wst_For_list R1.hd ?_
    refine We_L (by walk_at "v") ?_
    refine ⟨nl, vs, fun i σ' => ∃ m, σ' = ⟨m, H1⟩, rfl, ⟨⟨_, rfl⟩, ?_, ?_, ?_⟩⟩
    · intro i _ hq2
      refine x1_1 hq2 ?_; (try clear hq2); intro m rfl; exact ⟨_, hnl⟩
    · intro i v _ hvi hq3
      refine x1_1 hq3 ?_; (try clear hq3); intro m rfl
      intro u hu
      refine x2_3 (hv.get hvi) ?_; intro s xx hs rfl hr
      have hk := noCon_nodes hc s (List.mem_of_getElem? hs)
      refine W_nm hu ?_
      refine Ws_cons ?_
      refine Wst_If ?_
      refine Wb_BoolOp ?_
      refine Wall_And ?_
      refine Wb_kind O K (hr.mono hE1.le) K.c.g_CONST (by walk_at "v") ?_
      rw [if_neg (by simpa using hk), if_neg (by decide)]
      refine Ws_nil ?_
      refine Ws_nil ?_
      exact ⟨_, rfl⟩
    · intro _ hq4
      refine x1_1 hq4 ?_; (try clear hq4); intro m rfl
      refine Ws_ret ?_
      refine We_Bool ?_
      have h1 := q H1 hE1
      rw [decide_eq_true h9] at h1
      exact h1

end -- MC11

section -- MT3

noncomputable def iput (k i : Int) : List (Int × Int) → List (Int × Int)
  | [] => [(k, i)]
  | p :: r => if p.1 = k then (k, i) :: r else p :: iput k i r
theorem tput_im (k i : Int) : ∀ m : List (Int × Int), tput k (.int i 0) (im m) = im (iput k i m)
  | [] => rfl
  | p :: r => by
    unfold im tput iput
    rw [List.map_cons]
    dsimp only
    by_cases h : p.1 = k
    · rw [if_pos h, if_pos h]; rfl
    · rw [if_neg h, if_neg h, List.map_cons]; congr 1; exact tput_im k i r
theorem iget_iput (k i k' : Int) : ∀ m : List (Int × Int), iget k' (iput k i m) = if k = k' then some i else iget k' m
  | [] => by unfold iput iget; rfl
  | p :: r => by
    unfold iput
    by_cases h : p.1 = k
    · rw [if_pos h]
      unfold iget
      dsimp only
      by_cases h2 : k = k'
      · rw [if_pos h2, if_pos h2]
      · rw [if_neg h2, if_neg h2, if_neg (by rw [h]; exact h2)]
    · rw [if_neg h]
      unfold iget
      by_cases h2 : p.1 = k'
      · rw [if_pos h2, if_pos h2, if_neg (fun q => h (h2.trans q.symm))]
      · rw [if_neg h2, if_neg h2]; exact iget_iput k i k' r
theorem tget_tput (k : Int) (v : Value) (k' : Int) : ∀ m : List (Int × Value), tget k' (tput k v m) = if k = k' then some v else tget k' m
  | [] => by unfold tput tget; rfl
  | p :: r => by
    unfold tput
    by_cases h : p.1 = k
    · rw [if_pos h]
      unfold tget
      dsimp only
      by_cases h2 : k = k'
      · rw [if_pos h2, if_pos h2]
      · rw [if_neg h2, if_neg h2, if_neg (by rw [h]; exact h2)]
    · rw [if_neg h]
      unfold tget
      by_cases h2 : p.1 = k'
      · rw [if_pos h2, if_pos h2, if_neg (fun q => h (h2.trans q.symm))]
      · rw [if_neg h2, if_neg h2]; exact tget_tput k v k' r
theorem tput_length (k : Int) (v : Value) : ∀ m : List (Int × Value), (tput k v m).length ≤ m.length + 1
  | [] => Nat.le_refl _
  | p :: r => by
    unfold tput
    split
    · rw [List.length_cons, List.length_cons]; lia
    · rw [List.length_cons, List.length_cons]; have := tput_length k v r; lia
theorem iput_length (k i : Int) : ∀ m : List (Int × Int), (iput k i m).length ≤ m.length + 1
  | [] => Nat.le_refl _
  | p :: r => by
    unfold iput
    split
    · rw [List.length_cons, List.length_cons]; lia
    · rw [List.length_cons, List.length_cons]; have := iput_length k i r; lia
theorem im_length (m : List (Int × Int)) : (im m).length = m.length := by unfold im; rw [List.length_map]
noncomputable def Ints (es : List (Int × Value)) : Prop := ∀ p ∈ es, ∃ i, p.2 = Value.int i 0
theorem Ints.tput {k i : Int} {es : List (Int × Value)} (h : Ints es) : Ints (tput k (.int i 0) es) := by
  induction es with
  | nil => intro p hp; simp [Mine.tput] at hp; exact ⟨i, by rw [hp]⟩
  | cons q r ih =>
    unfold Mine.tput
    split
    · intro p hp
      rcases List.mem_cons.mp hp with rfl | hp
      · exact ⟨i, rfl⟩
      · exact h p (.tail _ hp)
    · intro p hp
      rcases List.mem_cons.mp hp with rfl | hp
      · exact h _ (.head _)
      · exact ih (fun q hq => h q (.tail _ hq)) p hp
theorem Ints.get {k : Int} {es : List (Int × Value)} (h : Ints es) : ∃ i, (tget k es).getD (.int 0 0) = .int i 0 := by
  induction es with
  | nil => exact ⟨0, rfl⟩
  | cons q r ih =>
    unfold tget
    split
    · refine x1_1 (h q (.head _)) ?_; intro i hi
      exact ⟨i, by rw [hi]; rfl⟩
    · exact ih fun p hp => h p (.tail _ hp)

set_option genInjectivity false in
set_option genSizeOf false in
structure FAd where
  x : Addr
  d : Addr
  read : Addr
  set : Addr
  called : Addr
  bound : Addr
  caught : Addr
  parent : Addr
  lets : Addr
  inner : Addr
  rg : Addr
  sg : Addr
noncomputable def FAd.all (F : FAd) : List Addr := [F.read, F.set, F.called, F.bound, F.caught, F.parent, F.lets, F.inner, F.rg, F.sg]

/-- dicts stay as they are -/
noncomputable def TK (H H' : Hp) : Prop := ∀ x z es, H x = some (.tab z es) → H' x = some (.tab z es)
theorem Ext.tk {H H' : Hp} (h : Ext H H') : TK H H' := fun x z es e => h _ _ e
theorem TK.trans {H H' H'' : Hp} (h : TK H H') (h' : TK H' H'') : TK H H'' := fun x z es e => h' x z es (h x z es e)
theorem TK.mut {H : Hp} {a : Addr} {o₀ o : MO} (h : H a = some o₀) (hn : ∀ z es, o₀ ≠ .tab z es) : TK H (upd H a o) := fun x z es e => (upd_ne (fun q => by rw [q, h] at e; cases e; exact hn z es rfl)).trans e

structure FObj (a : KA) (H : Hp) (F : FAd) : Prop where
  inst : H F.x = some (.inst a.cFacts F.d)
  at_ : H F.d = some (.attrs true [("read", .ref F.read), ("set", .ref F.set), ("called", .ref F.called), ("bound", .ref F.bound), ("caught", .ref F.caught), ("parent", .ref F.parent), ("lets", .ref F.lets), ("inner", .ref F.inner), ("read_globals", .ref F.rg), ("set_globals", .ref F.sg)])
  low : ∀ x ∈ F.all, x ≠ sysModules
theorem FObj.mono {a : KA} {H H' : Hp} {F : FAd} (h : Le H H') (x : FObj a H F) : FObj a H' F := ⟨h _ _ rfl x.inst, h _ _ rfl x.at_, x.low⟩

noncomputable def ITab (H : Hp) (x : Addr) (c : Nat) : Prop := ∃ es, H x = some (.tab false es) ∧ Ints es ∧ es.length ≤ c
noncomputable def ATab (H : Hp) (x : Addr) (c : Nat) : Prop := ∃ es, H x = some (.tab false es) ∧ es.length ≤ c
theorem ITab.keep {H H' : Hp} {x : Addr} {c c' : Nat} (h : ITab H x c) (e : ∀ es, H x = some (.tab false es) → H' x = some (.tab false es)) (hc : c ≤ c') : ITab H' x c' := by
  (refine x1_3 h ?_; (try clear h); intro es h1 h2 h3); exact ⟨es, e es h1, h2, Nat.le_trans h3 hc⟩
theorem ATab.keep {H H' : Hp} {x : Addr} {c c' : Nat} (h : ATab H x c) (e : ∀ es, H x = some (.tab false es) → H' x = some (.tab false es)) (hc : c ≤ c') : ATab H' x c' := by
  (refine x1_2 h ?_; (try clear h); intro es h1 h3); exact ⟨es, e es h1, Nat.le_trans h3 hc⟩

/-- the facts, while they are gathered; H₀: what stood before -/
structure FS (a : KA) (H₀ H : Hp) (F : FAd) (bm pm : List (Int × Int)) (c : Nat) : Prop where
  ext : Ext H₀ H
  new : ∀ x ∈ F.all, H₀ x = none
  obj : FObj a H F
  nod : F.all.Nodup
  rd : ITab H F.read c
  st : ITab H F.set c
  cl : ITab H F.called c
  rg : ITab H F.rg c
  sg : ITab H F.sg c
  bd : H F.bound = some (.tab false (im bm)) ∧ bm.length ≤ c
  pr : H F.parent = some (.tab false (im pm)) ∧ pm.length ≤ c
  ca : ATab H F.caught c
  lt : ATab H F.lets c
  inn : ∃ ies, H F.inner = some (.tab false ies) ∧ ies.length ≤ c ∧ ∀ l, (iget l pm).isSome = true → ∃ d, tget l ies = some (.ref d) ∧ ATab H d c ∧ d ∉ F.all ∧ d ≠ sysModules ∧ H₀ d = none

theorem FS.keep {a : KA} {H₀ H H' : Hp} {F : FAd} {bm pm : List (Int × Int)} {c c' : Nat} (S : FS a H₀ H F bm pm c) (hT : TK H H') (hL : Le H H') (hE : Ext H₀ H') (hc : c ≤ c') : FS a H₀ H' F bm pm c' where
  ext := hE
  new := S.new
  obj := S.obj.mono hL
  nod := S.nod
  rd := S.rd.keep (fun es => hT _ _ es) hc
  st := S.st.keep (fun es => hT _ _ es) hc
  cl := S.cl.keep (fun es => hT _ _ es) hc
  rg := S.rg.keep (fun es => hT _ _ es) hc
  sg := S.sg.keep (fun es => hT _ _ es) hc
  bd := ⟨hT _ _ _ S.bd.1, Nat.le_trans S.bd.2 hc⟩
  pr := ⟨hT _ _ _ S.pr.1, Nat.le_trans S.pr.2 hc⟩
  ca := S.ca.keep (fun es => hT _ _ es) hc
  lt := S.lt.keep (fun es => hT _ _ es) hc
  inn := by
    (refine x1_3 S.inn ?_; intro ies h1 h2 h3)
    refine ⟨ies, hT _ _ _ h1, Nat.le_trans h2 hc, fun l hl => ?_⟩
    refine x1_3 (h3 l hl) ?_; intro d k1 k2 k3
    exact ⟨d, k1, k2.keep (fun es => hT _ _ es) hc, k3⟩

/-- two places of a list without doubles -/
theorem nd_at {l : List Addr} (h : l.Nodup) (i j : Nat) {x y : Addr} (hi : l[i]? = some x) (hj : l[j]? = some y) (hij : (i == j) = false) : x ≠ y := by
  rintro rfl
  have := (List.getElem?_inj (List.getElem?_eq_some_iff.mp hi).1 h).mp (hi.trans hj.symm)
  simp [this] at hij

/-- the lambdas about a place, the nearest first -/
noncomputable def labOf : List (Int × Int) → Int
  | [] => -1
  | p :: _ => p.1
noncomputable def PathOk (bm pm : List (Int × Int)) : List (Int × Int) → Prop
  | [] => True
  | p :: r => iget p.1 pm = some (labOf r) ∧ iget p.2 bm = some p.1 ∧ PathOk bm pm r
theorem PathOk.mono {bm pm bm' pm' : List (Int × Int)} (h1 : ∀ k i, iget k bm = some i → iget k bm' = some i) (h2 : ∀ k i, iget k pm = some i → iget k pm' = some i) : ∀ {path : List (Int × Int)}, PathOk bm pm path → PathOk bm' pm' path
  | [], _ => trivial
  | _ :: _, ⟨a, b, c⟩ => ⟨h2 _ _ a, h1 _ _ b, c.mono h1 h2⟩

end -- MT3

section -- MT4
theorem nm_ne {l : List Addr} {d x : Addr} (h : d ∉ l) (h' : x ∈ l) : d ≠ x := fun q => h (q ▸ h')
theorem nm_ne2 {l : List Addr} {d x : Addr} (h : d ∉ l) (h' : x ∈ l) : x ≠ d := Ne.symm (nm_ne h h')
variable {a : KA} {H₀ H : Hp} {F : FAd} {bm pm : List (Int × Int)} {c : Nat}

theorem FAd.ne_read_set (h : F.all.Nodup) : F.read ≠ F.set := nd_at h 0 1 rfl rfl (Eq.refl false)
theorem FAd.ne_read_called (h : F.all.Nodup) : F.read ≠ F.called := nd_at h 0 2 rfl rfl (Eq.refl false)
theorem FAd.ne_read_bound (h : F.all.Nodup) : F.read ≠ F.bound := nd_at h 0 3 rfl rfl (Eq.refl false)
theorem FAd.ne_read_caught (h : F.all.Nodup) : F.read ≠ F.caught := nd_at h 0 4 rfl rfl (Eq.refl false)
theorem FAd.ne_read_parent (h : F.all.Nodup) : F.read ≠ F.parent := nd_at h 0 5 rfl rfl (Eq.refl false)
theorem FAd.ne_read_lets (h : F.all.Nodup) : F.read ≠ F.lets := nd_at h 0 6 rfl rfl (Eq.refl false)
theorem FAd.ne_read_inner (h : F.all.Nodup) : F.read ≠ F.inner := nd_at h 0 7 rfl rfl (Eq.refl false)
theorem FAd.ne_read_rg (h : F.all.Nodup) : F.read ≠ F.rg := nd_at h 0 8 rfl rfl (Eq.refl false)
theorem FAd.ne_read_sg (h : F.all.Nodup) : F.read ≠ F.sg := nd_at h 0 9 rfl rfl (Eq.refl false)
theorem FAd.ne_set_read (h : F.all.Nodup) : F.set ≠ F.read := nd_at h 1 0 rfl rfl (Eq.refl false)
theorem FAd.ne_set_called (h : F.all.Nodup) : F.set ≠ F.called := nd_at h 1 2 rfl rfl (Eq.refl false)
theorem FAd.ne_set_bound (h : F.all.Nodup) : F.set ≠ F.bound := nd_at h 1 3 rfl rfl (Eq.refl false)
theorem FAd.ne_set_caught (h : F.all.Nodup) : F.set ≠ F.caught := nd_at h 1 4 rfl rfl (Eq.refl false)
theorem FAd.ne_set_parent (h : F.all.Nodup) : F.set ≠ F.parent := nd_at h 1 5 rfl rfl (Eq.refl false)
theorem FAd.ne_set_lets (h : F.all.Nodup) : F.set ≠ F.lets := nd_at h 1 6 rfl rfl (Eq.refl false)
theorem FAd.ne_set_inner (h : F.all.Nodup) : F.set ≠ F.inner := nd_at h 1 7 rfl rfl (Eq.refl false)
theorem FAd.ne_set_rg (h : F.all.Nodup) : F.set ≠ F.rg := nd_at h 1 8 rfl rfl (Eq.refl false)
theorem FAd.ne_set_sg (h : F.all.Nodup) : F.set ≠ F.sg := nd_at h 1 9 rfl rfl (Eq.refl false)
theorem FAd.ne_called_read (h : F.all.Nodup) : F.called ≠ F.read := nd_at h 2 0 rfl rfl (Eq.refl false)
theorem FAd.ne_called_set (h : F.all.Nodup) : F.called ≠ F.set := nd_at h 2 1 rfl rfl (Eq.refl false)
theorem FAd.ne_called_bound (h : F.all.Nodup) : F.called ≠ F.bound := nd_at h 2 3 rfl rfl (Eq.refl false)
theorem FAd.ne_called_caught (h : F.all.Nodup) : F.called ≠ F.caught := nd_at h 2 4 rfl rfl (Eq.refl false)
theorem FAd.ne_called_parent (h : F.all.Nodup) : F.called ≠ F.parent := nd_at h 2 5 rfl rfl (Eq.refl false)
theorem FAd.ne_called_lets (h : F.all.Nodup) : F.called ≠ F.lets := nd_at h 2 6 rfl rfl (Eq.refl false)
theorem FAd.ne_called_inner (h : F.all.Nodup) : F.called ≠ F.inner := nd_at h 2 7 rfl rfl (Eq.refl false)
theorem FAd.ne_called_rg (h : F.all.Nodup) : F.called ≠ F.rg := nd_at h 2 8 rfl rfl (Eq.refl false)
theorem FAd.ne_called_sg (h : F.all.Nodup) : F.called ≠ F.sg := nd_at h 2 9 rfl rfl (Eq.refl false)
theorem FAd.ne_bound_read (h : F.all.Nodup) : F.bound ≠ F.read := nd_at h 3 0 rfl rfl (Eq.refl false)
theorem FAd.ne_bound_set (h : F.all.Nodup) : F.bound ≠ F.set := nd_at h 3 1 rfl rfl (Eq.refl false)
theorem FAd.ne_bound_called (h : F.all.Nodup) : F.bound ≠ F.called := nd_at h 3 2 rfl rfl (Eq.refl false)
theorem FAd.ne_bound_caught (h : F.all.Nodup) : F.bound ≠ F.caught := nd_at h 3 4 rfl rfl (Eq.refl false)
theorem FAd.ne_bound_parent (h : F.all.Nodup) : F.bound ≠ F.parent := nd_at h 3 5 rfl rfl (Eq.refl false)
theorem FAd.ne_bound_lets (h : F.all.Nodup) : F.bound ≠ F.lets := nd_at h 3 6 rfl rfl (Eq.refl false)
theorem FAd.ne_bound_inner (h : F.all.Nodup) : F.bound ≠ F.inner := nd_at h 3 7 rfl rfl (Eq.refl false)
theorem FAd.ne_bound_rg (h : F.all.Nodup) : F.bound ≠ F.rg := nd_at h 3 8 rfl rfl (Eq.refl false)
theorem FAd.ne_bound_sg (h : F.all.Nodup) : F.bound ≠ F.sg := nd_at h 3 9 rfl rfl (Eq.refl false)
theorem FAd.ne_caught_read (h : F.all.Nodup) : F.caught ≠ F.read := nd_at h 4 0 rfl rfl (Eq.refl false)
theorem FAd.ne_caught_set (h : F.all.Nodup) : F.caught ≠ F.set := nd_at h 4 1 rfl rfl (Eq.refl false)
theorem FAd.ne_caught_called (h : F.all.Nodup) : F.caught ≠ F.called := nd_at h 4 2 rfl rfl (Eq.refl false)
theorem FAd.ne_caught_bound (h : F.all.Nodup) : F.caught ≠ F.bound := nd_at h 4 3 rfl rfl (Eq.refl false)
theorem FAd.ne_caught_parent (h : F.all.Nodup) : F.caught ≠ F.parent := nd_at h 4 5 rfl rfl (Eq.refl false)
theorem FAd.ne_caught_lets (h : F.all.Nodup) : F.caught ≠ F.lets := nd_at h 4 6 rfl rfl (Eq.refl false)
theorem FAd.ne_caught_inner (h : F.all.Nodup) : F.caught ≠ F.inner := nd_at h 4 7 rfl rfl (Eq.refl false)
theorem FAd.ne_caught_rg (h : F.all.Nodup) : F.caught ≠ F.rg := nd_at h 4 8 rfl rfl (Eq.refl false)
theorem FAd.ne_caught_sg (h : F.all.Nodup) : F.caught ≠ F.sg := nd_at h 4 9 rfl rfl (Eq.refl false)
theorem FAd.ne_parent_read (h : F.all.Nodup) : F.parent ≠ F.read := nd_at h 5 0 rfl rfl (Eq.refl false)
theorem FAd.ne_parent_set (h : F.all.Nodup) : F.parent ≠ F.set := nd_at h 5 1 rfl rfl (Eq.refl false)
theorem FAd.ne_parent_called (h : F.all.Nodup) : F.parent ≠ F.called := nd_at h 5 2 rfl rfl (Eq.refl false)
theorem FAd.ne_parent_bound (h : F.all.Nodup) : F.parent ≠ F.bound := nd_at h 5 3 rfl rfl (Eq.refl false)
theorem FAd.ne_parent_caught (h : F.all.Nodup) : F.parent ≠ F.caught := nd_at h 5 4 rfl rfl (Eq.refl false)
theorem FAd.ne_parent_lets (h : F.all.Nodup) : F.parent ≠ F.lets := nd_at h 5 6 rfl rfl (Eq.refl false)
theorem FAd.ne_parent_inner (h : F.all.Nodup) : F.parent ≠ F.inner := nd_at h 5 7 rfl rfl (Eq.refl false)
theorem FAd.ne_parent_rg (h : F.all.Nodup) : F.parent ≠ F.rg := nd_at h 5 8 rfl rfl (Eq.refl false)
theorem FAd.ne_parent_sg (h : F.all.Nodup) : F.parent ≠ F.sg := nd_at h 5 9 rfl rfl (Eq.refl false)
theorem FAd.ne_lets_read (h : F.all.Nodup) : F.lets ≠ F.read := nd_at h 6 0 rfl rfl (Eq.refl false)
theorem FAd.ne_lets_set (h : F.all.Nodup) : F.lets ≠ F.set := nd_at h 6 1 rfl rfl (Eq.refl false)
theorem FAd.ne_lets_called (h : F.all.Nodup) : F.lets ≠ F.called := nd_at h 6 2 rfl rfl (Eq.refl false)
theorem FAd.ne_lets_bound (h : F.all.Nodup) : F.lets ≠ F.bound := nd_at h 6 3 rfl rfl (Eq.refl false)
theorem FAd.ne_lets_caught (h : F.all.Nodup) : F.lets ≠ F.caught := nd_at h 6 4 rfl rfl (Eq.refl false)
theorem FAd.ne_lets_parent (h : F.all.Nodup) : F.lets ≠ F.parent := nd_at h 6 5 rfl rfl (Eq.refl false)
theorem FAd.ne_lets_inner (h : F.all.Nodup) : F.lets ≠ F.inner := nd_at h 6 7 rfl rfl (Eq.refl false)
theorem FAd.ne_lets_rg (h : F.all.Nodup) : F.lets ≠ F.rg := nd_at h 6 8 rfl rfl (Eq.refl false)
theorem FAd.ne_lets_sg (h : F.all.Nodup) : F.lets ≠ F.sg := nd_at h 6 9 rfl rfl (Eq.refl false)
theorem FAd.ne_inner_read (h : F.all.Nodup) : F.inner ≠ F.read := nd_at h 7 0 rfl rfl (Eq.refl false)
theorem FAd.ne_inner_set (h : F.all.Nodup) : F.inner ≠ F.set := nd_at h 7 1 rfl rfl (Eq.refl false)
theorem FAd.ne_inner_called (h : F.all.Nodup) : F.inner ≠ F.called := nd_at h 7 2 rfl rfl (Eq.refl false)
theorem FAd.ne_inner_bound (h : F.all.Nodup) : F.inner ≠ F.bound := nd_at h 7 3 rfl rfl (Eq.refl false)
theorem FAd.ne_inner_caught (h : F.all.Nodup) : F.inner ≠ F.caught := nd_at h 7 4 rfl rfl (Eq.refl false)
theorem FAd.ne_inner_parent (h : F.all.Nodup) : F.inner ≠ F.parent := nd_at h 7 5 rfl rfl (Eq.refl false)
theorem FAd.ne_inner_lets (h : F.all.Nodup) : F.inner ≠ F.lets := nd_at h 7 6 rfl rfl (Eq.refl false)
theorem FAd.ne_inner_rg (h : F.all.Nodup) : F.inner ≠ F.rg := nd_at h 7 8 rfl rfl (Eq.refl false)
theorem FAd.ne_inner_sg (h : F.all.Nodup) : F.inner ≠ F.sg := nd_at h 7 9 rfl rfl (Eq.refl false)
theorem FAd.ne_rg_read (h : F.all.Nodup) : F.rg ≠ F.read := nd_at h 8 0 rfl rfl (Eq.refl false)
theorem FAd.ne_rg_set (h : F.all.Nodup) : F.rg ≠ F.set := nd_at h 8 1 rfl rfl (Eq.refl false)
theorem FAd.ne_rg_called (h : F.all.Nodup) : F.rg ≠ F.called := nd_at h 8 2 rfl rfl (Eq.refl false)
theorem FAd.ne_rg_bound (h : F.all.Nodup) : F.rg ≠ F.bound := nd_at h 8 3 rfl rfl (Eq.refl false)
theorem FAd.ne_rg_caught (h : F.all.Nodup) : F.rg ≠ F.caught := nd_at h 8 4 rfl rfl (Eq.refl false)
theorem FAd.ne_rg_parent (h : F.all.Nodup) : F.rg ≠ F.parent := nd_at h 8 5 rfl rfl (Eq.refl false)
theorem FAd.ne_rg_lets (h : F.all.Nodup) : F.rg ≠ F.lets := nd_at h 8 6 rfl rfl (Eq.refl false)
theorem FAd.ne_rg_inner (h : F.all.Nodup) : F.rg ≠ F.inner := nd_at h 8 7 rfl rfl (Eq.refl false)
theorem FAd.ne_rg_sg (h : F.all.Nodup) : F.rg ≠ F.sg := nd_at h 8 9 rfl rfl (Eq.refl false)
theorem FAd.ne_sg_read (h : F.all.Nodup) : F.sg ≠ F.read := nd_at h 9 0 rfl rfl (Eq.refl false)
theorem FAd.ne_sg_set (h : F.all.Nodup) : F.sg ≠ F.set := nd_at h 9 1 rfl rfl (Eq.refl false)
theorem FAd.ne_sg_called (h : F.all.Nodup) : F.sg ≠ F.called := nd_at h 9 2 rfl rfl (Eq.refl false)
theorem FAd.ne_sg_bound (h : F.all.Nodup) : F.sg ≠ F.bound := nd_at h 9 3 rfl rfl (Eq.refl false)
theorem FAd.ne_sg_caught (h : F.all.Nodup) : F.sg ≠ F.caught := nd_at h 9 4 rfl rfl (Eq.refl false)
theorem FAd.ne_sg_parent (h : F.all.Nodup) : F.sg ≠ F.parent := nd_at h 9 5 rfl rfl (Eq.refl false)
theorem FAd.ne_sg_lets (h : F.all.Nodup) : F.sg ≠ F.lets := nd_at h 9 6 rfl rfl (Eq.refl false)
theorem FAd.ne_sg_inner (h : F.all.Nodup) : F.sg ≠ F.inner := nd_at h 9 7 rfl rfl (Eq.refl false)
theorem FAd.ne_sg_rg (h : F.all.Nodup) : F.sg ≠ F.rg := nd_at h 9 8 rfl rfl (Eq.refl false)
theorem FAd.mem_read : F.read ∈ F.all := by unfold FAd.all; simp
theorem FAd.mem_set : F.set ∈ F.all := by unfold FAd.all; simp
theorem FAd.mem_called : F.called ∈ F.all := by unfold FAd.all; simp
theorem FAd.mem_bound : F.bound ∈ F.all := by unfold FAd.all; simp
theorem FAd.mem_caught : F.caught ∈ F.all := by unfold FAd.all; simp
theorem FAd.mem_parent : F.parent ∈ F.all := by unfold FAd.all; simp
theorem FAd.mem_lets : F.lets ∈ F.all := by unfold FAd.all; simp
theorem FAd.mem_inner : F.inner ∈ F.all := by unfold FAd.all; simp
theorem FAd.mem_rg : F.rg ∈ F.all := by unfold FAd.all; simp
theorem FAd.mem_sg : F.sg ∈ F.all := by unfold FAd.all; simp
theorem FS.put_read (S : FS a H₀ H F bm pm c) {es : List (Int × Value)} (h1 : Ints es) (h2 : es.length ≤ c + 1) : FS a H₀ (upd H F.read (.tab false es)) F bm pm (c + 1) :=
  have hL : Le H (upd H F.read (.tab false es)) := by (refine x1_2 S.rd ?_; intro es0 e0 _); exact Le.mut e0 rfl
  {
  ext := S.ext.mut (S.new _ FAd.mem_read)
  new := S.new
  obj := S.obj.mono hL
  nod := S.nod
  rd := ⟨es, upd_same, h1, h2⟩
  st := S.st.keep (fun es e => (upd_ne (FAd.ne_set_read S.nod)).trans e) (Nat.le_succ c)
  cl := S.cl.keep (fun es e => (upd_ne (FAd.ne_called_read S.nod)).trans e) (Nat.le_succ c)
  bd := ⟨(upd_ne (FAd.ne_bound_read S.nod)).trans S.bd.1, Nat.le_succ_of_le S.bd.2⟩
  ca := S.ca.keep (fun es e => (upd_ne (FAd.ne_caught_read S.nod)).trans e) (Nat.le_succ c)
  pr := ⟨(upd_ne (FAd.ne_parent_read S.nod)).trans S.pr.1, Nat.le_succ_of_le S.pr.2⟩
  lt := S.lt.keep (fun es e => (upd_ne (FAd.ne_lets_read S.nod)).trans e) (Nat.le_succ c)
  rg := S.rg.keep (fun es e => (upd_ne (FAd.ne_rg_read S.nod)).trans e) (Nat.le_succ c)
  sg := S.sg.keep (fun es e => (upd_ne (FAd.ne_sg_read S.nod)).trans e) (Nat.le_succ c)
  inn := by
    (refine x1_3 S.inn ?_; intro ies h1 h2 h3)
    refine ⟨ies, (upd_ne (FAd.ne_inner_read S.nod)).trans h1, Nat.le_succ_of_le h2, fun l hl => ?_⟩
    refine x1_4 (h3 l hl) ?_; intro d k1 k2 k3 k4
    exact ⟨d, k1, k2.keep (fun es e => (upd_ne (nm_ne k3 FAd.mem_read)).trans e) (Nat.le_succ c), k3, k4⟩ }
theorem FS.put_called (S : FS a H₀ H F bm pm c) {es : List (Int × Value)} (h1 : Ints es) (h2 : es.length ≤ c + 1) : FS a H₀ (upd H F.called (.tab false es)) F bm pm (c + 1) :=
  have hL : Le H (upd H F.called (.tab false es)) := by (refine x1_2 S.cl ?_; intro es0 e0 _); exact Le.mut e0 rfl
  {
  ext := S.ext.mut (S.new _ FAd.mem_called)
  new := S.new
  obj := S.obj.mono hL
  nod := S.nod
  rd := S.rd.keep (fun es e => (upd_ne (FAd.ne_read_called S.nod)).trans e) (Nat.le_succ c)
  st := S.st.keep (fun es e => (upd_ne (FAd.ne_set_called S.nod)).trans e) (Nat.le_succ c)
  cl := ⟨es, upd_same, h1, h2⟩
  bd := ⟨(upd_ne (FAd.ne_bound_called S.nod)).trans S.bd.1, Nat.le_succ_of_le S.bd.2⟩
  ca := S.ca.keep (fun es e => (upd_ne (FAd.ne_caught_called S.nod)).trans e) (Nat.le_succ c)
  pr := ⟨(upd_ne (FAd.ne_parent_called S.nod)).trans S.pr.1, Nat.le_succ_of_le S.pr.2⟩
  lt := S.lt.keep (fun es e => (upd_ne (FAd.ne_lets_called S.nod)).trans e) (Nat.le_succ c)
  rg := S.rg.keep (fun es e => (upd_ne (FAd.ne_rg_called S.nod)).trans e) (Nat.le_succ c)
  sg := S.sg.keep (fun es e => (upd_ne (FAd.ne_sg_called S.nod)).trans e) (Nat.le_succ c)
  inn := by
    (refine x1_3 S.inn ?_; intro ies h1 h2 h3)
    refine ⟨ies, (upd_ne (FAd.ne_inner_called S.nod)).trans h1, Nat.le_succ_of_le h2, fun l hl => ?_⟩
    refine x1_4 (h3 l hl) ?_; intro d k1 k2 k3 k4
    exact ⟨d, k1, k2.keep (fun es e => (upd_ne (nm_ne k3 FAd.mem_called)).trans e) (Nat.le_succ c), k3, k4⟩ }
theorem FS.put_rg (S : FS a H₀ H F bm pm c) {es : List (Int × Value)} (h1 : Ints es) (h2 : es.length ≤ c + 1) : FS a H₀ (upd H F.rg (.tab false es)) F bm pm (c + 1) :=
  have hL : Le H (upd H F.rg (.tab false es)) := by (refine x1_2 S.rg ?_; intro es0 e0 _); exact Le.mut e0 rfl
  {
  ext := S.ext.mut (S.new _ FAd.mem_rg)
  new := S.new
  obj := S.obj.mono hL
  nod := S.nod
  rd := S.rd.keep (fun es e => (upd_ne (FAd.ne_read_rg S.nod)).trans e) (Nat.le_succ c)
  st := S.st.keep (fun es e => (upd_ne (FAd.ne_set_rg S.nod)).trans e) (Nat.le_succ c)
  cl := S.cl.keep (fun es e => (upd_ne (FAd.ne_called_rg S.nod)).trans e) (Nat.le_succ c)
  bd := ⟨(upd_ne (FAd.ne_bound_rg S.nod)).trans S.bd.1, Nat.le_succ_of_le S.bd.2⟩
  ca := S.ca.keep (fun es e => (upd_ne (FAd.ne_caught_rg S.nod)).trans e) (Nat.le_succ c)
  pr := ⟨(upd_ne (FAd.ne_parent_rg S.nod)).trans S.pr.1, Nat.le_succ_of_le S.pr.2⟩
  lt := S.lt.keep (fun es e => (upd_ne (FAd.ne_lets_rg S.nod)).trans e) (Nat.le_succ c)
  rg := ⟨es, upd_same, h1, h2⟩
  sg := S.sg.keep (fun es e => (upd_ne (FAd.ne_sg_rg S.nod)).trans e) (Nat.le_succ c)
  inn := by
    (refine x1_3 S.inn ?_; intro ies h1 h2 h3)
    refine ⟨ies, (upd_ne (FAd.ne_inner_rg S.nod)).trans h1, Nat.le_succ_of_le h2, fun l hl => ?_⟩
    refine x1_4 (h3 l hl) ?_; intro d k1 k2 k3 k4
    exact ⟨d, k1, k2.keep (fun es e => (upd_ne (nm_ne k3 FAd.mem_rg)).trans e) (Nat.le_succ c), k3, k4⟩ }
theorem FS.put_caught (S : FS a H₀ H F bm pm c) {es : List (Int × Value)} (h2 : es.length ≤ c + 1) : FS a H₀ (upd H F.caught (.tab false es)) F bm pm (c + 1) :=
  have hL : Le H (upd H F.caught (.tab false es)) := by (refine x1_2 S.ca ?_; intro es0 e0 _); exact Le.mut e0 rfl
  {
  ext := S.ext.mut (S.new _ FAd.mem_caught)
  new := S.new
  obj := S.obj.mono hL
  nod := S.nod
  rd := S.rd.keep (fun es e => (upd_ne (FAd.ne_read_caught S.nod)).trans e) (Nat.le_succ c)
  st := S.st.keep (fun es e => (upd_ne (FAd.ne_set_caught S.nod)).trans e) (Nat.le_succ c)
  cl := S.cl.keep (fun es e => (upd_ne (FAd.ne_called_caught S.nod)).trans e) (Nat.le_succ c)
  bd := ⟨(upd_ne (FAd.ne_bound_caught S.nod)).trans S.bd.1, Nat.le_succ_of_le S.bd.2⟩
  ca := ⟨es, upd_same, h2⟩
  pr := ⟨(upd_ne (FAd.ne_parent_caught S.nod)).trans S.pr.1, Nat.le_succ_of_le S.pr.2⟩
  lt := S.lt.keep (fun es e => (upd_ne (FAd.ne_lets_caught S.nod)).trans e) (Nat.le_succ c)
  rg := S.rg.keep (fun es e => (upd_ne (FAd.ne_rg_caught S.nod)).trans e) (Nat.le_succ c)
  sg := S.sg.keep (fun es e => (upd_ne (FAd.ne_sg_caught S.nod)).trans e) (Nat.le_succ c)
  inn := by
    (refine x1_3 S.inn ?_; intro ies h1 h2 h3)
    refine ⟨ies, (upd_ne (FAd.ne_inner_caught S.nod)).trans h1, Nat.le_succ_of_le h2, fun l hl => ?_⟩
    refine x1_4 (h3 l hl) ?_; intro d k1 k2 k3 k4
    exact ⟨d, k1, k2.keep (fun es e => (upd_ne (nm_ne k3 FAd.mem_caught)).trans e) (Nat.le_succ c), k3, k4⟩ }
theorem FS.put_lets (S : FS a H₀ H F bm pm c) {es : List (Int × Value)} (h2 : es.length ≤ c + 1) : FS a H₀ (upd H F.lets (.tab false es)) F bm pm (c + 1) :=
  have hL : Le H (upd H F.lets (.tab false es)) := by (refine x1_2 S.lt ?_; intro es0 e0 _); exact Le.mut e0 rfl
  {
  ext := S.ext.mut (S.new _ FAd.mem_lets)
  new := S.new
  obj := S.obj.mono hL
  nod := S.nod
  rd := S.rd.keep (fun es e => (upd_ne (FAd.ne_read_lets S.nod)).trans e) (Nat.le_succ c)
  st := S.st.keep (fun es e => (upd_ne (FAd.ne_set_lets S.nod)).trans e) (Nat.le_succ c)
  cl := S.cl.keep (fun es e => (upd_ne (FAd.ne_called_lets S.nod)).trans e) (Nat.le_succ c)
  bd := ⟨(upd_ne (FAd.ne_bound_lets S.nod)).trans S.bd.1, Nat.le_succ_of_le S.bd.2⟩
  ca := S.ca.keep (fun es e => (upd_ne (FAd.ne_caught_lets S.nod)).trans e) (Nat.le_succ c)
  pr := ⟨(upd_ne (FAd.ne_parent_lets S.nod)).trans S.pr.1, Nat.le_succ_of_le S.pr.2⟩
  lt := ⟨es, upd_same, h2⟩
  rg := S.rg.keep (fun es e => (upd_ne (FAd.ne_rg_lets S.nod)).trans e) (Nat.le_succ c)
  sg := S.sg.keep (fun es e => (upd_ne (FAd.ne_sg_lets S.nod)).trans e) (Nat.le_succ c)
  inn := by
    (refine x1_3 S.inn ?_; intro ies h1 h2 h3)
    refine ⟨ies, (upd_ne (FAd.ne_inner_lets S.nod)).trans h1, Nat.le_succ_of_le h2, fun l hl => ?_⟩
    refine x1_4 (h3 l hl) ?_; intro d k1 k2 k3 k4
    exact ⟨d, k1, k2.keep (fun es e => (upd_ne (nm_ne k3 FAd.mem_lets)).trans e) (Nat.le_succ c), k3, k4⟩ }
theorem FS.put_bound (S : FS a H₀ H F bm pm c) {bm' : List (Int × Int)} (h2 : bm'.length ≤ c + 1) : FS a H₀ (upd H F.bound (.tab false (im bm'))) F bm' pm (c + 1) :=
  have hL : Le H (upd H F.bound (.tab false (im bm'))) := Le.mut S.bd.1 rfl
  {
  ext := S.ext.mut (S.new _ FAd.mem_bound)
  new := S.new
  obj := S.obj.mono hL
  nod := S.nod
  rd := S.rd.keep (fun es e => (upd_ne (FAd.ne_read_bound S.nod)).trans e) (Nat.le_succ c)
  st := S.st.keep (fun es e => (upd_ne (FAd.ne_set_bound S.nod)).trans e) (Nat.le_succ c)
  cl := S.cl.keep (fun es e => (upd_ne (FAd.ne_called_bound S.nod)).trans e) (Nat.le_succ c)
  bd := ⟨upd_same, h2⟩
  ca := S.ca.keep (fun es e => (upd_ne (FAd.ne_caught_bound S.nod)).trans e) (Nat.le_succ c)
  pr := ⟨(upd_ne (FAd.ne_parent_bound S.nod)).trans S.pr.1, Nat.le_succ_of_le S.pr.2⟩
  lt := S.lt.keep (fun es e => (upd_ne (FAd.ne_lets_bound S.nod)).trans e) (Nat.le_succ c)
  rg := S.rg.keep (fun es e => (upd_ne (FAd.ne_rg_bound S.nod)).trans e) (Nat.le_succ c)
  sg := S.sg.keep (fun es e => (upd_ne (FAd.ne_sg_bound S.nod)).trans e) (Nat.le_succ c)
  inn := by
    (refine x1_3 S.inn ?_; intro ies h1 h2 h3)
    refine ⟨ies, (upd_ne (FAd.ne_inner_bound S.nod)).trans h1, Nat.le_succ_of_le h2, fun l hl => ?_⟩
    refine x1_4 (h3 l hl) ?_; intro d k1 k2 k3 k4
    exact ⟨d, k1, k2.keep (fun es e => (upd_ne (nm_ne k3 FAd.mem_bound)).trans e) (Nat.le_succ c), k3, k4⟩ }
theorem FS.put_at (S : FS a H₀ H F bm pm c) {l : Int} {d : Addr} {ies es es' : List (Int × Value)} (hi : H F.inner = some (.tab false ies)) (hg : tget l ies = some (.ref d)) (hd : H d = some (.tab false es)) (hda : d ∉ F.all) (hd0 : H₀ d = none) (h2 : es'.length ≤ c + 1) : FS a H₀ (upd H d (.tab false es')) F bm pm (c + 1) :=
  have hL : Le H (upd H d (.tab false es')) := Le.mut hd rfl
  {
  ext := S.ext.mut hd0
  new := S.new
  obj := S.obj.mono hL
  nod := S.nod
  rd := S.rd.keep (fun es e => (upd_ne (nm_ne2 hda FAd.mem_read)).trans e) (Nat.le_succ c)
  st := S.st.keep (fun es e => (upd_ne (nm_ne2 hda FAd.mem_set)).trans e) (Nat.le_succ c)
  cl := S.cl.keep (fun es e => (upd_ne (nm_ne2 hda FAd.mem_called)).trans e) (Nat.le_succ c)
  bd := ⟨(upd_ne (nm_ne2 hda FAd.mem_bound)).trans S.bd.1, Nat.le_succ_of_le S.bd.2⟩
  ca := S.ca.keep (fun es e => (upd_ne (nm_ne2 hda FAd.mem_caught)).trans e) (Nat.le_succ c)
  pr := ⟨(upd_ne (nm_ne2 hda FAd.mem_parent)).trans S.pr.1, Nat.le_succ_of_le S.pr.2⟩
  lt := S.lt.keep (fun es e => (upd_ne (nm_ne2 hda FAd.mem_lets)).trans e) (Nat.le_succ c)
  rg := S.rg.keep (fun es e => (upd_ne (nm_ne2 hda FAd.mem_rg)).trans e) (Nat.le_succ c)
  sg := S.sg.keep (fun es e => (upd_ne (nm_ne2 hda FAd.mem_sg)).trans e) (Nat.le_succ c)
  inn := by
    (refine x1_3 S.inn ?_; intro ies' h1 h3 h4)
    refine ⟨ies', (upd_ne (nm_ne2 hda FAd.mem_inner)).trans h1, Nat.le_succ_of_le h3, fun l hl => ?_⟩
    refine x1_4 (h4 l hl) ?_; intro d' k1 k2 k3 k4
    refine ⟨d', k1, ?_, k3, k4⟩
    by_cases hq : d' = d
    · rw [hq]; exact ⟨es', upd_same, h2⟩
    · exact k2.keep (fun es e => (upd_ne hq).trans e) (Nat.le_succ c) }
theorem FS.put_lam (S : FS a H₀ H F bm pm c) {l i : Int} {d : Addr} {ies : List (Int × Value)} (hi : H F.inner = some (.tab false ies)) (hl : iget l pm = none) (hd : H d = none) (hdm : d ≠ sysModules) :
    FS a H₀ (upd (upd (upd H F.parent (.tab false (im (iput l i pm)))) d (.tab false [])) F.inner (.tab false (tput l (.ref d) ies))) F bm (iput l i pm) (c + 1) := by
  have hda : d ∉ F.all := fun hm => by
    unfold FAd.all at hm
    simp only [List.mem_cons, List.mem_nil_iff, or_false] at hm
    rcases hm with rfl | rfl | rfl | rfl | rfl | rfl | rfl | rfl | rfl | rfl
    · refine x1_2 S.rd ?_; intro _ e _; rw [hd] at e; cases e
    · refine x1_2 S.st ?_; intro _ e _; rw [hd] at e; cases e
    · refine x1_2 S.cl ?_; intro _ e _; rw [hd] at e; cases e
    · have e := S.bd.1; rw [hd] at e; cases e
    · refine x1_2 S.ca ?_; intro _ e _; rw [hd] at e; cases e
    · have e := S.pr.1; rw [hd] at e; cases e
    · refine x1_2 S.lt ?_; intro _ e _; rw [hd] at e; cases e
    · rw [hd] at hi; cases hi
    · refine x1_2 S.rg ?_; intro _ e _; rw [hd] at e; cases e
    · refine x1_2 S.sg ?_; intro _ e _; rw [hd] at e; cases e
  have hd0 : H₀ d = none := S.ext.none hd
  have hdp : d ≠ F.parent := nm_ne hda FAd.mem_parent
  have hd1 : upd H F.parent (.tab false (im (iput l i pm))) d = none := (upd_ne hdp).trans hd
  have L1 : Le H (upd H F.parent (.tab false (im (iput l i pm)))) := Le.mut S.pr.1 rfl
  have L2 := L1.trans (Ext.new (o := .tab false []) hd1).le
  have hi2 : upd (upd H F.parent (.tab false (im (iput l i pm)))) d (.tab false []) F.inner = some (.tab false ies) := (upd_ne (nm_ne2 hda FAd.mem_inner)).trans ((upd_ne (FAd.ne_inner_parent S.nod)).trans hi)
  have L3 := L2.trans (Le.mut (o := .tab false (tput l (.ref d) ies)) hi2 rfl)
  have kp : ∀ y o, y ≠ F.parent → y ≠ d → y ≠ F.inner → H y = some o → upd (upd (upd H F.parent (.tab false (im (iput l i pm)))) d (.tab false [])) F.inner (.tab false (tput l (.ref d) ies)) y = some o := fun y o h1 h2 h3 e => (upd_ne h3).trans ((upd_ne h2).trans ((upd_ne h1).trans e))
  refine { ext := ((S.ext.mut (S.new _ FAd.mem_parent)).mut hd0).mut (S.new _ FAd.mem_inner), new := S.new, obj := S.obj.mono L3, nod := S.nod, rd := S.rd.keep (fun es e => kp _ _ (FAd.ne_read_parent S.nod) (nm_ne2 hda FAd.mem_read) (FAd.ne_read_inner S.nod) e) (Nat.le_succ c), st := S.st.keep (fun es e => kp _ _ (FAd.ne_set_parent S.nod) (nm_ne2 hda FAd.mem_set) (FAd.ne_set_inner S.nod) e) (Nat.le_succ c), cl := S.cl.keep (fun es e => kp _ _ (FAd.ne_called_parent S.nod) (nm_ne2 hda FAd.mem_called) (FAd.ne_called_inner S.nod) e) (Nat.le_succ c), bd := ⟨kp _ _ (FAd.ne_bound_parent S.nod) (nm_ne2 hda FAd.mem_bound) (FAd.ne_bound_inner S.nod) S.bd.1, Nat.le_succ_of_le S.bd.2⟩, ca := S.ca.keep (fun es e => kp _ _ (FAd.ne_caught_parent S.nod) (nm_ne2 hda FAd.mem_caught) (FAd.ne_caught_inner S.nod) e) (Nat.le_succ c), pr := ⟨(upd_ne (FAd.ne_parent_inner S.nod)).trans ((upd_ne (nm_ne2 hda FAd.mem_parent)).trans upd_same), Nat.le_trans (iput_length l i pm) (Nat.succ_le_succ S.pr.2)⟩, lt := S.lt.keep (fun es e => kp _ _ (FAd.ne_lets_parent S.nod) (nm_ne2 hda FAd.mem_lets) (FAd.ne_lets_inner S.nod) e) (Nat.le_succ c), rg := S.rg.keep (fun es e => kp _ _ (FAd.ne_rg_parent S.nod) (nm_ne2 hda FAd.mem_rg) (FAd.ne_rg_inner S.nod) e) (Nat.le_succ c), sg := S.sg.keep (fun es e => kp _ _ (FAd.ne_sg_parent S.nod) (nm_ne2 hda FAd.mem_sg) (FAd.ne_sg_inner S.nod) e) (Nat.le_succ c), inn := ?_ }
  refine x1_3 S.inn ?_; intro ies' h1 h3 h4
  rw [hi] at h1
  cases h1
  refine ⟨_, upd_same, Nat.le_trans (tput_length _ _ _) (Nat.succ_le_succ h3), fun l' hl' => ?_⟩
  rw [tget_tput]
  by_cases hq : l = l'
  · rw [if_pos hq]
    exact ⟨d, rfl, ⟨[], (upd_ne (nm_ne hda FAd.mem_inner)).trans upd_same, Nat.zero_le _⟩, hda, hdm, hd0⟩
  · rw [if_neg hq]
    rw [iget_iput, if_neg hq] at hl'
    refine x1_4 (h4 l' hl') ?_; intro d' k1 k2 k3 k4
    refine ⟨d', k1, k2.keep (fun es e => kp _ _ (nm_ne k3 FAd.mem_parent) (fun q => by rw [q, hd] at e; cases e) (nm_ne k3 FAd.mem_inner) e) (Nat.le_succ c), k3, k4⟩

end -- MT4

section -- MC12
set_option maxRecDepth 20000
variable {G : Gl} {a : KA} {A : Around} {env : Env} {σ : St} {L : Addr}

/-- an instance that is being filled with empty dicts -/
noncomputable def mkV (fs : List (Str × Addr)) : List (Str × Value) := fs.map fun p => (p.1, .ref p.2)
structure Mk (H₀ H : Hp) (x d C : Addr) (fs : List (Str × Addr)) : Prop where
  ext : Ext H₀ H
  inst : H x = some (.inst C d)
  at_ : H d = some (.attrs false (mkV fs))
  tabs : ∀ e ∈ fs.map (·.2), H e = some (.tab false []) ∧ H₀ e = none ∧ e ≠ sysModules
  nd : (fs.map (·.2)).Nodup
  xd : x ≠ d
  d0 : H₀ d = none
theorem puta_new (nm : Str) (v : Value) : ∀ (fs : List (Str × Value)), (fs.map (·.1)).contains nm = false → puta nm v fs = fs ++ [(nm, v)]
  | [], _ => rfl
  | p :: r, h => by
    rw [List.map_cons, List.contains_cons, Bool.or_eq_false_iff] at h
    unfold puta
    rw [if_neg (fun e => by rw [e] at h; simp at h), puta_new nm v r h.2]
    rfl
theorem mk_step (O : G.Ok) {H₀ : Hp} {x d C fi : Addr} {fs : List (Str × Addr)} {name nm : Str} {st : Stmt} {m : Str → Option Value} {H : Hp} {px ap dp pos : Pos} {rest : List Stmt} {Q : Flow → St → Prop} (k : ClsK G nm C fi st) (ho : findIn G.K (.ref C) name = some none) (M : Mk H₀ H x d C fs) (hm : m "self" = some (.ref x))
    (hn : ((fs.map (·.1)).contains name || decide (100 < fs.length)) = false) (q : ∀ e H', Mk H₀ H' x d C (fs ++ [(name, e)]) → Ws G A env rest Q ⟨m, H'⟩) (hs : locOk env "self" = true := by with_unfolding_all exact Eq.refl true) :
    Ws G A env (.Assign [.Attribute (.Name "self" px) name ap] (.Dict [] [] dp) pos :: rest) Q ⟨m, H⟩ := by
  rw [Bool.or_eq_false_iff] at hn
  refine Ws_asga (W_Dict_empty O ?_)
  intro e he _ hlow
  refine We_L hm ?_ hs
  have x1 : Ext H (upd H e (.tab false [])) := Ext.new he
  have hl : fs.length ≤ 100 := by have := hn.2; simp at this; lia
  refine W_set O (x := x) (d := d) k ho (x1 _ _ M.inst) (x1 _ _ M.at_) (by rw [show (mkV fs).length = fs.length from List.length_map ..]; exact hl) ?_
  rw [puta_new _ _ _ (by unfold mkV; rw [List.map_map]; exact hn.1)]
  have ed : e ≠ d := fun q => by rw [q] at he; rw [show (St.mk m H).H d = _ from M.at_] at he; cases he
  have ex : e ≠ x := fun q => by rw [q] at he; rw [show (St.mk m H).H x = _ from M.inst] at he; cases he
  refine q e _ ⟨(M.ext.trans x1).mut M.d0, (upd_ne M.xd).trans (x1 _ _ M.inst), ?_, fun y hy => ?_, ?_, M.xd, M.d0⟩
  · rw [upd_same]; unfold mkV; rw [List.map_append]; rfl
  · rw [List.map_append] at hy
    rcases List.mem_append.mp hy with hy | hy
    · refine x0_3 (M.tabs y hy) ?_; intro h1 h2 h3
      exact ⟨(upd_ne (fun q => by rw [q, M.at_] at h1; cases h1)).trans (x1 _ _ h1), h2, h3⟩
    · obtain rfl : y = e := by simpa using hy
      exact ⟨(upd_ne ed).trans upd_same, M.ext.none he, hlow⟩
  · rw [List.map_append]
    refine List.nodup_append.mpr ⟨M.nd, by simp, fun y hy z hz => ?_⟩
    obtain rfl : z = e := by simpa using hz
    rintro rfl
    have := (M.tabs y hy).1
    rw [show H y = none from he] at this; cases this

theorem new_Facts (O : G.Ok) (K : KF G a) {n : Nat} (R : Rm A (n + 2)) {Q : Value → St → Prop}
    (q : ∀ F H', FS a σ.H H' F [] [] 0 → Q (.ref F.x) ⟨σ.m, H'⟩) : Wcall G A L (.ref a.cFacts) [] Q σ := by
  refine Wcall_new O K.o.k_Facts.made K.o.k_Facts.init K.o.k_Facts.fni.isFn ?_
  intro x d hx hd hxd hxL hdL us hus
  refine Wc_fun O K.o.k_Facts.fni (R.make (n := n + 1)).room ["self"] (bd1 fun _ _ _ _ _ _ _ _ => rfl) (by rfl) (by rfl) (by rfl) (by rfl) (by rfl) ?_
  intro L' qual cdv hL'
  have M : Mk σ.H (upd (upd σ.H d (.attrs false [])) x (.inst a.cFacts d)) x d a.cFacts [] := ⟨Ext.mut (Ext.new hd) hx, upd_same, (upd_ne (Ne.symm hxd)).trans upd_same, fun e he => (nomatch he), List.nodup_nil, hxd, hd⟩
  have hm : bindm ["self"] [.ref x] "self" = some (.ref x) := by with_unfolding_all rfl
  refine mk_step O K.o.k_Facts K.o.o_Facts_read M hm (by with_unfolding_all exact Eq.refl false) fun e0 H0 M => ?_
  refine mk_step O K.o.k_Facts K.o.o_Facts_set M hm (by with_unfolding_all exact Eq.refl false) fun e1 H1 M => ?_
  refine mk_step O K.o.k_Facts K.o.o_Facts_called M hm (by with_unfolding_all exact Eq.refl false) fun e2 H2 M => ?_
  refine mk_step O K.o.k_Facts K.o.o_Facts_bound M hm (by with_unfolding_all exact Eq.refl false) fun e3 H3 M => ?_
  refine mk_step O K.o.k_Facts K.o.o_Facts_caught M hm (by with_unfolding_all exact Eq.refl false) fun e4 H4 M => ?_
  refine mk_step O K.o.k_Facts K.o.o_Facts_parent M hm (by with_unfolding_all exact Eq.refl false) fun e5 H5 M => ?_
  refine mk_step O K.o.k_Facts K.o.o_Facts_lets M hm (by with_unfolding_all exact Eq.refl false) fun e6 H6 M => ?_
  refine mk_step O K.o.k_Facts K.o.o_Facts_inner M hm (by with_unfolding_all exact Eq.refl false) fun e7 H7 M => ?_
  refine mk_step O K.o.k_Facts K.o.o_Facts_read_globals M hm (by with_unfolding_all exact Eq.refl false) fun e8 H8 M => ?_
  refine mk_step O K.o.k_Facts K.o.o_Facts_set_globals M hm (by with_unfolding_all exact Eq.refl false) fun e9 H9 M => ?_
  refine Wt.frz (Frz.one M.at_) ?_
  refine Ws_nil ?_
  refine ⟨rfl, q ⟨x, d, e0, e1, e2, e3, e4, e5, e6, e7, e8, e9⟩ _ ?_⟩
  clear q
  have tabs : ∀ {o : MO}, ∀ e ∈ FAd.all ⟨x, d, e0, e1, e2, e3, e4, e5, e6, e7, e8, e9⟩, upd H9 d o e = some (.tab false []) ∧ σ.H e = none ∧ e ≠ sysModules := fun {o} e he => by
    (refine x0_3 (M.tabs e he) ?_; intro h1 h2 h3)
    exact ⟨(upd_ne (fun q => by rw [q, M.at_] at h1; cases h1)).trans h1, h2, h3⟩
  have it : ∀ {o : MO} {e : Addr}, e ∈ FAd.all ⟨x, d, e0, e1, e2, e3, e4, e5, e6, e7, e8, e9⟩ → ITab (upd H9 d o) e 0 := fun he => ⟨[], (tabs _ he).1, (fun p hp => nomatch hp), Nat.zero_le _⟩
  have at_ : ∀ {o : MO} {e : Addr}, e ∈ FAd.all ⟨x, d, e0, e1, e2, e3, e4, e5, e6, e7, e8, e9⟩ → ATab (upd H9 d o) e 0 := fun he => ⟨[], (tabs _ he).1, Nat.zero_le _⟩
  exact {
    ext := M.ext.mut hd
    new := fun e he => (tabs (o := .rng 0) e he).2.1
    obj := ⟨(upd_ne hxd).trans M.inst, upd_same, fun e he => (tabs (o := .rng 0) e he).2.2⟩
    nod := M.nd
    rd := it FAd.mem_read
    st := it FAd.mem_set
    cl := it FAd.mem_called
    rg := it FAd.mem_rg
    sg := it FAd.mem_sg
    bd := ⟨(tabs _ FAd.mem_bound).1, Nat.zero_le _⟩
    pr := ⟨(tabs _ FAd.mem_parent).1, Nat.zero_le _⟩
    ca := at_ FAd.mem_caught
    lt := at_ FAd.mem_lets
    inn := ⟨[], (tabs _ FAd.mem_inner).1, Nat.zero_le _, fun l hl => by simp [iget] at hl⟩ }

end -- MC12

section -- MC13
set_option maxRecDepth 20000
variable {G : Gl} {a : KA} {A : Around} {env : Env} {σ : St} {L : Addr}

theorem count_in (O : G.Ok) (K : KF G a) {n : Nat} (R : Rm A (n + 1)) {H : Hp} {cd : Addr} {k : Int} {es : List (Int × Value)} (hd : H cd = some (.tab false es)) (hl : cd ≠ sysModules) (hi : Ints es) (hz : es.length ≤ 1000000) {Q : Value → Hp → Prop}
    (q : ∀ i, Q .none (upd H cd (.tab false (tput k (.int i 0) es)))) : Wc G A (.ref a.f_count_in) [.ref cd, .int k 0] Q H := by
  refine Wc_fun O K.d.d_count_in.fn R.room ["counts", "key"] (bd2 fun _ _ _ _ _ _ _ _ _ => rfl) (by rfl) (by rfl) (by rfl) (by rfl) (by rfl) ?_
  intro L qual cdv hL
  refine x1_1 (hi.get (k := k)) ?_; intro i hi'
  refine Ws_cons ?_
  refine Wst_AssignSub ?_
  refine We_BinOp ?_
  refine We_MethodCall ?_
  refine We_L (by walk_at "v") ?_
  refine W_bcall (gm_tab hd PySem.F.slot_dict_get (by rfl)) ?_
  refine Wargs_l (by walk_at "v") ?_
  refine Wargs_c ?_
  refine We_Int ?_
  refine Wargs_nil ?_
  refine W_get2 hd hl ?_
  rw [hi']
  refine We_Int ?_
  refine W_add ?_
  refine We_L (by walk_at "v") ?_
  refine We_L (by walk_at "v") ?_
  refine W_setI hd hz ?_
  refine Ws_nil ?_
  exact q _

theorem times_read (O : G.Ok) (K : KF G a) {n : Nat} (R : Rm A (n + 1)) {H : Hp} {F : FAd} {k : Int} {z : Bool} {es : List (Int × Value)} (hf : FObj a H F) (hd : H F.read = some (.tab z es)) (hi : Ints es) {Q : Value → Hp → Prop} (q : ∀ i, (tget k es).getD (.int 0 0) = .int i 0 → Q (.int i 0) H) : Wc G A (.ref a.fFacts_times_read) [.ref F.x, .int k 0] Q H := by
  refine Wc_fun O K.m.m_Facts_times_read R.room ["self", "number"] (bd2 fun _ _ _ _ _ _ _ _ _ => rfl) (by rfl) (by rfl) (by rfl) (by rfl) (by rfl) ?_
  intro L qual cdv hL
  refine x1_1 (hi.get (k := k)) ?_; intro i hi'
  refine Ws_ret ?_
  refine We_MethodCall ?_
  refine We_own O K.o.k_Facts K.o.o_Facts_read hf.inst hf.at_ (by with_unfolding_all exact Eq.refl (some _)) (by walk_at "v") ?_
  refine W_bcall (gm_tab hd PySem.F.slot_dict_get (by rfl)) ?_
  refine Wargs_l (by walk_at "v") ?_
  refine Wargs_c ?_
  refine We_Int ?_
  refine Wargs_nil ?_
  refine W_get2 hd (hf.low _ FAd.mem_read) ?_
  rw [hi']
  exact q i hi'
theorem times_called (O : G.Ok) (K : KF G a) {n : Nat} (R : Rm A (n + 1)) {H : Hp} {F : FAd} {k : Int} {z : Bool} {es : List (Int × Value)} (hf : FObj a H F) (hd : H F.called = some (.tab z es)) (hi : Ints es) {Q : Value → Hp → Prop} (q : ∀ i, (tget k es).getD (.int 0 0) = .int i 0 → Q (.int i 0) H) : Wc G A (.ref a.fFacts_times_called) [.ref F.x, .int k 0] Q H := by
  refine Wc_fun O K.m.m_Facts_times_called R.room ["self", "number"] (bd2 fun _ _ _ _ _ _ _ _ _ => rfl) (by rfl) (by rfl) (by rfl) (by rfl) (by rfl) ?_
  intro L qual cdv hL
  refine x1_1 (hi.get (k := k)) ?_; intro i hi'
  refine Ws_ret ?_
  refine We_MethodCall ?_
  refine We_own O K.o.k_Facts K.o.o_Facts_called hf.inst hf.at_ (by with_unfolding_all exact Eq.refl (some _)) (by walk_at "v") ?_
  refine W_bcall (gm_tab hd PySem.F.slot_dict_get (by rfl)) ?_
  refine Wargs_l (by walk_at "v") ?_
  refine Wargs_c ?_
  refine We_Int ?_
  refine Wargs_nil ?_
  refine W_get2 hd (hf.low _ FAd.mem_called) ?_
  rw [hi']
  exact q i hi'
theorem facts_is_set (O : G.Ok) (K : KF G a) {n : Nat} (R : Rm A (n + 1)) {H : Hp} {F : FAd} {k : Int} {z : Bool} {es : List (Int × Value)} (hf : FObj a H F) (hd : H F.set = some (.tab z es)) (hi : Ints es) {Q : Value → Hp → Prop} (q : ∀ i, (tget k es).getD (.int 0 0) = .int i 0 → Q (.bool (decide (0 < i))) H) : Wc G A (.ref a.fFacts_is_set) [.ref F.x, .int k 0] Q H := by
  refine Wc_fun O K.m.m_Facts_is_set R.room ["self", "number"] (bd2 fun _ _ _ _ _ _ _ _ _ => rfl) (by rfl) (by rfl) (by rfl) (by rfl) (by rfl) ?_
  intro L qual cdv hL
  refine x1_1 (hi.get (k := k)) ?_; intro i hi'
  refine Ws_ret ?_
  refine We_Compare ?_
  refine We_MethodCall ?_
  refine We_own O K.o.k_Facts K.o.o_Facts_set hf.inst hf.at_ (by with_unfolding_all exact Eq.refl (some _)) (by walk_at "v") ?_
  refine W_bcall (gm_tab hd PySem.F.slot_dict_get (by rfl)) ?_
  refine Wargs_l (by walk_at "v") ?_
  refine Wargs_c ?_
  refine We_Int ?_
  refine Wargs_nil ?_
  refine W_get2 hd (hf.low _ FAd.mem_set) ?_
  rw [hi']
  refine We_Int ?_
  refine W_gt ?_
  exact q i hi'


/-- the walk up to where the number is bound -/
theorem facts_meet (O : G.Ok) (K : KF G a) {n : Nat} (R : Rm A (n + 1)) {H₀ H : Hp} {F : FAd} {bm pm path : List (Int × Int)} {c : Nat} {k l : Int} (S : FS a H₀ H F bm pm c) (hp : PathOk bm pm path) (hk : ∃ p ∈ path, p.2 = k) (hl : labOf path = l) (hz : c + 2 * path.length + 2 ≤ 1000000) {Q : Value → Hp → Prop}
    (q : ∀ H', FS a H₀ H' F bm pm (c + 2 * path.length) → Ext H₀ H' → (∀ x o, (∀ es, o ≠ .tab false es) → H x = some o → H' x = some o) → Q .none H') : Wc G A (.ref a.fFacts_meet) [.ref F.x, .int k 0, .int l 0] Q H := by
  refine Wc_fun O K.m.m_Facts_meet R.room ["self", "number", "label"] (bd3 fun _ _ _ _ _ _ _ _ _ _ => rfl) (by rfl) (by rfl) (by rfl) (by rfl) (by rfl) ?_
  intro L qual cdv hL
  refine Ws_asg ?_
  refine We_L (by walk_at "v") ?_
  try dsimp only
  refine Ws_cons ?_
  refine Wst_While (fun j σ => ∃ pre path', path = pre ++ path' ∧ j = path'.length ∧ σ.m "self" = some (.ref F.x) ∧ σ.m "number" = some (.int k 0) ∧ σ.m "at" = some (.int (labOf path') 0) ∧ PathOk bm pm path' ∧ (∃ p ∈ path', p.2 = k) ∧ FS a H₀ σ.H F bm pm (c + 2 * pre.length) ∧ (∀ x o, (∀ es, o ≠ .tab false es) → H x = some o → σ.H x = some o)) path.length ?_ ?_
  · exact ⟨[], path, rfl, rfl, by walk_at "v", by walk_at "v", by rw [hl]; walk_at "v", hp, hk, S, fun _ _ _ h => h⟩
  intro j hq1
  obtain ⟨mm, HH⟩ := hq1
  intro hq2
  refine x2_9 hq2 ?_; (try clear hq2); intro pre path' hpp rfl m1 m2 m3 hp' hk' S' hkeep
  dsimp only at m1 m2 m3 S' hkeep
  have hlen : path.length = pre.length + path'.length := by rw [hpp, List.length_append]
  obtain ⟨b, hb⟩ : ∃ b, iget k bm = some b := by
    (refine x1_2 hk' ?_; (try clear hk'); intro p hm rfl)
    clear hpp m3 hlen
    induction path' with
    | nil => cases hm
    | cons p' r ih =>
      rcases List.mem_cons.mp hm with rfl | hm
      · exact ⟨_, hp'.2.1⟩
      · exact ih hp'.2.2 hm
  refine Wb_Compare ?_
  refine We_L (by walk_at "v") ?_
  refine We_Subscript ?_
  refine We_own O K.o.k_Facts K.o.o_Facts_bound S'.obj.inst S'.obj.at_ (by with_unfolding_all exact Eq.refl (some _)) (by walk_at "v") ?_
  refine We_L (by walk_at "v") ?_
  refine W_item_tab S'.bd.1 (v := .int b 0) (by rw [tget_im, hb]; rfl) ?_
  refine W_ne ?_
  refine W_truthy_bool ?_
  refine ifs (fun _ => ?_) (fun _ => ?_)
  · rename_i hne
    have hne : labOf path' ≠ b := by simpa using hne
    cases path' with
    | nil => (refine x1_2 hk' ?_; (try clear hk'); intro p hm _); cases hm
    | cons p r =>
    have hkr : ∃ p ∈ r, p.2 = k := by
      (refine x1_2 hk' ?_; (try clear hk'); intro p' hm hp2)
      rcases List.mem_cons.mp hm with rfl | hm
      · exfalso
        have := hp'.2.1
        rw [hp2, hb] at this
        cases this
        exact hne rfl
      · exact ⟨p', hm, hp2⟩
    have hlab : labOf (p :: r) = p.1 := rfl
    rw [hlab] at m3
    refine x1_3 S'.inn ?_; intro ies i1 i2 i3
    refine x1_5 (i3 p.1 (by rw [hp'.1]; rfl)) ?_; intro d d1 hq3 d3 d4 d5
    refine x1_2 hq3 ?_; (try clear hq3); intro es d2 d2'
    refine Ws_cons ?_
    refine Wst_AssignSub ?_
    refine We_Bool ?_
    refine We_Subscript ?_
    refine We_own O K.o.k_Facts K.o.o_Facts_inner S'.obj.inst S'.obj.at_ (by with_unfolding_all exact Eq.refl (some _)) (by walk_at "v") ?_
    refine We_L (by walk_at "v") ?_
    refine W_item_tab i1 d1 ?_
    refine We_L (by walk_at "v") ?_
    intro v' u' k' hv' hu' hk'
    obtain rfl := er_ref hu'
    rw [List.length_cons] at hlen
    refine W_setItem_tab d2 (by lia) ?_ k' hk'
    rw [hv']
    have S1 := S'.put_at i1 d1 d2 d3 d5 (es' := tput k (.bool true) es) (Nat.le_trans (tput_length _ _ _) (Nat.succ_le_succ d2'))
    have kp1 : ∀ x o, (∀ es, o ≠ .tab false es) → H x = some o → upd HH d (.tab false (tput k (.bool true) es)) x = some o := fun x o ho e => (upd_ne (fun q => by
      have := hkeep x o ho e
      rw [q, d2] at this
      cases this
      exact ho _ rfl)).trans (hkeep x o ho e)
    show Ws G _ _ _ _ ⟨_, upd HH d (.tab false (tput k (.bool true) es))⟩
    generalize upd HH d (.tab false (tput k (.bool true) es)) = H1 at S1 kp1
    have fin : ∀ H2 c2, FS a H₀ H2 F bm pm c2 → c2 ≤ c + 2 * (pre.length + 1) → (∀ x o, (∀ es, o ≠ .tab false es) → H x = some o → H2 x = some o) →
        Ws G (A.deeper (envOf qual (scopeOf (methAt 47 6)) L a.fFacts_meet cdv)) (envOf qual (scopeOf (methAt 47 6)) L a.fFacts_meet cdv) [] (fun _ _ => True) ⟨mm, H2⟩ → FS a H₀ H2 F bm pm (c + 2 * (pre.length + 1)) := fun H2 c2 S2 hc _ _ => S2.keep (fun _ _ _ e => e) (.refl _) S2.ext hc
    refine x1_2 S1.lt ?_; intro les l1 l2
    refine Ws_cons ?_
    refine Wt.mono (Q := fun fl' σ₁ => fl' = .next ∧ σ₁.m = mm ∧ FS a H₀ σ₁.H F bm pm (c + 2 * (pre.length + 1)) ∧ (∀ x o, (∀ es, o ≠ .tab false es) → H x = some o → σ₁.H x = some o)) ?_ ?_
    · refine Wst_If ?_
      refine Wb_Compare ?_
      refine We_L (by walk_at "v") ?_
      refine We_own O K.o.k_Facts K.o.o_Facts_lets S1.obj.inst S1.obj.at_ (by with_unfolding_all exact Eq.refl (some _)) (by walk_at "v") ?_
      refine W_notIn l1 (S1.obj.low _ FAd.mem_lets) ?_
      refine W_truthy_bool ?_
      refine x1_2 S1.ca ?_; intro ces c1 c2
      refine ifs (fun _ => ?_) (fun _ => ?_)
      · refine Ws_cons ?_
        refine Wst_AssignSub ?_
        refine We_Bool ?_
        refine We_own O K.o.k_Facts K.o.o_Facts_caught S1.obj.inst S1.obj.at_ (by with_unfolding_all exact Eq.refl (some _)) (by walk_at "v") ?_
        refine We_L (by walk_at "v") ?_
        refine W_setI c1 (by lia) ?_
        refine Ws_nil ?_
        refine ⟨rfl, rfl, (S1.put_caught (es := tput k (.bool true) ces) (Nat.le_trans (tput_length _ _ _) (Nat.succ_le_succ c2))).keep (fun _ _ _ e => e) (.refl _) (S1.ext.mut (S1.new _ FAd.mem_caught)) (by lia), fun x o ho e => (upd_ne (fun q => by
          have := kp1 x o ho e
          rw [q, c1] at this
          cases this
          exact ho _ rfl)).trans (kp1 x o ho e)⟩
      · refine Ws_nil ?_
        exact ⟨rfl, rfl, S1.keep (fun _ _ _ e => e) (.refl _) S1.ext (by lia), kp1⟩
    intro _ hq4
    obtain ⟨m1', H2⟩ := hq4
    intro hq5
    refine x0_4 hq5 ?_; (try clear hq5); intro rfl hm1 S2 kp2
    try dsimp only at hm1 S2 kp2 ⊢
    subst hm1
    refine Ws_asg ?_
    refine We_Subscript ?_
    refine We_own O K.o.k_Facts K.o.o_Facts_parent S2.obj.inst S2.obj.at_ (by with_unfolding_all exact Eq.refl (some _)) (by walk_at "v") ?_
    refine We_L (by walk_at "v") ?_
    refine W_item_tab S2.pr.1 (v := .int (labOf r) 0) (by rw [tget_im, hp'.1]; rfl) ?_
    try dsimp only
    refine Ws_nil ?_
    refine ⟨r.length, Nat.lt_succ_self _, pre ++ [p], r, by rw [hpp]; simp, rfl, by walk_at "v", by walk_at "v", by walk_at "v", hp'.2.2, hkr, ?_, kp2⟩
    rw [List.length_append]
    exact S2
  · refine Ws_nil ?_
    exact q HH (S'.keep (fun _ _ _ e => e) (.refl _) S'.ext (by lia)) S'.ext hkeep

end -- MC13

section -- MC14
set_option maxRecDepth 20000
variable {G : Gl} {a : KA} {A : Around} {env : Env} {σ : St} {L : Addr}

/-- all but the dicts that may turn -/
noncomputable def KP (H H' : Hp) : Prop := ∀ x o, (∀ es, o ≠ .tab false es) → H x = some o → H' x = some o
theorem KP.le {H H' : Hp} (h : KP H H') : Le H H' := fun x o z e => h x o (fun es q => by rw [q] at z; cases z) e
theorem KP.refl (H : Hp) : KP H H := fun _ _ _ h => h
theorem KP.trans {H H' H'' : Hp} (h : KP H H') (h' : KP H' H'') : KP H H'' := fun x o z e => h' x o z (h x o z e)
theorem Ext.kp {H H' : Hp} (h : Ext H H') : KP H H' := fun x o _ e => h x o e
theorem KP.tab {H : Hp} {x : Addr} {es : List (Int × Value)} {o : MO} (h : H x = some (.tab false es)) : KP H (upd H x o) := fun y o' ho e => (upd_ne (fun q => by rw [q, h] at e; cases e; exact ho _ rfl)).trans e

/-- what a node adds to where numbers are bound, and to the lambdas' parents -/
noncomputable def nb (t : T) (bm : List (Int × Int)) : List (Int × Int) := match t with
  | .lam l p _ => iput p l bm
  | _ => bm
noncomputable def np (t : T) (lab : Int) (pm : List (Int × Int)) : List (Int × Int) := match t with
  | .lam l _ _ => iput l lab pm
  | _ => pm

theorem note_node (O : G.Ok) (K : KF G a) {n : Nat} (R : Rm A (n + 3)) {H₀ H : Hp} {F : FAd} {bm pm path : List (Int × Int)} {c : Nat} {t : T} {x : Addr} (S : FS a H₀ H F bm pm c) (ht : Rep a H t x) (hp : PathOk bm pm path) (hloc : ∀ k, t = .loc k → ∃ p ∈ path, p.2 = k) (hlam : ∀ l p b, t = .lam l p b → iget l pm = none)
    (hz : c + 2 * path.length + 8 ≤ 1000000) {Q : Value → Hp → Prop} (q : ∀ H', FS a H₀ H' F (nb t bm) (np t (labOf path) pm) (c + 2 * path.length + 4) → KP H H' → Q .none H') : Wc G A (.ref a.f_note_node) [.ref F.x, .ref x, .int (labOf path) 0] Q H := by
  refine Wc_fun O K.d.d_note_node.fn R.room ["facts", "node", "label"] (bd3 fun _ _ _ _ _ _ _ _ _ _ => rfl) (by rfl) (by rfl) (by rfl) (by rfl) (by rfl) ?_
  intro L qual cdv hL
  have R1 : Rm (A.deeper (envOf qual (scopeOf (stmtAt 49)) L a.f_note_node cdv)) (n + 2) := R.deeper
  refine Ws_cons ?_
  refine Wst_If ?_
  refine Wb_kind O K ht K.c.g_LOCAL (by walk_at "v") ?_
  refine ifs (fun _ => ?_) (fun _ => ?_)
  · rename_i hk
    obtain ⟨k, rfl⟩ : ∃ k, t = .loc k := by cases t <;> simp [T.kind] at hk; exact ⟨_, rfl⟩
    refine x1_2 ht ?_; (try clear ht); intro d h1 h2
    refine x1_3 S.rd ?_; intro es e1 e2 e3
    refine Ws_cons ?_
    refine Wst_Expr ?_
    refine We_callK O K.d.d_count_in.glob K.d.d_count_in.fn.keep ?_
    refine Wargs_c ?_
    refine We_own O K.o.k_Facts K.o.o_Facts_read S.obj.inst S.obj.at_ (by with_unfolding_all exact Eq.refl (some _)) (by walk_at "v") ?_
    refine Wargs_c ?_
    refine We_own O K.n.k_Local K.n.o_Local_number h1 h2 (by with_unfolding_all exact Eq.refl (some _)) (by walk_at "v") ?_
    refine Wargs_nil ?_
    refine Wcall_of ?_
    refine count_in O K (R1.le (k := 1) (by lia)) e1 (S.obj.low _ FAd.mem_read) e2 (by lia) ?_
    intro i
    have S1 := S.put_read (es := tput k (.int i 0) es) e2.tput (Nat.le_trans (tput_length _ _ _) (Nat.succ_le_succ e3))
    have kp1 : KP H (upd H F.read (.tab false (tput k (.int i 0) es))) := KP.tab e1
    refine ⟨(fun _ h => by cases h), ?_⟩
    generalize upd H F.read (.tab false (tput k (.int i 0) es)) = H1 at S1 kp1
    have h1' := kp1.le _ _ rfl h1
    have h2' := kp1.le _ _ rfl h2
    try dsimp only
    refine Ws_cons ?_
    refine Wst_Expr ?_
    refine We_MethodCall ?_
    refine We_L (by walk_at "v") ?_
    refine W_mcall O K.o.k_Facts K.m.m_Facts_meet K.m.a_Facts_meet S1.obj.inst S1.obj.at_ (by with_unfolding_all rfl) ?_
    refine Wargs_c ?_
    refine We_own O K.n.k_Local K.n.o_Local_number h1' h2' (by with_unfolding_all exact Eq.refl (some _)) (by walk_at "v") ?_
    refine Wargs_l (by walk_at "v") ?_
    refine Wargs_nil ?_
    refine facts_meet O K (R1.le (k := 1) (by lia)) S1 hp (hloc k rfl) rfl (by lia) ?_
    intro H2 S2 _ kp2
    refine ⟨(fun _ h => by cases h), ?_⟩
    try dsimp only
    refine Ws_nil ?_
    refine Ws_nil ?_
    exact q H2 (S2.keep (fun _ _ _ e => e) (.refl _) S2.ext (by lia)) (kp1.trans kp2)
  rename_i hk1
  refine Ws_cons ?_
  refine Wst_If ?_
  refine Wb_kind O K ht K.c.g_SET_LOCAL (by walk_at "v") ?_
  refine iff_ (by cases t <;> simp [T.kind]) ?_
  refine Ws_cons ?_
  refine Wst_If ?_
  refine Wb_kind O K ht K.c.g_GLOBAL (by walk_at "v") ?_
  refine ifs (fun _ => ?_) (fun _ => ?_)
  · rename_i hk
    obtain rfl : t = .glob := by cases t <;> simp [T.kind] at hk; rfl
    refine x1_2 ht ?_; (try clear ht); intro d h1 h2
    refine x1_3 S.rg ?_; intro es e1 e2 e3
    refine Ws_cons ?_
    refine Wst_Expr ?_
    refine We_callK O K.d.d_count_in.glob K.d.d_count_in.fn.keep ?_
    refine Wargs_c ?_
    refine We_own O K.o.k_Facts K.o.o_Facts_read_globals S.obj.inst S.obj.at_ (by with_unfolding_all exact Eq.refl (some _)) (by walk_at "v") ?_
    refine Wargs_c ?_
    refine We_own O K.n.k_Global K.n.o_Global_symbol h1 h2 (by with_unfolding_all exact Eq.refl (some _)) (by walk_at "v") ?_
    refine Wargs_nil ?_
    refine Wcall_of ?_
    refine count_in O K (R1.le (k := 1) (by lia)) e1 (S.obj.low _ FAd.mem_rg) e2 (by lia) ?_
    intro i
    have S1 := S.put_rg (es := tput 0 (.int i 0) es) e2.tput (Nat.le_trans (tput_length _ _ _) (Nat.succ_le_succ e3))
    refine ⟨(fun _ h => by cases h), ?_⟩
    try dsimp only
    refine Ws_nil ?_
    refine Ws_nil ?_
    refine Ws_nil ?_
    refine Ws_nil ?_
    exact q _ (S1.keep (fun _ _ _ e => e) (.refl _) S1.ext (by lia)) (KP.tab e1)
  rename_i hk2
  refine Ws_cons ?_
  refine Wst_If ?_
  refine Wb_Compare ?_
  refine We_at ?_
  refine We_L (by walk_at "v") ?_
  refine W_kindT O K ht ?_
  refine We_Tuple ?_
  refine Wargs_c ?_
  refine We_GI O K.c.g_SET_GLOBAL ?_
  refine Wargs_c ?_
  refine We_GI O K.c.g_DEFINE ?_
  refine Wargs_nil ?_
  refine ⟨Nat.le_of_ble_eq_true rfl, fun tp htp htpL => ?_⟩
  try dsimp only at htp ⊢
  have hE0 : Ext H (upd H tp (.tuple [.int 4 0, .int 5 0])) := Ext.new htp
  refine W_in_tuple_ints (ns := [4, 5]) upd_same ?_
  refine W_truthy_bool ?_
  refine iff_ (by cases t <;> simp [T.kind]) ?_
  have S0 := S.keep hE0.tk hE0.le (S.ext.trans hE0) (Nat.le_refl c)
  have ht0 := ht.mono hE0.le
  generalize upd H tp (.tuple [.int 4 0, .int 5 0]) = H0 at hE0 S0 ht0
  refine Ws_cons ?_
  refine Wst_If ?_
  refine Wb_kind O K ht0 K.c.g_FIX (by walk_at "v") ?_
  refine iff_ (by cases t <;> simp [T.kind]) ?_
  refine Ws_cons ?_
  refine Wst_If ?_
  refine Wb_kind O K ht0 K.c.g_LAMBDA (by walk_at "v") ?_
  refine ifs (fun _ => ?_) (fun _ => ?_)
  · rename_i hk
    obtain ⟨l, p, b, rfl⟩ : ∃ l p b, t = .lam l p b := by cases t <;> simp [T.kind] at hk; exact ⟨_, _, _, rfl⟩
    have ht1 := ht0
    refine x3_4 ht0 ?_; (try clear ht0); intro d pl y h1 h2 h3 h4
    refine x1_3 S0.inn ?_; intro ies i1 i2 i3
    have hlp := hlam l p b rfl
    refine Ws_cons ?_
    refine Wst_AssignSub ?_
    refine We_L (by walk_at "v") ?_
    refine We_own O K.o.k_Facts K.o.o_Facts_parent S0.obj.inst S0.obj.at_ (by with_unfolding_all exact Eq.refl (some _)) (by walk_at "v") ?_
    refine We_own O K.n.k_Lambda K.n.o_Lambda_label h1 h2 (by with_unfolding_all exact Eq.refl (some _)) (by walk_at "v") ?_
    refine W_setI S0.pr.1 (by rw [im_length]; have := S0.pr.2; lia) ?_
    rw [tput_im]
    have kp1 : KP H0 (upd H0 F.parent (.tab false (im (iput l (labOf path) pm)))) := KP.tab S0.pr.1
    have h1' := kp1.le _ _ rfl h1
    have h2' := kp1.le _ _ rfl h2
    have i1' : upd H0 F.parent (.tab false (im (iput l (labOf path) pm))) F.inner = some (.tab false ies) := (upd_ne (FAd.ne_inner_parent S0.nod)).trans i1
    have o1 := S0.obj.mono kp1.le
    try dsimp only
    refine Ws_cons ?_
    refine Wst_AssignSub ?_
    refine W_Dict_empty O ?_
    intro dd hdd hddL hdlow
    try dsimp only at hdd ⊢
    have hdd0 : H0 dd = none := upd_none hdd
    have kp2 : KP (upd H0 F.parent (.tab false (im (iput l (labOf path) pm)))) (upd (upd H0 F.parent (.tab false (im (iput l (labOf path) pm)))) dd (.tab false [])) := (Ext.new hdd).kp
    have o2 := o1.mono kp2.le
    have i1'' : upd (upd H0 F.parent (.tab false (im (iput l (labOf path) pm)))) dd (.tab false []) F.inner = some (.tab false ies) := (Ext.new hdd) _ _ i1'
    have h1'' := kp2.le _ _ rfl h1'
    have h2'' := kp2.le _ _ rfl h2'
    refine We_own O K.o.k_Facts K.o.o_Facts_inner o2.inst o2.at_ (by with_unfolding_all exact Eq.refl (some _)) (by walk_at "v") ?_
    refine We_own O K.n.k_Lambda K.n.o_Lambda_label h1'' h2'' (by with_unfolding_all exact Eq.refl (some _)) (by walk_at "v") ?_
    refine W_setI i1'' (by lia) ?_
    have S3 := S0.put_lam (i := labOf path) (d := dd) i1 hlp hdd0 hdlow
    have kp3 : KP H0 (upd (upd (upd H0 F.parent (.tab false (im (iput l (labOf path) pm)))) dd (.tab false [])) F.inner (.tab false (tput l (.ref dd) ies))) := (kp1.trans kp2).trans (KP.tab i1'')
    have ht3 := ht1.mono kp3.le
    try dsimp only
    generalize upd (upd (upd H0 F.parent (.tab false (im (iput l (labOf path) pm)))) dd (.tab false [])) F.inner (.tab false (tput l (.ref dd) ies)) = H3 at S3 kp3 ht3
    have ht4 := ht3
    refine x3_4 ht4 ?_; (try clear ht4); intro d' pl' y' g1 g2 g3 g4
    refine Ws_cons ?_
    refine Wst_For_list R1.hd ?_
    refine We_MethodCall ?_
    refine We_L (by walk_at "v") ?_
    refine W_mcall0 O K.n.k_Lambda K.m.m_Lambda_binders K.m.a_Lambda_binders g1 g2 (by with_unfolding_all rfl) ?_
    refine lambda_binders O K (R1.le (k := 1) (by lia)) ht3 ?_
    intro bl H4 hE4 hbl0 hbl
    have S4 := S3.keep hE4.tk hE4.le (S3.ext.trans hE4) (Nat.le_refl _)
    have kp4 := kp3.trans hE4.kp
    have ht4 := ht3.mono hE4.le
    refine ⟨bl, [.int p 0], fun i σ₂ => σ₂.m "facts" = some (.ref F.x) ∧ σ₂.m "node" = some (.ref x) ∧ KP H4 σ₂.H ∧ ((i = 0 ∧ σ₂.H = H4) ∨ (i = 1 ∧ FS a H₀ σ₂.H F (iput p l bm) (iput l (labOf path) pm) (c + 1 + 1))), rfl, ?_⟩
    refine ⟨⟨by walk_at "v", by walk_at "v", KP.refl _, .inl ⟨rfl, rfl⟩⟩, fun i σ₂ h => ⟨false, h.2.2.1 _ _ (fun _ q => by cases q) hbl⟩, ?_, ?_⟩
    · intro i v hq1
      obtain ⟨mm, HH⟩ := hq1
      intro hv hq2
      refine x0_4 hq2 ?_; (try clear hq2); intro n1 n2 n3 n4
      intro u hu
      dsimp only at n1 n2 n3 n4
      obtain rfl : i = 0 := by have := (List.getElem?_eq_some_iff.mp hv).1; simpa using this
      obtain rfl : v = .int p 0 := by simpa using hv.symm
      rcases n4 with ⟨_, rfl⟩ | ⟨h, _⟩
      · refine x3_4 ht4 ?_; (try clear ht4); intro d'' pl'' y'' g1 g2 g3 g4
        refine W_nm hu ?_
        refine Ws_cons ?_
        refine Wst_AssignSub ?_
        refine We_own O K.n.k_Lambda K.n.o_Lambda_label g1 g2 (by with_unfolding_all exact Eq.refl (some _)) (by walk_at "v") ?_
        refine We_own O K.o.k_Facts K.o.o_Facts_bound S4.obj.inst S4.obj.at_ (by with_unfolding_all exact Eq.refl (some _)) (by walk_at "v") ?_
        refine We_L (by walk_at "v") ?_
        refine W_setI S4.bd.1 (by rw [im_length]; have := S4.bd.2; lia) ?_
        rw [tput_im]
        try dsimp only
        refine Ws_nil ?_
        exact ⟨by walk_at "v", by walk_at "v", KP.tab S4.bd.1, .inr ⟨rfl, S4.put_bound (Nat.le_trans (iput_length _ _ _) (Nat.succ_le_succ S4.bd.2))⟩⟩
      · cases h
    · intro hq3
      obtain ⟨mm, HH⟩ := hq3
      intro hq4
      refine x0_4 hq4 ?_; (try clear hq4); intro n1 n2 n3 n4
      dsimp only at n1 n2 n3 n4
      rcases n4 with ⟨h, _⟩ | ⟨_, n4⟩
      · cases h
      refine Ws_nil ?_
      refine Ws_nil ?_
      refine Ws_nil ?_
      refine Ws_nil ?_
      refine Ws_nil ?_
      refine Ws_nil ?_
      refine Ws_nil ?_
      exact q HH (n4.keep (fun _ _ _ e => e) (.refl _) n4.ext (by lia)) (hE0.kp.trans (kp4.trans n3))
  rename_i hk3
  have hnb : nb t bm = bm := by cases t <;> first | rfl | (simp [T.kind] at hk3)
  have hnp : np t (labOf path) pm = pm := by cases t <;> first | rfl | (simp [T.kind] at hk3)
  rw [hnb, hnp] at q
  refine Ws_cons ?_
  refine Wst_If ?_
  refine Wb_kind O K ht0 K.c.g_CALL (by walk_at "v") ?_
  refine ifs (fun _ => ?_) (fun _ => ?_)
  · rename_i hk
    have hk : t.kind = 8 := by simpa using hk
    refine x5_6 (call_parts_of ht0 hk) ?_; intro dc y ol ff vs h1 h2 h3 h4 h5 h6
    refine Ws_cons ?_
    refine Wt.mono (Q := fun fl' σ₁ => fl' = .next ∧ σ₁.m = bindm ["facts", "node", "label"] [.ref F.x, .ref x, .int (labOf path) 0] ∧ FS a H₀ σ₁.H F bm pm (c + 1) ∧ KP H0 σ₁.H) ?_ ?_
    · refine Wst_If ?_
      refine Wb_Compare ?_
      refine We_at ?_
      refine We_own O K.n.k_Call K.n.o_Call_operator h1 h2 (by with_unfolding_all exact Eq.refl (some _)) (by walk_at "v") ?_
      refine W_kindT O K h4 ?_
      refine We_GI O K.c.g_LOCAL ?_
      refine W_eq ?_
      refine W_truthy_bool ?_
      refine ifs (fun _ => ?_) (fun _ => ?_)
      · rename_i hl
        obtain ⟨k, rfl⟩ : ∃ k, ff = .loc k := by cases ff <;> simp [T.kind] at hl; exact ⟨_, rfl⟩
        refine x1_2 h4 ?_; (try clear h4); intro dl k1 k2
        refine x1_3 S0.cl ?_; intro es e1 e2 e3
        refine Ws_cons ?_
        refine Wst_Expr ?_
        refine We_callK O K.d.d_count_in.glob K.d.d_count_in.fn.keep ?_
        refine Wargs_c ?_
        refine We_own O K.o.k_Facts K.o.o_Facts_called S0.obj.inst S0.obj.at_ (by with_unfolding_all exact Eq.refl (some _)) (by walk_at "v") ?_
        refine Wargs_c ?_
        refine We_at ?_
        refine We_own O K.n.k_Call K.n.o_Call_operator h1 h2 (by with_unfolding_all exact Eq.refl (some _)) (by walk_at "v") ?_
        refine W_own O K.n.k_Local K.n.o_Local_number k1 k2 (by with_unfolding_all rfl) ?_
        refine Wargs_nil ?_
        refine Wcall_of ?_
        refine count_in O K (R1.le (k := 1) (by lia)) e1 (S0.obj.low _ FAd.mem_called) e2 (by lia) ?_
        intro i
        refine ⟨(fun _ h => by cases h), ?_⟩
        try dsimp only
        refine Ws_nil ?_
        exact ⟨rfl, rfl, S0.put_called (es := tput k (.int i 0) es) e2.tput (Nat.le_trans (tput_length _ _ _) (Nat.succ_le_succ e3)), KP.tab e1⟩
      · refine Ws_nil ?_
        exact ⟨rfl, rfl, S0.keep (fun _ _ _ e => e) (.refl _) S0.ext (Nat.le_succ c), KP.refl _⟩
    intro _ hq5
    obtain ⟨mm, H1⟩ := hq5
    intro hq6
    refine x0_4 hq6 ?_; (try clear hq6); intro rfl hm1 S1 kp1
    try dsimp only at hm1 S1 kp1 ⊢
    subst hm1
    have ht1 := ht0.mono kp1.le
    refine Ws_cons ?_
    refine Wst_If ?_
    refine Wb_value ?_
    refine We_callK O K.d.d_is_let.glob K.d.d_is_let.fn.keep ?_
    refine Wargs_l (by walk_at "v") ?_
    refine Wargs_nil ?_
    refine Wcall_of ?_
    refine is_let O K (R1.le (k := 1) (by lia)) ht1 ?_
    refine W_truthy_bool ?_
    refine ifs (fun _ => ?_) (fun _ => ?_)
    · rename_i hlet
      obtain ⟨f, g, rfl, hfl⟩ : ∃ f g, t = .call1 f g ∧ f.isLam = true := by cases t <;> simp [T.isLet] at hlet; exact ⟨_, _, rfl, hlet⟩
      obtain ⟨l, p, b, rfl⟩ : ∃ l p b, f = .lam l p b := by cases f <;> simp [T.isLam] at hfl; exact ⟨_, _, _, rfl⟩
      refine x4_5 ht1 ?_; (try clear ht1); intro d2 y2 ol2 z2 g1 g2 g3 hq7 _
      refine x3_3 hq7 ?_; (try clear hq7); intro d3 pl3 y3 g4 g5 _
      refine x1_2 S1.lt ?_; intro les l1 l2
      refine Ws_cons ?_
      refine Wst_AssignSub ?_
      refine We_Bool ?_
      refine We_own O K.o.k_Facts K.o.o_Facts_lets S1.obj.inst S1.obj.at_ (by with_unfolding_all exact Eq.refl (some _)) (by walk_at "v") ?_
      refine We_at ?_
      refine We_own O K.n.k_Call K.n.o_Call_operator g1 g2 (by with_unfolding_all exact Eq.refl (some _)) (by walk_at "v") ?_
      refine W_own O K.n.k_Lambda K.n.o_Lambda_label g4 g5 (by with_unfolding_all rfl) ?_
      refine W_setI l1 (by lia) ?_
      have S2 := S1.put_lets (es := tput l (.bool true) les) (Nat.le_trans (tput_length _ _ _) (Nat.succ_le_succ l2))
      try dsimp only
      refine Ws_nil ?_
      refine Ws_nil ?_
      refine Ws_nil ?_
      refine Ws_nil ?_
      refine Ws_nil ?_
      refine Ws_nil ?_
      refine Ws_nil ?_
      refine Ws_nil ?_
      refine Ws_nil ?_
      exact q _ (S2.keep (fun _ _ _ e => e) (.refl _) S2.ext (by lia)) (hE0.kp.trans (kp1.trans (KP.tab l1)))
    · refine Ws_nil ?_
      refine Ws_nil ?_
      refine Ws_nil ?_
      refine Ws_nil ?_
      refine Ws_nil ?_
      refine Ws_nil ?_
      refine Ws_nil ?_
      refine Ws_nil ?_
      refine Ws_nil ?_
      exact q _ (S1.keep (fun _ _ _ e => e) (.refl _) S1.ext (by lia)) (hE0.kp.trans kp1)
  · refine Ws_nil ?_
    refine Ws_nil ?_
    refine Ws_nil ?_
    refine Ws_nil ?_
    refine Ws_nil ?_
    refine Ws_nil ?_
    refine Ws_nil ?_
    refine Ws_nil ?_
    exact q _ (S0.keep (fun _ _ _ e => e) (.refl _) S0.ext (by lia)) hE0.kp

end -- MC14

section -- MC15
set_option maxRecDepth 20000
variable {G : Gl} {a : KA} {A : Around} {env : Env} {σ : St} {L : Addr}

namespace T
noncomputable def labs : T → List Int
  | lam l _ b => l :: b.labs
  | call1 f x => f.labs ++ x.labs
  | call2 f x y => f.labs ++ (x.labs ++ y.labs)
  | _ => []
noncomputable def prms : T → List Int
  | lam _ p b => p :: b.prms
  | call1 f x => f.prms ++ x.prms
  | call2 f x y => f.prms ++ (x.prms ++ y.prms)
  | _ => []
/-- every local stands under its lambda -/
noncomputable def und (ps : List Int) : T → Prop
  | loc n => n ∈ ps
  | lam _ p b => b.und (p :: ps)
  | call1 f x => f.und ps ∧ x.und ps
  | call2 f x y => f.und ps ∧ x.und ps ∧ y.und ps
  | _ => True
end T
noncomputable def wpath (t : T) (path : List (Int × Int)) : List (Int × Int) := match t with
  | .lam l p _ => (l, p) :: path
  | _ => path

/-- what waits, with the lambdas about it -/
inductive FW (a : KA) (H : Hp) : List (T × List (Int × Int)) → List Value → Prop
  | nil : FW a H [] []
  | cons {t : T} {path : List (Int × Int)} {tp x : Addr} {ws : List (T × List (Int × Int))} {vs : List Value} : H tp = some (.tuple [.ref x, .int (labOf path) 0]) → Rep a H t x → FW a H ws vs → FW a H ((t, path) :: ws) (.ref tp :: vs)
theorem FW.mono {H H' : Hp} (h : Le H H') {ws : List (T × List (Int × Int))} {vs : List Value} (r : FW a H ws vs) : FW a H' ws vs := by
  induction r with
  | nil => exact .nil
  | cons h1 h2 _ ih => exact .cons (h _ _ rfl h1) (h2.mono h) ih
theorem FW.length {H : Hp} {ws : List (T × List (Int × Int))} {vs : List Value} (r : FW a H ws vs) : vs.length = ws.length := by
  induction r with
  | nil => rfl
  | cons _ _ _ ih => rw [List.length_cons, List.length_cons, ih]
theorem FW.append {H : Hp} {ws ws' : List (T × List (Int × Int))} {vs vs' : List Value} (r : FW a H ws vs) (r' : FW a H ws' vs') : FW a H (ws ++ ws') (vs ++ vs') := by
  induction r with
  | nil => exact r'
  | cons h1 h2 _ ih => exact .cons h1 h2 ih

noncomputable def fsz (ws : List (T × List (Int × Int))) : Nat := (ws.map fun w => w.1.size).sum
theorem fsz_len (ws : List (T × List (Int × Int))) : ws.length ≤ fsz ws := by
  induction ws with
  | nil => exact Nat.le_refl _
  | cons w ws ih => unfold fsz at *; rw [List.map_cons, List.sum_cons, List.length_cons]; have := w.1.size_pos; lia
/-- what holds of all that waits -/
structure FOk (N : Nat) (bm pm : List (Int × Int)) (ws : List (T × List (Int × Int))) : Prop where
  path : ∀ w ∈ ws, PathOk bm pm w.2
  scop : ∀ w ∈ ws, w.1.und (w.2.map (·.2))
  deep : ∀ w ∈ ws, w.2.length + w.1.size ≤ N
  labs : (ws.flatMap fun w => w.1.labs).Nodup ∧ ∀ l ∈ ws.flatMap (fun w => w.1.labs), iget l pm = none
  prms : (ws.flatMap fun w => w.1.prms).Nodup ∧ ∀ p ∈ ws.flatMap (fun w => w.1.prms), iget p bm = none

theorem fcons {α : Type} {p : α → Prop} {a : α} {l : List α} (h : p a) (hl : ∀ x ∈ l, p x) : ∀ x ∈ a :: l, p x := List.forall_mem_cons.mpr ⟨h, hl⟩
theorem le_in {a b c N : Nat} (h : b ≤ c) (h3 : a + (c + 1) ≤ N) : a + b ≤ N := Nat.le_trans (Nat.add_le_add_left (Nat.le_succ_of_le h) a) h3
theorem FOk.step {N : Nat} {bm pm : List (Int × Int)} {t : T} {path : List (Int × Int)} {ws : List (T × List (Int × Int))} (h : FOk N bm pm ((t, path) :: ws)) :
    FOk N (nb t bm) (np t (labOf path) pm) (t.kids.map (fun k => (k, wpath t path)) ++ ws) := by
  have h1 := h.path _ (.head _)
  have h2 := h.scop _ (.head _)
  have h3 := h.deep _ (.head _)
  have h4 := h.labs
  have h5 := h.prms
  have hp : ∀ w ∈ ws, PathOk bm pm w.2 := fun w hw => h.path w (.tail _ hw)
  have hs : ∀ w ∈ ws, w.1.und (w.2.map (·.2)) := fun w hw => h.scop w (.tail _ hw)
  have hd : ∀ w ∈ ws, w.2.length + w.1.size ≤ N := fun w hw => h.deep w (.tail _ hw)
  rw [List.flatMap_cons] at h4 h5
  cases t with
  | con i => exact ⟨hp, hs, hd, h4, h5⟩
  | loc n => exact ⟨hp, hs, hd, h4, h5⟩
  | glob => exact ⟨hp, hs, hd, h4, h5⟩
  | lam l p b =>
    simp only [T.labs, T.prms, List.cons_append, List.nodup_cons, List.mem_cons] at h4 h5
    have hl : iget l pm = none := h4.2 l (.inl rfl)
    have hpn : iget p bm = none := h5.2 p (.inl rfl)
    have k1 : ∀ k i, iget k bm = some i → iget k (iput p l bm) = some i := fun k i e => by
      rw [iget_iput, if_neg (fun q => by rw [← q, hpn] at e; cases e)]; exact e
    have k2 : ∀ k i, iget k pm = some i → iget k (iput l (labOf path) pm) = some i := fun k i e => by
      rw [iget_iput, if_neg (fun q => by rw [← q, hl] at e; cases e)]; exact e
    simp only [T.kids, List.map_cons, List.map_nil, List.singleton_append, nb, np, wpath]
    refine ⟨fun w hw => ?_, fun w hw => ?_, fun w hw => ?_, ⟨?_, fun k hk => ?_⟩, ⟨?_, fun k hk => ?_⟩⟩
    · rcases List.mem_cons.mp hw with rfl | hw
      · exact ⟨by rw [iget_iput, if_pos rfl], by rw [iget_iput, if_pos rfl], h1.mono k1 k2⟩
      · exact (hp w hw).mono k1 k2
    · rcases List.mem_cons.mp hw with rfl | hw
      · exact h2
      · exact hs w hw
    · rcases List.mem_cons.mp hw with rfl | hw
      · simp only [T.size] at h3; show path.length + 1 + b.size ≤ N; lia
      · exact hd w hw
    · rw [List.flatMap_cons]; exact h4.1.2
    · rw [List.flatMap_cons] at hk
      rw [iget_iput, if_neg (fun q => h4.1.1 (by rw [q]; exact hk))]
      exact h4.2 k (.inr hk)
    · rw [List.flatMap_cons]; exact h5.1.2
    · rw [List.flatMap_cons] at hk
      rw [iget_iput, if_neg (fun q => h5.1.1 (by rw [q]; exact hk))]
      exact h5.2 k (.inr hk)
  | call1 f x =>
    simp only [T.labs, T.prms, List.append_assoc] at h4 h5
    simp only [T.kids, List.map_cons, List.map_nil, List.cons_append, List.nil_append, nb, np, wpath]
    exact ⟨fcons h1 (fcons h1 hp), fcons h2.1 (fcons h2.2 hs), fcons (le_in (Nat.le_add_right _ _) h3) (fcons (le_in (Nat.le_add_left _ _) h3) hd), by simpa only [List.flatMap_cons] using h4, by simpa only [List.flatMap_cons] using h5⟩
  | call2 f x y =>
    simp only [T.labs, T.prms, List.append_assoc] at h4 h5
    simp only [T.kids, List.map_cons, List.map_nil, List.cons_append, List.nil_append, nb, np, wpath]
    exact ⟨fcons h1 (fcons h1 (fcons h1 hp)), fcons h2.1 (fcons h2.2.1 (fcons h2.2.2 hs)), fcons (le_in (Nat.le_trans (Nat.le_add_right _ _) (Nat.le_add_right _ _)) h3) (fcons (le_in (Nat.le_trans (Nat.le_add_left _ _) (Nat.le_add_right _ _)) h3) (fcons (le_in (Nat.le_add_left _ _) h3) hd)),
      by simpa only [List.flatMap_cons] using h4, by simpa only [List.flatMap_cons] using h5⟩
theorem fsz_step (t : T) (path p2 : List (Int × Int)) (ws : List (T × List (Int × Int))) : fsz (t.kids.map (fun k => (k, p2)) ++ ws) + 1 = fsz ((t, path) :: ws) := by
  unfold fsz
  rw [List.map_append, List.sum_append, List.map_map, List.map_cons, List.sum_cons]
  have := t.size_kids
  show (t.kids.map T.size).sum + (ws.map fun w => w.1.size).sum + 1 = t.size + (ws.map fun w => w.1.size).sum
  lia

/-- the loop's state -/
structure FLoop (a : KA) (H : Hp) (N : Nat) (F : FAd) (wl : Addr) (k : Nat) (σ : St) : Prop where
  m1 : σ.m "facts" = some (.ref F.x)
  m2 : σ.m "waiting" = some (.ref wl)
  ex : ∃ ws wv bm pm c, k = fsz ws ∧ FS a H σ.H F bm pm c ∧ σ.H wl = some (.list false wv.reverse) ∧ FW a σ.H ws wv ∧ FOk N bm pm ws ∧ c + k * (2 * N + 4) ≤ N * (2 * N + 4)

inductive FoJ (a : KA) (H : Hp) (F : FAd) (i : Nat) (σ : St) : Prop
  | mk (m1 : σ.m "facts" = some (.ref F.x)) (bm pm : List (Int × Int)) (c : Nat) (S : FS a H σ.H F bm pm c) (h0 : i = 0 → FS a H σ.H F [] [] 0)
inductive FoK (a : KA) (H H8 : Hp) (F : FAd) (wl ql : Addr) (w : Int) (bm pm : List (Int × Int)) (c : Nat) (vs wv : List Value) (ks : List T) (np : List (Int × Int)) (i : Nat) (σ' : St) : Prop
  | mk (g1 : σ'.m "facts" = some (.ref F.x)) (g2 : σ'.m "waiting" = some (.ref wl)) (g3 : σ'.m "within" = some (.int w 0)) (g4 : Le H8 σ'.H) (g5 : FS a H σ'.H F bm pm c) (g6 : σ'.H ql = some (.list false vs)) (kv : List Value) (g7 : σ'.H wl = some (.list false (wv ++ kv.reverse))) (gl : kv.length = i)
      (g8 : FW a σ'.H ((ks.reverse.take i).reverse.map fun k => (k, np)) kv)
theorem facts_of (O : G.Ok) (K : KF G a) {n : Nat} (R : Rm A (n + 5)) {H : Hp} {t : T} {x ln : Addr} {z : Bool} (hln : H ln = some (.list z [.ref x])) (ht : Rep a H t x) (hz : t.size ≤ 300) (hsc : t.und []) (hl : t.labs.Nodup) (hp : t.prms.Nodup) {Q : Value → Hp → Prop}
    (q : ∀ F H' bm pm c, FS a H H' F bm pm c → Q (.ref F.x) H') : Wc G A (.ref a.f_facts_of) [.ref ln] Q H := by
  refine Wc_fun O K.d.d_facts_of.fn R.room ["nodes"] (bd1 fun _ _ _ _ _ _ _ _ => rfl) (by rfl) (by rfl) (by rfl) (by rfl) (by rfl) ?_
  intro L qual cdv hL
  have R1 : Rm (A.deeper (envOf qual (scopeOf (stmtAt 50)) L a.f_facts_of cdv)) (n + 4) := R.deeper
  refine Ws_asg ?_
  refine We_callK0 O K.o.k_Facts.glob K.o.k_Facts.keep ?_
  refine new_Facts O K (R1.le (k := n + 2) (by lia)) ?_
  intro F H1 S1
  try dsimp only at S1
  try dsimp only
  refine Ws_cons ?_
  refine Wst_For_list R1.hd ?_
  refine We_L (by walk_at "v") ?_
  refine ⟨ln, [.ref x], FoJ a H F, rfl, ?_⟩
  refine ⟨⟨by walk_at "v", _, _, _, S1, fun _ => S1⟩, fun i σ h => ?_, ?_, ?_⟩
  · obtain ⟨_, bm, pm, c, S, _⟩ := h
    exact ⟨_, S.ext _ _ hln⟩
  · intro i v hq1
    obtain ⟨mm, HH⟩ := hq1
    intro hv hq2
    obtain ⟨m1, _, _, _, _, h0⟩ := hq2
    intro u hu
    obtain rfl : i = 0 := by have := (List.getElem?_eq_some_iff.mp hv).1; simpa using this
    obtain rfl : v = .ref x := by simpa using hv.symm
    have S := h0 rfl
    dsimp only at m1 S
    refine W_nm hu ?_
    refine Ws_asg ?_
    refine We_List ?_
    refine Wargs_c ?_
    refine We_Tuple ?_
    refine Wargs_l (by walk_at "v") ?_
    refine Wargs_c ?_
    refine We_GI O K.c.g_TOP ?_
    refine Wargs_nil ?_
    refine ⟨Nat.le_of_ble_eq_true rfl, fun tp htp htpL => ?_⟩
    dsimp only at htp ⊢
    have hE2 : Ext HH (upd HH tp (.tuple [.ref x, .int (-1) 0])) := Ext.new htp
    refine Wargs_nil ?_
    refine ⟨Nat.le_of_ble_eq_true rfl, fun wl hwl hwlL => ?_⟩
    dsimp only at hwl ⊢
    have hE3 := hE2.trans (Ext.new (o := .list false [.ref tp]) hwl)
    have hwl0 : H wl = none := S.ext.none (hE2.none hwl)
    have S3 := S.keep hE3.tk hE3.le (S.ext.trans hE3) (Nat.le_refl 0)
    try dsimp only
    refine Ws_cons ?_
    refine Wst_While (FLoop a H t.size F wl) t.size ?_ ?_
    · refine ⟨by walk_at "v", by walk_at "v", [(t, [])], [.ref tp], [], [], 0, by simp [fsz], S3, upd_same, .cons ?_ (ht.mono (S.ext.le.trans hE3.le)) .nil, ⟨?_, ?_, ?_, ⟨?_, ?_⟩, ⟨?_, ?_⟩⟩, by simp⟩
      · exact (upd_ne (ne_new hwl upd_same)).trans upd_same
      · intro w hw; obtain rfl : w = (t, []) := by simpa using hw
        trivial
      · intro w hw; obtain rfl : w = (t, []) := by simpa using hw
        exact hsc
      · intro w hw; obtain rfl : w = (t, []) := by simpa using hw
        show 0 + t.size ≤ t.size; lia
      · simpa using hl
      · intro l _; rfl
      · simpa using hp
      · intro l _; rfl
    intro k hq3
    obtain ⟨mm2, H4⟩ := hq3
    intro hq4
    obtain ⟨n1, n2, ws, wv, bm, pm, c, rfl, S4, hw, hW, hok, hc⟩ := hq4
    dsimp only at n1 n2 S4 hw hW
    have hlw := fsz_len ws
    have hwv := hW.length
    have hcN : fsz ws ≤ t.size := by
      have h1 : fsz ws * (2 * t.size + 4) ≤ t.size * (2 * t.size + 4) := Nat.le_trans (Nat.le_add_left _ _) hc
      exact Nat.le_of_mul_le_mul_right h1 (by lia)
    refine Wb_Compare ?_
    refine We_callB O K.c.nb_len bb_len ?_
    refine Wargs_l (by walk_at "v") ?_
    refine Wargs_nil ?_
    refine W_len_list hw (by rw [List.length_reverse]; lia) ?_
    refine We_Int ?_
    refine W_gt ?_
    refine W_truthy_bool ?_
    refine ifs (fun _ => ?_) (fun _ => ?_)
    · rename_i hgt
      rcases hW with _ | @⟨t0, path, tp0, x0, ws, wv, htp0, hr0, hW⟩
      · simp at hgt
      have hpo := hok.path _ (.head _)
      have hso := hok.scop _ (.head _)
      have hdo := hok.deep _ (.head _)
      have hlab := hok.labs
      dsimp only at hpo hso hdo
      rw [List.reverse_cons] at hw
      rw [List.length_cons, List.length_cons] at hwv
      rw [List.length_cons] at hlw
      refine Ws_cons ?_
      refine Wst_AssignTuple ?_
      refine We_MethodCall ?_
      refine We_L (by walk_at "v") ?_
      refine W_mpop hw (by rw [List.length_reverse]; lia) ?_
      intro v' hv'
      cases er_ref hv'
      have hu1 : Le H4 (upd H4 wl (.list false wv.reverse)) := Le.mut hw rfl
      refine W_assign2 R1.hd (hu1 _ _ rfl htp0) ?_
      intro u u' hu hu'
      refine W_nm hu ?_
      refine W_nm hu' ?_
      have S5 := S4.keep (TK.mut (o := .list false wv.reverse) hw (fun _ _ q => by cases q)) hu1 (S4.ext.mut hwl0) (Nat.le_refl c)
      have hw5 : upd H4 wl (.list false wv.reverse) wl = some (.list false wv.reverse) := upd_same
      have hW5 := hW.mono hu1
      have hr5 := hr0.mono hu1
      try dsimp only
      generalize upd H4 wl (.list false wv.reverse) = H5 at S5 hw5 hW5 hr5
      clear hu1 htp0 hr0 hW hw
      have hcc : c + 2 * path.length + 8 ≤ 1000000 := by
        have h1 : t.size * (2 * t.size + 4) ≤ 300 * (2 * 300 + 4) := Nat.mul_le_mul hz (by lia)
        have h2 : 1 * (2 * t.size + 4) ≤ fsz ((t0, path) :: ws) * (2 * t.size + 4) := Nat.mul_le_mul_right _ (by lia)
        lia
      refine Ws_cons ?_
      refine Wst_Expr ?_
      refine We_callK O K.d.d_note_node.glob K.d.d_note_node.fn.keep ?_
      refine Wargs_l (by walk_at "v") ?_
      refine Wargs_l (by walk_at "v") ?_
      refine Wargs_l (by walk_at "v") ?_
      refine Wargs_nil ?_
      refine Wcall_of ?_
      refine note_node O K (n := n) (R1.le (by lia)) S5 hr5 hpo ?_ ?_ hcc ?_
      · intro k
        rintro rfl
        have : k ∈ path.map (·.2) := hso
        refine x1_2 (List.mem_map.mp this) ?_; intro p hp1 hp2
        exact ⟨p, hp1, hp2⟩
      · intro l p b
        rintro rfl
        exact hlab.2 l (by rw [List.flatMap_cons]; simp [T.labs])
      intro H6 S6 kp6
      refine ⟨(fun _ h => by cases h), ?_⟩
      have hw6 := kp6 _ _ (fun _ q => by cases q) hw5
      have hW6 := hW5.mono kp6.le
      have hr6 := hr5.mono kp6.le
      have hstep := hok.step
      try dsimp only
      generalize hmm : setm (setm mm2 "here" (.ref x0)) "label" (.int (labOf path) 0) = mm3
      have k1 : mm3 "here" = some (.ref x0) := by rw [← hmm]; walk_at "v"
      have k2 : mm3 "label" = some (.int (labOf path) 0) := by rw [← hmm]; walk_at "v"
      have k3 : mm3 "facts" = some (.ref F.x) := by rw [← hmm]; walk_at "v"
      have k4 : mm3 "waiting" = some (.ref wl) := by rw [← hmm]; walk_at "v"
      clear hmm
      refine Ws_cons ?_
      refine Wt.mono (Q := fun fl' σ₁ => fl' = .next ∧ σ₁ = ⟨setm mm3 "within" (.int (labOf (wpath t0 path)) 0), H6⟩) ?_ ?_
      · refine Wst_Assign ?_
        refine We_IfExp ?_
        refine Wb_kind O K hr6 K.c.g_LAMBDA (by walk_at "v") ?_
        refine ifs (fun _ => ?_) (fun _ => ?_)
        · rename_i hk
          obtain ⟨l, p, b, rfl⟩ : ∃ l p b, t0 = .lam l p b := by cases t0 <;> simp [T.kind] at hk; exact ⟨_, _, _, rfl⟩
          refine x3_4 hr6 ?_; (try clear hr6); intro d pl y g1 g2 g3 g4
          refine We_own O K.n.k_Lambda K.n.o_Lambda_label g1 g2 (by with_unfolding_all exact Eq.refl (some _)) (by walk_at "v") ?_
          exact ⟨rfl, rfl⟩
        · rename_i hk
          refine We_L (by walk_at "v") ?_
          have : wpath t0 path = path := by cases t0 <;> first | rfl | (simp [T.kind] at hk)
          rw [this]
          exact ⟨rfl, rfl⟩
      intro _ _ hq5
      refine x0_2 hq5 ?_; (try clear hq5); intro rfl rfl
      refine Ws_cons ?_
      refine Wst_For_list R1.hd ?_
      refine W_slice_rev ?_
      refine We_MethodCall ?_
      refine We_L (by walk_at "v") ?_
      refine W_parts O K (R1.le (k := 1) (by lia)) (H₀ := H6) (.refl _) hr6 ?_
      intro pl vs H7 hE7 hpl0 hpl hk _
      try dsimp only at hE7 hpl0
      refine We_Unary ?_
      refine We_Int ?_
      refine W_neg ?_
      have hkl : vs.length ≤ 3 := by rw [hk.length]; exact kids_le t0
      refine ⟨pl, false, vs, rfl, rfl, hpl, by lia, fun ql hql hqlL => ?_⟩
      try dsimp only at hql
      have hE8 := hE7.trans (Ext.new (o := .list false vs.reverse) hql)
      have S8 := S6.keep hE8.tk hE8.le (S6.ext.trans hE8) (Nat.le_refl _)
      have hw8 := hE8 _ _ hw6
      have hqw : wl ≠ ql := ne_new hql (hE7 _ _ hw6)
      have hkr := (hk.mono hE8.le).reverse
      have hW8 := hW6.mono hE8.le
      have hq8 : upd H7 ql (.list false vs.reverse) ql = some (.list false vs.reverse) := upd_same
      try dsimp only
      generalize upd H7 ql (.list false vs.reverse) = H8 at hE8 S8 hw8 hkr hW8 hq8
      refine ⟨ql, vs.reverse, FoK a H H8 F wl ql (labOf (wpath t0 path)) (nb t0 bm) (np t0 (labOf path) pm) (c + 2 * path.length + 4) vs.reverse wv.reverse t0.kids (wpath t0 path), rfl, ?_⟩
      refine ⟨⟨by walk_at "v", by walk_at "v", by walk_at "v", .refl _, S8, hq8, [], by simpa using hw8, rfl, .nil⟩, fun i σ' ⟨_, _, _, _, _, g6, _, _, _, _⟩ => ⟨_, g6⟩, ?_, ?_⟩
      · intro i v hq6
        obtain ⟨mm4, H9⟩ := hq6
        intro hv hq7
        obtain ⟨g1, g2, g3, g4, g5, g6, kv, g7, gl, g8⟩ := hq7
        intro u hu
        dsimp only at g1 g2 g3 g4 g5 g6 g7 g8
        refine x2_3 (hkr.get hv) ?_; intro ti xi hti rfl hri
        refine W_nm hu ?_
        refine Ws_cons ?_
        refine Wst_Expr ?_
        refine We_MethodCall ?_
        refine We_L (by walk_at "v") ?_
        refine W_mappend g7 ?_
        refine We_Tuple ?_
        refine Wargs_l (by walk_at "v") ?_
        refine Wargs_l (by walk_at "v") ?_
        refine Wargs_nil ?_
        refine ⟨Nat.le_of_ble_eq_true rfl, fun tr htr htrL => ?_⟩
        dsimp only at htr ⊢
        have hwr : wl ≠ tr := ne_new htr g7
        have hi3 : i < 3 := by
          have := (List.getElem?_eq_some_iff.mp hv).1
          rw [List.length_reverse] at this; lia
        refine ⟨_, (upd_ne hwr).trans g7, by rw [List.length_append, List.length_reverse, List.length_reverse]; lia, (fun _ h => by cases h), ?_⟩
        try dsimp only
        refine Ws_nil ?_
        have hx1 : Ext H9 (upd H9 tr (.tuple [.ref xi, .int (labOf (wpath t0 path)) 0])) := Ext.new htr
        have hg7' : upd H9 tr (.tuple [.ref xi, .int (labOf (wpath t0 path)) 0]) wl = some (.list false (wv.reverse ++ kv.reverse)) := (upd_ne hwr).trans g7
        have hLs := hx1.le.trans (Le.mut (o := .list false (wv.reverse ++ kv.reverse ++ [.ref tr])) hg7' rfl)
        refine ⟨by walk_at "v", by walk_at "v", by walk_at "v", g4.trans hLs, g5.keep (hx1.tk.trans (TK.mut hg7' (fun _ _ q => by cases q))) hLs ((g5.ext.trans hx1).mut hwl0) (Nat.le_refl _), ?_, .ref tr :: kv, ?_, by simp [gl], ?_⟩
        · exact (upd_ne (Ne.symm hqw)).trans (hx1 _ _ g6)
        · refine upd_same.trans ?_
          simp
        · have e : (t0.kids.reverse.take (i + 1)).reverse = ti :: (t0.kids.reverse.take i).reverse := by rw [List.take_add_one, hti]; simp
          rw [e]
          exact .cons ((upd_ne (Ne.symm hwr)).trans upd_same) ((hri.mono g4).mono hLs) (g8.mono hLs)
      · intro hq8
        obtain ⟨mm4, H9⟩ := hq8
        intro hq9
        obtain ⟨g1, g2, g3, g4, g5, g6, kv, g7, gl, g8⟩ := hq9
        dsimp only at g1 g2 g3 g4 g5 g6 g7 g8
        refine Ws_nil ?_
        have e : t0.kids.reverse.take vs.reverse.length = t0.kids.reverse := List.take_of_length_le (by rw [List.length_reverse, List.length_reverse, hk.length]; exact Nat.le_refl _)
        rw [e, List.reverse_reverse] at g8
        have hf := fsz_step t0 path (wpath t0 path) ws
        refine ⟨_, ?_, g1, g2, t0.kids.map (fun k => (k, wpath t0 path)) ++ ws, kv ++ wv, _, _, _, rfl, g5, by rw [List.reverse_append]; exact g7, g8.append (hW8.mono g4), hstep, ?_⟩
        · lia
        · have hm : fsz ((t0, path) :: ws) * (2 * t.size + 4) = fsz (t0.kids.map (fun k => (k, wpath t0 path)) ++ ws) * (2 * t.size + 4) + (2 * t.size + 4) := by rw [← hf, Nat.succ_mul]
          rw [hm] at hc
          have : path.length ≤ t.size := by lia
          lia
    · refine Ws_nil ?_
      exact ⟨n1, _, _, _, S4, fun h => by cases h⟩
  · intro hq10
    obtain ⟨mm, HH⟩ := hq10
    intro hq11
    obtain ⟨m1, bm, pm, c, S, _⟩ := hq11
    dsimp only at m1 S
    refine Ws_ret ?_
    refine We_L (by walk_at "v") ?_
    exact q F HH bm pm c S

end -- MC15

section -- MC16
set_option maxRecDepth 20000
variable {G : Gl} {a : KA} {A : Around} {env : Env} {σ : St} {L : Addr}

theorem Wst_ExprA {e : PySem.Expr} {pos : Pos} {Q : Flow → St → Prop} (h : We G A env e (fun _ σ₁ => Q .next σ₁) σ)
    (hi : interactive env = false := by with_unfolding_all rfl) (hs : swapsWith e none pos.line env = pure false := by with_unfolding_all rfl) : Wst G A env (.Expr e pos) Q σ := fun s X => by
  refine wpAny_Expr_any (wpAny_mono (h s X) ?_ fun _ _ x => x) hi hs
  intro v s₁ hq1
  refine x1_3 hq1 ?_; (try clear hq1); intro σ₁ x₁ o₁ q
  exact ⟨σ₁, x₁, o₁, q⟩

noncomputable def ival (es : List (Int × Value)) (k : Int) : Int := match (tget k es).getD (.int 0 0) with
  | .int i _ => i
  | _ => 0
structure FF (a : KA) (H : Hp) (F : FAd) (er es ec : List (Int × Value)) : Prop where
  obj : FObj a H F
  rd : H F.read = some (.tab true er) ∧ Ints er
  st : H F.set = some (.tab true es) ∧ Ints es
  cl : H F.called = some (.tab true ec) ∧ Ints ec
theorem FF.mono {H H' : Hp} {F : FAd} {r s c : List (Int × Value)} (h : Le H H') (x : FF a H F r s c) : FF a H' F r s c := ⟨x.obj.mono h, ⟨h _ _ rfl x.rd.1, x.rd.2⟩, ⟨h _ _ rfl x.st.1, x.st.2⟩, ⟨h _ _ rfl x.cl.1, x.cl.2⟩⟩

/-- what the facts say -/
noncomputable def dec (er es ec : List (Int × Value)) (k : Int) : Bool := !decide (0 < ival es k) && (decide (0 < ival er k) && decide (ival er k ≤ 4)) && (ival ec k == ival er k)
noncomputable def fits (k : Int) (own body : T) : Bool := decide (own.size ≤ 9) && ((reb (fitF k) body (0, true)).2.2 && decide ((reb (fitF k) body (0, true)).2.1 ≤ 4))
noncomputable def fitB (er es ec : List (Int × Value)) (k : Int) (own body : T) : Bool := dec er es ec k && fits k own body

theorem rok_true {S : Type} (f : T → S → T × S) : ∀ (t : T) (s : S), rok f (fun _ _ => True) t s
  | .con _, _ => trivial
  | .loc _, _ => trivial
  | .glob, _ => trivial
  | .lam _ _ b, s => ⟨rok_true f b s, trivial⟩
  | .call1 g x, s => ⟨rok_true f g s, rok_true f x _, trivial⟩
  | .call2 g x y, s => ⟨rok_true f g s, rok_true f x _, rok_true f y _, trivial⟩

structure Sml (a : KA) (H : Hp) (r d w : Addr) (F : FAd) : Prop where
  inst : H r = some (.inst a.cSmall d)
  at_ : H d = some (.attrs true [("facts", .ref F.x), ("world", .ref w)])
theorem Sml.mono {H H' : Hp} {r d w : Addr} {F : FAd} (h : Le H H') (x : Sml a H r d w F) : Sml a H' r d w F := ⟨h _ _ rfl x.inst, h _ _ rfl x.at_⟩

theorem is_fit (O : G.Ok) (K : KF G a) {n : Nat} (R : Rm A (n + 10)) {H : Hp} {r sd w : Addr} {F : FAd} {e1 e2 e3 : List (Int × Value)} {k l q' : Int} {b body : T} {xo xb : Addr} (hs : Sml a H r sd w F) (hf : FF a H F e1 e2 e3) (ho : Rep a H (.lam l q' b) xo) (hb : Rep a H body xb)
    (hzo : (T.lam l q' b).size ≤ 1000) (hnc : (T.lam l q' b).noCon = true) (hzb : body.size ≤ 1000) {Q : Value → Hp → Prop} (q : ∀ H', Ext H H' → Q (.bool (fitB e1 e2 e3 k (.lam l q' b) body)) H') : Wc G A (.ref a.fSmall_is_fit) [.ref r, .int k 0, .ref xo, .ref xb] Q H := by
  refine Wc_fun O K.m.m_Small_is_fit R.room ["self", "number", "own", "body"] (bd4 fun _ _ _ _ _ _ _ _ _ _ _ => rfl) (by rfl) (by rfl) (by rfl) (by rfl) (by rfl) ?_
  intro L qual cdv hL
  have R1 : Rm (A.deeper (envOf qual (scopeOf (methAt 57 1)) L a.fSmall_is_fit cdv)) (n + 9) := R.deeper
  refine Ws_asg ?_
  refine We_MethodCall ?_
  refine We_own O K.o.k_Small K.o.o_Small_facts hs.inst hs.at_ (by with_unfolding_all exact Eq.refl (some _)) (by walk_at "v") ?_
  refine W_mcall O K.o.k_Facts K.m.m_Facts_times_read K.m.a_Facts_times_read hf.obj.inst hf.obj.at_ (by with_unfolding_all rfl) ?_
  refine Wargs_l (by walk_at "v") ?_
  refine Wargs_nil ?_
  refine times_read O K (R1.le (k := 1) (by lia)) hf.obj hf.rd.1 hf.rd.2 ?_
  intro i1 hi1
  have v1 : ival e1 k = i1 := by unfold ival; rw [hi1]
  have no : dec e1 e2 e3 k = false → Q (.bool false) H := fun h => by
    have := q H (.refl H)
    unfold fitB at this
    rw [h] at this
    exact this
  try dsimp only
  refine Ws_cons ?_
  refine Wt.mono (Q := fun fl σ₁ => σ₁ = ⟨setm (bindm ["self", "number", "own", "body"] [.ref r, .int k 0, .ref xo, .ref xb]) "times" (.int i1 0), H⟩ ∧ ((fl = .next ∧ dec e1 e2 e3 k = true) ∨ (fl = .ret (.bool false) ∧ dec e1 e2 e3 k = false))) ?_ ?_
  · refine Wst_If ?_
    refine Wb_BoolOp ?_
    refine Wall_Or ?_
    refine Wb_value ?_
    refine We_MethodCall ?_
    refine We_own O K.o.k_Small K.o.o_Small_facts hs.inst hs.at_ (by with_unfolding_all exact Eq.refl (some _)) (by walk_at "v") ?_
    refine W_mcall O K.o.k_Facts K.m.m_Facts_is_set K.m.a_Facts_is_set hf.obj.inst hf.obj.at_ (by with_unfolding_all rfl) ?_
    refine Wargs_l (by walk_at "v") ?_
    refine Wargs_nil ?_
    refine facts_is_set O K (R1.le (k := 1) (by lia)) hf.obj hf.st.1 hf.st.2 ?_
    intro i2 hi2
    have v2 : ival e2 k = i2 := by unfold ival; rw [hi2]
    refine W_truthy_bool ?_
    refine ifs (fun _ => ?_) (fun _ => ?_)
    · rename_i h
      refine ift rfl ?_
      refine Ws_ret ?_
      refine We_Bool ?_
      refine ⟨rfl, .inr ⟨rfl, ?_⟩⟩
      unfold dec
      rw [v2, h]
      rfl
    · rename_i h2
      have h2 : decide (0 < i2) = false := by simpa using h2
      refine Wall_Or ?_
      refine Wb_Not ?_
      refine Wb_chain2 ?_
      refine We_Int ?_
      refine We_L (by walk_at "v") ?_
      refine W_lt ?_
      refine W_truthy_bool ?_
      have third : ∀ b, b = (decide (0 < i1) && decide (i1 ≤ 4)) → True := fun _ _ => trivial
      refine ifs (fun _ => ?_) (fun _ => ?_)
      · rename_i h3
        have h3 : decide (0 < i1) = true := h3
        refine We_GI O K.c.g_SMALL_TIMES ?_
        refine W_le ?_
        refine W_truthy_bool ?_
        refine ifs (fun _ => ?_) (fun _ => ?_)
        · rename_i h4
          have h4 : decide (i1 ≤ 4) = false := by simpa using h4
          refine ift rfl ?_
          refine Ws_ret ?_
          refine We_Bool ?_
          refine ⟨rfl, .inr ⟨rfl, ?_⟩⟩
          unfold dec
          rw [v1, h4]
          simp
        · rename_i h4
          have h4 : decide (i1 ≤ 4) = true := by simpa using h4
          refine Wall_Or ?_
          refine Wb_Compare ?_
          refine We_MethodCall ?_
          refine We_own O K.o.k_Small K.o.o_Small_facts hs.inst hs.at_ (by with_unfolding_all exact Eq.refl (some _)) (by walk_at "v") ?_
          refine W_mcall O K.o.k_Facts K.m.m_Facts_times_called K.m.a_Facts_times_called hf.obj.inst hf.obj.at_ (by with_unfolding_all rfl) ?_
          refine Wargs_l (by walk_at "v") ?_
          refine Wargs_nil ?_
          refine times_called O K (R1.le (k := 1) (by lia)) hf.obj hf.cl.1 hf.cl.2 ?_
          intro i3 hi3
          have v3 : ival e3 k = i3 := by unfold ival; rw [hi3]
          refine We_L (by walk_at "v") ?_
          refine W_ne ?_
          refine W_truthy_bool ?_
          refine ifs (fun _ => ?_) (fun _ => ?_)
          · rename_i h5
            have h5 : (i3 == i1) = false := by simpa using h5
            refine ift rfl ?_
            refine Ws_ret ?_
            refine We_Bool ?_
            refine ⟨rfl, .inr ⟨rfl, ?_⟩⟩
            unfold dec
            rw [v1, v3, h5]
            simp
          · rename_i h5
            have h5 : (i3 == i1) = true := by simpa using h5
            refine Wall_Or_nil ?_
            refine iff_ (by decide) ?_
            refine Ws_nil ?_
            refine ⟨rfl, .inl ⟨rfl, ?_⟩⟩
            unfold dec
            rw [v1, v2, v3, h2, h3, h4, h5]
            rfl
      · rename_i h3
        have h3 : decide (0 < i1) = false := by simpa using h3
        rw [if_pos (by decide), if_pos rfl]
        refine Ws_ret ?_
        refine We_Bool ?_
        refine ⟨rfl, .inr ⟨rfl, ?_⟩⟩
        unfold dec
        rw [v1, h3]
        simp
  intro fl _ hq2
  refine x0_2 hq2 ?_; (try clear hq2); rintro rfl (⟨rfl, hd⟩ | ⟨rfl, hd⟩)
  rotate_left
  · exact no hd
  refine Ws_cons ?_
  refine Wst_If ?_
  refine Wb_Not ?_
  refine Wb_value ?_
  refine We_callK O K.d.d_is_small.glob K.d.d_is_small.fn.keep ?_
  refine Wargs_l (by walk_at "v") ?_
  refine Wargs_nil ?_
  refine Wcall_of ?_
  refine is_small O K (n := n) (R1.le (by lia)) hzo hnc ho ?_
  intro H1 hE1
  refine W_truthy_bool ?_
  refine ifs (fun _ => ?_) (fun _ => ?_)
  · rename_i h9
    have h9 : decide ((T.lam l q' b).size ≤ 9) = false := by simpa using h9
    refine Ws_ret ?_
    refine We_Bool ?_
    have := q H1 hE1
    unfold fitB fits at this
    rw [h9, Bool.false_and, Bool.and_false] at this
    exact this
  · rename_i h9
    have h9 : decide ((T.lam l q' b).size ≤ 9) = true := by simpa using h9
    refine Ws_nil ?_
    refine Ws_asg ?_
    refine We_callK O K.o.k_Fitting.glob K.o.k_Fitting.keep ?_
    refine Wargs_l (by walk_at "v") ?_
    refine Wargs_l (by walk_at "v") ?_
    refine Wargs_nil ?_
    refine new_Fitting O K (R1.le (k := n + 2) (by lia)) ?_
    intro f fd H2 hE2 hf0 hfd0 hfi hfm
    try dsimp only at hE2 hf0 hfd0
    have hE12 := hE1.trans hE2
    try dsimp only
    refine Ws_cons ?_
    refine Wst_ExprA ?_
    refine We_callK O K.d.d_rebuilt.glob K.d.d_rebuilt.fn.keep ?_
    refine Wargs_l (by walk_at "v") ?_
    refine Wargs_c ?_
    refine We_at ?_
    refine We_L (by walk_at "v") ?_
    refine W_attr_meth O hfi hfm (by with_unfolding_all rfl) K.m.a_Fitting_turned (K.o.k_Fitting.get _) K.o.k_Fitting.hd K.m.m_Fitting_turned.isFn K.m.m_Fitting_turned.get K.m.m_Fitting_turned.takes (by with_unfolding_all rfl) ?_
    intro c hc hcL
    try dsimp only at hc
    have hE3 : Ext H2 (upd H2 c (.meth a.fFitting_turned f)) := Ext.new hc
    refine Wargs_nil ?_
    refine Wcall_of ?_
    refine rebuilt O K (n := n + 2) (R1.le (by lia)) (S := Int × Bool) (s := (0, true)) (M := fmo k xo) (f := fitF k) (P := fun _ _ => True) hzb (hb.mono (hE12.le.trans hE3.le)) (hE3 _ _ hfm) (.inl fun _ => rfl) (chg_fit O K (n := n) upd_same (hE3 _ _ hfi) (ho.mono (hE12.le.trans hE3.le))) (rok_true _ _ _) ?_
    intro y H3 hB hL3 hd3 _
    have hE0 : Ext H H3 := fun b o e => hB b o (fun z => by rw [z, hE1.none hfd0] at e; cases e) (hE3 _ _ (hE12 _ _ e))
    have hfi3 := hL3 _ _ rfl (hE3 _ _ hfi)
    have hq := q H3 hE0
    unfold fitB fits at hq
    rw [hd, h9, Bool.true_and, Bool.true_and] at hq
    generalize (reb (fitF k) body (0, true)).2 = rr at hd3 hq
    refine Ws_ret ?_
    refine We_And2 ?_
    refine We_own O K.o.k_Fitting K.o.o_Fitting_is_so hfi3 hd3 (by with_unfolding_all exact Eq.refl (some _)) (by walk_at "v") ?_
    refine W_truthy_bool ?_
    refine ifs (fun _ => ?_) (fun _ => ?_)
    · rename_i h
      have h : rr.2 = true := h
      refine We_Compare ?_
      refine We_own O K.o.k_Fitting K.o.o_Fitting_many hfi3 hd3 (by with_unfolding_all exact Eq.refl (some _)) (by walk_at "v") ?_
      refine We_GI O K.c.g_SMALL_TIMES ?_
      refine W_le ?_
      rw [h, Bool.true_and] at hq
      exact hq
    · rename_i h
      have h : rr.2 = false := by simpa using h
      rw [h, Bool.false_and] at hq
      rw [h]
      exact hq

end -- MC16

section -- MC17
set_option maxRecDepth 20000
variable {G : Gl} {a : KA} {A : Around} {env : Env} {σ : St} {L : Addr}

theorem without_locals (O : G.Ok) (K : KF G a) {n : Nat} (R : Rm A (n + 1)) {H : Hp} {m p : Int} {B own : T} {x gd y : Addr} (ht : Rep a H (.call1 (.lam m p B) own) x) (hg : H gd = some (.tab false [(p, .bool true)])) (hgl : gd ≠ sysModules) {Q : Value → Hp → Prop}
    (q : ∀ H', Ext H H' → Q (.ref y) H') : Wc G A (.ref a.f_without_locals) [.ref x, .ref gd, .ref y] Q H := by
  (refine x4_5 ht ?_; (try clear ht); intro d yf ol z h1 h2 h3 hq1 h5)
  refine x3_4 hq1 ?_; (try clear hq1); intro d2 pl yb g1 g2 g3 g4
  refine Wc_fun O K.d.d_without_locals.fn R.room ["let", "gone", "body"] (bd3 fun _ _ _ _ _ _ _ _ _ _ => rfl) (by rfl) (by rfl) (by rfl) (by rfl) (by rfl) ?_
  intro L qual cdv hL
  have R1 : Rm (A.deeper (envOf qual (scopeOf (stmtAt 28)) L a.f_without_locals cdv)) n := R.deeper
  refine Ws_asg ?_
  refine We_List ?_
  refine Wargs_nil ?_
  refine ⟨Nat.zero_le _, fun ps hps hpsL => ?_⟩
  have hE1 : Ext H (upd H ps (.list false [])) := Ext.new hps
  try dsimp only
  refine Ws_asg ?_
  refine We_List ?_
  refine Wargs_nil ?_
  refine ⟨Nat.zero_le _, fun os hos hosL => ?_⟩
  have hE2 := hE1.trans (Ext.new (o := .list false []) hos)
  have hps2 : upd (upd H ps (.list false [])) os (.list false []) ps = some (.list false []) := (upd_ne (ne_new hos upd_same)).trans upd_same
  try dsimp only
  generalize upd (upd H ps (.list false [])) os (.list false []) = H2 at hE2 hps2
  refine Ws_cons ?_
  refine Wst_For_zip O R1.hd K.c.nb_zip bb_zip ?_
  refine We_at ?_
  refine We_own O K.n.k_Call K.n.o_Call_operator (hE2 _ _ h1) (hE2 _ _ h2) (by with_unfolding_all exact Eq.refl (some _)) (by walk_at "v") ?_
  refine W_own O K.n.k_Lambda K.n.o_Lambda_params (hE2 _ _ g1) (hE2 _ _ g2) (by with_unfolding_all rfl) ?_
  refine We_own O K.n.k_Call K.n.o_Call_operands (hE2 _ _ h1) (hE2 _ _ h2) (by with_unfolding_all exact Eq.refl (some _)) (by walk_at "v") ?_
  refine ⟨pl, ol, _, _, _, _, rfl, rfl, hE2 _ _ g3, hE2 _ _ h3, fun i σ => σ.m "params" = some (.ref ps) ∧ σ.m "body" = some (.ref y) ∧ σ.m "gone" = some (.ref gd) ∧ Ext H2 σ.H, ?_⟩
  refine ⟨⟨by walk_at "v", by walk_at "v", by walk_at "v", .refl _⟩, fun i σ h => ⟨⟨_, h.2.2.2 _ _ (hE2 _ _ g3)⟩, ⟨_, h.2.2.2 _ _ (hE2 _ _ h3)⟩⟩, ?_, ?_⟩
  · intro i v1 v2 tt hq2
    obtain ⟨mm, HH⟩ := hq2
    intro hv1 hv2 hq3
    refine x0_4 hq3 ?_; (try clear hq3); intro m1 m2 m3 hE
    intro htt httL
    dsimp only at m1 m2 m3 hE htt ⊢
    obtain rfl : i = 0 := by have := (List.getElem?_eq_some_iff.mp hv1).1; simpa using this
    obtain rfl : v1 = .int p 0 := by simpa using hv1.symm
    have hE' : Ext HH (upd HH tt (.tuple [.int p 0, v2])) := Ext.new htt
    refine W_assign2 R1.hd (x := .int p 0) (y := v2) upd_same ?_
    intro u u' hu hu'
    refine W_nm hu ?_
    refine W_nm hu' ?_
    refine Ws_cons ?_
    refine Wst_If ?_
    refine Wb_Compare ?_
    refine We_L (by walk_at "v") ?_
    refine We_L (by walk_at "v") ?_
    refine W_notIn (hE' _ _ (hE _ _ (hE2 _ _ hg))) hgl ?_
    refine W_truthy_bool ?_
    refine iff_ (by simp [tget]) ?_
    refine Ws_nil ?_
    refine Ws_nil ?_
    exact ⟨by walk_at "v", by walk_at "v", by walk_at "v", hE.trans hE'⟩
  · intro hq4
    obtain ⟨mm, HH⟩ := hq4
    intro hq5
    refine x0_4 hq5 ?_; (try clear hq5); intro m1 m2 m3 hE
    dsimp only at m1 m2 m3 hE
    refine Ws_ret ?_
    refine We_IfExp ?_
    refine Wb_Compare ?_
    refine We_callB O K.c.nb_len bb_len ?_
    refine Wargs_l (by walk_at "v") ?_
    refine Wargs_nil ?_
    refine W_len_list (hE _ _ hps2) (Nat.zero_le _) ?_
    refine We_Int ?_
    refine W_gt ?_
    refine W_truthy_bool ?_
    refine iff_ (by simp) ?_
    refine We_L (by walk_at "v") ?_
    exact q HH (hE2.trans hE)

/-- one node of spread_small's rebuilding -/
noncomputable def smF (e1 e2 e3 : List (Int × Value)) (t : T) (s : Int) : T × Int := match t with
  | .call1 (.lam m p B) (.lam l q b) => if fitB e1 e2 e3 p (.lam l q b) B then reb (spF p l q b) B s else (.call1 (.lam m p B) (.lam l q b), s)
  | t => (t, s)
noncomputable def smP (t : T) (_ : Int) : Prop := ∀ m p B own, t = .call1 (.lam m p B) own → B.size ≤ 1000 ∧ ∀ l q b, own = .lam l q b → b.noLam = true ∧ own.noCon = true ∧ own.size ≤ 1000

theorem small_turned (O : G.Ok) (K : KF G a) {n : Nat} (R : Rm A (n + 24)) {H : Hp} {r sd w d ti tb dop : Addr} {F : FAd} {e1 e2 e3 : List (Int × Value)} {t : T} {x : Addr} {s : Int} (hs : Sml a H r sd w F) (hf : FF a H F e1 e2 e3) (hw : Wld a H w d ti) (hd : H d = some (nmo tb ti dop s)) (ht : Rep a H t x) (hP : smP t s) {Q : Value → Hp → Prop}
    (q : ∀ y H', ExtB d H H' → Le H H' → H' d = some (nmo tb ti dop (smF e1 e2 e3 t s).2) → Rep a H' (smF e1 e2 e3 t s).1 y → Q (.ref y) H') : Wc G A (.ref a.fSmall_turned) [.ref r, .ref x] Q H := by
  refine Wc_fun O K.m.m_Small_turned R.room ["self", "node"] (bd2 fun _ _ _ _ _ _ _ _ _ => rfl) (by rfl) (by rfl) (by rfl) (by rfl) (by rfl) ?_
  intro L qual cdv hL
  have R1 : Rm (A.deeper (envOf qual (scopeOf (methAt 57 2)) L a.fSmall_turned cdv)) (n + 23) := R.deeper
  refine Ws_cons ?_
  refine Wst_If ?_
  refine Wb_Not ?_
  refine Wb_value ?_
  refine We_callK O K.d.d_is_let.glob K.d.d_is_let.fn.keep ?_
  refine Wargs_l (by walk_at "v") ?_
  refine Wargs_nil ?_
  refine Wcall_of ?_
  refine is_let O K (R1.le (k := 1) (by lia)) ht ?_
  refine W_truthy_bool ?_
  refine ifs (fun _ => ?_) (fun _ => ?_)
  · rename_i h
    have h : t.isLet = false := by simpa using h
    refine Ws_ret ?_
    refine We_L (by walk_at "v") ?_
    have e : smF e1 e2 e3 t s = (t, s) := by
      unfold smF
      (split)
      · simp [T.isLet, T.isLam] at h
      · rfl
    rw [e] at q
    exact q x H (Ext.refl H).b (.refl H) hd ht
  rename_i h
  have h : t.isLet = true := by simpa using h
  obtain ⟨f, own, rfl, hfl⟩ : ∃ f g, t = .call1 f g ∧ f.isLam = true := by cases t <;> simp [T.isLet] at h; exact ⟨_, _, rfl, h⟩
  obtain ⟨m, p, B, rfl⟩ : ∃ l p b, f = .lam l p b := by cases f <;> simp [T.isLam] at hfl; exact ⟨_, _, _, rfl⟩
  refine x0_2 (hP m p B own rfl) ?_; intro hzB hown
  have ht0 := ht
  refine x4_5 ht ?_; (try clear ht); intro dc yf ol yo h1 h2 h3 hq6 h5
  refine x3_4 hq6 ?_; (try clear hq6); intro d2 pl yb g1 g2 g3 g4
  refine Ws_nil ?_
  refine Ws_asg ?_
  refine W_Dict_empty O ?_
  intro gd hgd hgdL hgl
  try dsimp only at hgd ⊢
  have hE1 : Ext H (upd H gd (.tab false [])) := Ext.new hgd
  have hg1 : upd H gd (.tab false []) gd = some (.tab false []) := upd_same
  have hgdd : gd ≠ d := fun e => by rw [e, hd] at hgd; cases hgd
  generalize upd H gd (.tab false []) = H1 at hE1 hg1
  refine Ws_asg ?_
  refine We_at ?_
  refine We_own O K.n.k_Call K.n.o_Call_operator (hE1 _ _ h1) (hE1 _ _ h2) (by with_unfolding_all exact Eq.refl (some _)) (by walk_at "v") ?_
  refine W_own O K.n.k_Lambda K.n.o_Lambda_body (hE1 _ _ g1) (hE1 _ _ g2) (by with_unfolding_all rfl) ?_
  try dsimp only
  refine Ws_cons ?_
  refine Wst_For_zip O R1.hd K.c.nb_zip bb_zip ?_
  refine We_at ?_
  refine We_own O K.n.k_Call K.n.o_Call_operator (hE1 _ _ h1) (hE1 _ _ h2) (by with_unfolding_all exact Eq.refl (some _)) (by walk_at "v") ?_
  refine W_own O K.n.k_Lambda K.n.o_Lambda_params (hE1 _ _ g1) (hE1 _ _ g2) (by with_unfolding_all rfl) ?_
  refine We_own O K.n.k_Call K.n.o_Call_operands (hE1 _ _ h1) (hE1 _ _ h2) (by with_unfolding_all exact Eq.refl (some _)) (by walk_at "v") ?_
  refine ⟨pl, ol, _, _, _, _, rfl, rfl, hE1 _ _ g3, hE1 _ _ h3, fun i σ => (σ.m "self" = some (.ref r) ∧ σ.m "node" = some (.ref x) ∧ σ.m "gone" = some (.ref gd)) ∧ Le H1 σ.H ∧ ExtB d H σ.H ∧
    ((i = 0 ∧ σ.m "body" = some (.ref yb) ∧ σ.H d = some (nmo tb ti dop s) ∧ σ.H gd = some (.tab false [])) ∨
     (i = 1 ∧ smF e1 e2 e3 (.call1 (.lam m p B) own) s = (.call1 (.lam m p B) own, s) ∧ σ.H d = some (nmo tb ti dop s) ∧ σ.H gd = some (.tab false [])) ∨
     (i = 1 ∧ ∃ y, σ.m "body" = some (.ref y) ∧ σ.H d = some (nmo tb ti dop (smF e1 e2 e3 (.call1 (.lam m p B) own) s).2) ∧ Rep a σ.H (smF e1 e2 e3 (.call1 (.lam m p B) own) s).1 y ∧ σ.H gd = some (.tab false [(p, .bool true)]))), ?_⟩
  refine ⟨⟨⟨by walk_at "v", by walk_at "v", by walk_at "v"⟩, .refl _, hE1.b, .inl ⟨rfl, by walk_at "v", hE1 _ _ hd, hg1⟩⟩, fun i σ h => ⟨⟨_, h.2.1 _ _ rfl (hE1 _ _ g3)⟩, ⟨_, h.2.1 _ _ rfl (hE1 _ _ h3)⟩⟩, ?_, ?_⟩
  · intro i v1 v2 tt hq7
    obtain ⟨mm, HH⟩ := hq7
    intro hv1 hv2 hq8
    refine x0_4 hq8 ?_; (try clear hq8); intro hq9 hLe hB hst
    refine x0_3 hq9 ?_; (try clear hq9); intro m1 m2 m3
    intro htt httL
    dsimp only at m1 m2 m3 hLe hB hst htt ⊢
    obtain rfl : i = 0 := by have := (List.getElem?_eq_some_iff.mp hv1).1; simpa using this
    obtain rfl : v1 = .int p 0 := by simpa using hv1.symm
    obtain rfl : v2 = .ref yo := by simpa using hv2.symm
    rcases hst with ⟨_, m4, hds, hgs⟩ | ⟨h, _⟩ | ⟨h, _⟩
    rotate_left
    · cases h
    · cases h
    have hE' : Ext HH (upd HH tt (.tuple [.int p 0, .ref yo])) := Ext.new htt
    have htd : tt ≠ d := fun e => by rw [e, hds] at htt; cases htt
    have htH : H tt = none := hB.none htd htt
    refine W_assign2 R1.hd (x := .int p 0) (y := .ref yo) upd_same ?_
    intro u u' hu hu'
    refine W_nm hu ?_
    refine W_nm hu' ?_
    have hL2 := hLe.trans hE'.le
    have hB2 : ExtB d H (upd HH tt (.tuple [.int p 0, .ref yo])) := hB.mut htH
    have hd2 := hE' _ _ hds
    have hg2 := hE' _ _ hgs
    try dsimp only
    generalize upd HH tt (.tuple [.int p 0, .ref yo]) = H2 at hL2 hB2 hd2 hg2
    clear hE' hds hgs hB hLe htt
    have hL3 := hE1.le.trans hL2
    have ho2 := h5.mono hL3
    refine Ws_cons ?_
    refine Wst_If ?_
    refine Wb_BoolOp ?_
    refine Wall_And ?_
    refine Wb_kind O K ho2 K.c.g_LAMBDA (by walk_at "v") ?_
    refine ifs (fun _ => ?_) (fun _ => ?_)
    · rename_i hk
      obtain ⟨l, q', b, rfl⟩ : ∃ l p b, own = .lam l p b := by cases own <;> simp [T.kind] at hk; exact ⟨_, _, _, rfl⟩
      refine x0_3 (hown l q' b rfl) ?_; intro hnl hnc hzo
      have hs2 := hs.mono hL3
      have hf2 := hf.mono hL3
      refine Wall_And ?_
      refine Wb_value ?_
      refine We_MethodCall ?_
      refine We_L (by walk_at "v") ?_
      refine W_mcall O K.o.k_Small K.m.m_Small_is_fit K.m.a_Small_is_fit hs2.inst hs2.at_ (by with_unfolding_all rfl) ?_
      refine Wargs_l (by walk_at "v") ?_
      refine Wargs_l (by walk_at "v") ?_
      refine Wargs_l (by walk_at "v") ?_
      refine Wargs_nil ?_
      refine is_fit O K (n := n + 13) (R1.le (by lia)) hs2 hf2 ho2 (g4.mono hL3) hzo hnc hzB ?_
      intro H3 hE3
      refine W_truthy_bool ?_
      refine ifs (fun _ => ?_) (fun _ => ?_)
      · rename_i hfit
        have hfit : fitB e1 e2 e3 p (.lam l q' b) B = true := hfit
        have esm : smF e1 e2 e3 (.call1 (.lam m p B) (.lam l q' b)) s = reb (spF p l q' b) B s := by
          show (if fitB e1 e2 e3 p (.lam l q' b) B then _ else _) = _
          rw [hfit]; rfl
        refine Wall_And_nil ?_
        refine ift rfl ?_
        have hg3 := hE3 _ _ hg2
        have hd3 := hE3 _ _ hd2
        have hL4 := hL3.trans hE3.le
        have hB3 := hB2.trans hE3.b
        have hL13 := hL2.trans hE3.le
        refine Ws_cons ?_
        refine Wst_AssignSub ?_
        refine We_Bool ?_
        refine We_L (by walk_at "v") ?_
        refine We_L (by walk_at "v") ?_
        refine W_setI hg3 (Nat.zero_le _) ?_
        have hLg : Le H3 (upd H3 gd (.tab false [(p, .bool true)])) := Le.mut hg3 rfl
        have hg4 : upd H3 gd (.tab false [(p, .bool true)]) gd = some (.tab false [(p, .bool true)]) := upd_same
        have hd4 : upd H3 gd (.tab false [(p, .bool true)]) d = some (nmo tb ti dop s) := (upd_ne (Ne.symm hgdd)).trans hd3
        have hB4 : ExtB d H (upd H3 gd (.tab false [(p, .bool true)])) := hB3.mut hgd
        have hL5 := hL4.trans hLg
        have hL14 := hL13.trans hLg
        show Ws G _ _ _ _ ⟨_, upd H3 gd (.tab false [(p, .bool true)])⟩
        generalize upd H3 gd (.tab false [(p, .bool true)]) = H4 at hg4 hd4 hB4 hL5 hL14
        have hs4 := hs.mono hL5
        have ho4 := h5.mono hL5
        refine Ws_asg ?_
        refine We_callK O K.d.d_rebuilt.glob K.d.d_rebuilt.fn.keep ?_
        refine Wargs_l (by walk_at "v") ?_
        refine Wargs_c ?_
        refine We_at ?_
        refine We_callK O K.o.k_Spreading.glob K.o.k_Spreading.keep ?_
        refine Wargs_l (by walk_at "v") ?_
        refine Wargs_l (by walk_at "v") ?_
        refine Wargs_c ?_
        refine We_own O K.o.k_Small K.o.o_Small_world hs4.inst hs4.at_ (by with_unfolding_all exact Eq.refl (some _)) (by walk_at "v") ?_
        refine Wargs_nil ?_
        refine new_Spreading O K (R1.le (k := n + 2) (by lia)) ?_
        intro sp spd H5 hE5 hsp0 hspd0 hspi hspa
        try dsimp only at hE5 hsp0 hspd0
        refine W_attr_meth O hspi hspa (by with_unfolding_all rfl) K.m.a_Spreading_turned (K.o.k_Spreading.get _) K.o.k_Spreading.hd K.m.m_Spreading_turned.isFn K.m.m_Spreading_turned.get K.m.m_Spreading_turned.takes (by with_unfolding_all rfl) ?_
        intro c hc hcL
        try dsimp only at hc
        have hE6 : Ext H5 (upd H5 c (.meth a.fSpreading_turned sp)) := Ext.new hc
        have hL6 := hL5.trans (hE5.le.trans hE6.le)
        refine Wargs_nil ?_
        refine Wcall_of ?_
        refine rebuilt O K (n := n + 16) (R1.le (by lia)) (S := Int) (s := s) (M := nmo tb ti dop) (f := spF p l q' b) (P := fun _ _ => True) hzB (g4.mono hL6) (hE6 _ _ (hE5 _ _ hd4)) (.inl fun _ => rfl) (chg_spread O K (n := n) upd_same ⟨hE6 _ _ hspi, hE6 _ _ hspa⟩ (hw.mono hL6) (h5.mono hL6) hzo hnl) (rok_true _ _ _) ?_
        intro y H7 hB7 hL7 hd7 hy7
        have hgd7 : H7 gd = some (.tab false [(p, .bool true)]) := hB7 _ _ hgdd (hE6 _ _ (hE5 _ _ hg4))
        try dsimp only
        refine Ws_nil ?_
        refine Ws_nil ?_
        exact ⟨⟨by walk_at "v", by walk_at "v", by walk_at "v"⟩, hL14.trans ((hE5.le.trans hE6.le).trans hL7), hB4.trans ((hE5.trans hE6).b.trans hB7), .inr (.inr ⟨rfl, y, by walk_at "v", by rw [esm]; exact hd7, by rw [esm]; exact hy7, hgd7⟩)⟩
      · rename_i hfit
        have hfit : fitB e1 e2 e3 p (.lam l q' b) B = false := by simpa using hfit
        have esm : smF e1 e2 e3 (.call1 (.lam m p B) (.lam l q' b)) s = (.call1 (.lam m p B) (.lam l q' b), s) := by
          show (if fitB e1 e2 e3 p (.lam l q' b) B then _ else _) = _
          rw [hfit]; rfl
        refine iff_ (by decide) ?_
        refine Ws_nil ?_
        refine Ws_nil ?_
        exact ⟨⟨by walk_at "v", by walk_at "v", by walk_at "v"⟩, hL2.trans hE3.le, hB2.trans hE3.b, .inr (.inl ⟨rfl, esm, hE3 _ _ hd2, hE3 _ _ hg2⟩)⟩
    · rename_i hk
      refine iff_ (by decide) ?_
      have esm : smF e1 e2 e3 (.call1 (.lam m p B) own) s = (.call1 (.lam m p B) own, s) := by
        cases own <;> first | rfl | (simp [T.kind] at hk)
      refine Ws_nil ?_
      refine Ws_nil ?_
      exact ⟨⟨by walk_at "v", by walk_at "v", by walk_at "v"⟩, hL2, hB2, .inr (.inl ⟨rfl, esm, hd2, hg2⟩)⟩
  · intro hq10
    obtain ⟨mm, HH⟩ := hq10
    intro hq11
    refine x0_4 hq11 ?_; (try clear hq11); intro hq12 hLe hB hst
    refine x0_3 hq12 ?_; (try clear hq12); intro m1 m2 m3
    dsimp only at m1 m2 m3 hLe hB hst ⊢
    have hL3 := hE1.le.trans hLe
    rcases hst with ⟨h, _⟩ | ⟨_, esm, hds, hgs⟩ | ⟨_, y, m4, hds, hy, hgs⟩
    · cases h
    · refine Ws_ret ?_
      refine We_IfExp ?_
      refine Wb_Compare ?_
      refine We_callB O K.c.nb_len bb_len ?_
      refine Wargs_l (by walk_at "v") ?_
      refine Wargs_nil ?_
      refine W_len_tab hgs hgl (Nat.zero_le _) ?_
      refine We_Int ?_
      refine W_gt ?_
      refine W_truthy_bool ?_
      refine iff_ (by simp) ?_
      refine We_L (by walk_at "v") ?_
      rw [esm] at q
      exact q x HH hB hL3 hds (ht0.mono hL3)
    · refine Ws_ret ?_
      refine We_IfExp ?_
      refine Wb_Compare ?_
      refine We_callB O K.c.nb_len bb_len ?_
      refine Wargs_l (by walk_at "v") ?_
      refine Wargs_nil ?_
      refine W_len_tab hgs hgl (Nat.le_of_ble_eq_true rfl) ?_
      refine We_Int ?_
      refine W_gt ?_
      refine W_truthy_bool ?_
      refine ift (by simp) ?_
      refine We_callK O K.d.d_without_locals.glob K.d.d_without_locals.fn.keep ?_
      refine Wargs_l (by walk_at "v") ?_
      refine Wargs_l (by walk_at "v") ?_
      refine Wargs_l (by walk_at "v") ?_
      refine Wargs_nil ?_
      refine Wcall_of ?_
      refine without_locals O K (R1.le (k := 1) (by lia)) (ht0.mono hL3) hgs hgl ?_
      intro H2 hE2
      exact q y H2 (hB.trans hE2.b) (hL3.trans hE2.le) (hE2 _ _ hds) (hy.mono hE2.le)

end -- MC17

section -- MC18
set_option maxRecDepth 20000
variable {G : Gl} {a : KA} {A : Around} {env : Env} {σ : St} {L : Addr}

theorem chg_small (O : G.Ok) (K : KF G a) {n : Nat} {H₀ : Hp} {r sd w d ti tb dop c : Addr} {F : FAd} {e1 e2 e3 : List (Int × Value)} (hc : H₀ c = some (.meth a.fSmall_turned r)) (hs : Sml a H₀ r sd w F) (hf : FF a H₀ F e1 e2 e3) (hw : Wld a H₀ w d ti) :
    Chg G a H₀ c d (nmo tb ti dop) (smF e1 e2 e3) smP (n + 24) :=
  ⟨_, r, hc, K.m.m_Small_turned.fnIn, fun A R H s t x Q hL hd ht hP q => small_turned O K R (hs.mono hL) (hf.mono hL) (hw.mono hL) hd ht hP q⟩

theorem spread_small (O : G.Ok) (K : KF G a) {n : Nat} (R : Rm A (n + 32)) {H : Hp} {t : T} {x w d ti tb dop : Addr} {s : Int} (ht : Rep a H t x) (hz : t.size ≤ 300) (hsc : t.und []) (hl : t.labs.Nodup) (hp : t.prms.Nodup) (hw : Wld a H w d ti) (hd : H d = some (nmo tb ti dop s)) (hok : ∀ e1 e2 e3, rok (smF e1 e2 e3) smP t s) {Q : Value → Hp → Prop}
    (q : ∀ e1 e2 e3 y H', ExtB d H H' → Le H H' → H' d = some (nmo tb ti dop (reb (smF e1 e2 e3) t s).2) → Rep a H' (reb (smF e1 e2 e3) t s).1 y → Q (.ref y) H') : Wc G A (.ref a.f_spread_small) [.ref x, .ref w] Q H := by
  refine Wc_fun O K.d.d_spread_small.fn R.room ["node", "world"] (bd2 fun _ _ _ _ _ _ _ _ _ => rfl) (by rfl) (by rfl) (by rfl) (by rfl) (by rfl) ?_
  intro L qual cdv hL
  have R1 : Rm (A.deeper (envOf qual (scopeOf (stmtAt 58)) L a.f_spread_small cdv)) (n + 31) := R.deeper
  refine Ws_ret ?_
  refine We_callK O K.d.d_rebuilt.glob K.d.d_rebuilt.fn.keep ?_
  refine Wargs_l (by walk_at "v") ?_
  refine Wargs_c ?_
  refine We_at ?_
  refine We_callK O K.o.k_Small.glob K.o.k_Small.keep ?_
  refine Wargs_c ?_
  refine We_callK O K.d.d_facts_of.glob K.d.d_facts_of.fn.keep ?_
  refine Wargs_c ?_
  refine We_List ?_
  refine Wargs_l (by walk_at "v") ?_
  refine Wargs_nil ?_
  refine ⟨Nat.le_of_ble_eq_true rfl, fun ln hln hlnL => ?_⟩
  try dsimp only at hln ⊢
  have hE1 : Ext H (upd H ln (.list false [.ref x])) := Ext.new hln
  refine Wargs_nil ?_
  refine Wcall_of ?_
  refine facts_of O K (n := n) (R1.le (by lia)) upd_same (ht.mono hE1.le) hz hsc hl hp ?_
  intro F H2 bm pm c S
  try dsimp only at S
  refine x1_3 S.rd ?_; intro er r1 r2 r3
  refine x1_3 S.st ?_; intro es s1 s2 s3
  refine x1_3 S.cl ?_; intro ec c1 c2 c3
  have F1 : Frz G H2 (upd H2 F.read (.tab true er)) := Frz.one r1
  have s1' : upd H2 F.read (.tab true er) F.set = some (.tab false es) := (upd_ne (FAd.ne_set_read S.nod)).trans s1
  have F2 : Frz G (upd H2 F.read (.tab true er)) (upd (upd H2 F.read (.tab true er)) F.set (.tab true es)) := Frz.one s1'
  have c1' : upd (upd H2 F.read (.tab true er)) F.set (.tab true es) F.called = some (.tab false ec) := (upd_ne (FAd.ne_called_set S.nod)).trans ((upd_ne (FAd.ne_called_read S.nod)).trans c1)
  have F3 : Frz G (upd (upd H2 F.read (.tab true er)) F.set (.tab true es)) (upd (upd (upd H2 F.read (.tab true er)) F.set (.tab true es)) F.called (.tab true ec)) := Frz.one c1'
  refine Wt.frz (σ := ⟨_, H2⟩) ((F1.trans F2).trans F3) ?_
  have L2 : Le H2 (upd (upd (upd H2 F.read (.tab true er)) F.set (.tab true es)) F.called (.tab true ec)) := ((Le.mut r1 rfl).trans (Le.mut s1' rfl)).trans (Le.mut c1' rfl)
  have hE2 : Ext H (upd (upd (upd H2 F.read (.tab true er)) F.set (.tab true es)) F.called (.tab true ec)) :=
    ((((hE1.trans S.ext).mut (hE1.none (S.new _ FAd.mem_read))).mut (hE1.none (S.new _ FAd.mem_set))).mut (hE1.none (S.new _ FAd.mem_called)))
  have hFF : FF a (upd (upd (upd H2 F.read (.tab true er)) F.set (.tab true es)) F.called (.tab true ec)) F er es ec :=
    ⟨S.obj.mono L2, ⟨(upd_ne (FAd.ne_read_called S.nod)).trans ((upd_ne (FAd.ne_read_set S.nod)).trans upd_same), r2⟩, ⟨(upd_ne (FAd.ne_set_called S.nod)).trans upd_same, s2⟩, ⟨upd_same, c2⟩⟩
  try dsimp only
  generalize upd (upd (upd H2 F.read (.tab true er)) F.set (.tab true es)) F.called (.tab true ec) = H3 at L2 hE2 hFF
  refine Wargs_l (by walk_at "v") ?_
  refine Wargs_nil ?_
  refine new_Small O K (R1.le (k := n + 2) (by lia)) ?_
  intro r sd H4 hE4 _ _ hi ha
  try dsimp only at hE4
  refine W_attr_meth O hi ha (by with_unfolding_all rfl) K.m.a_Small_turned (K.o.k_Small.get _) K.o.k_Small.hd K.m.m_Small_turned.isFn K.m.m_Small_turned.get K.m.m_Small_turned.takes (by with_unfolding_all rfl) ?_
  intro mt hmt hmtL
  try dsimp only at hmt
  have hE5 : Ext H4 (upd H4 mt (.meth a.fSmall_turned r)) := Ext.new hmt
  have hE := hE2.trans (hE4.trans hE5)
  refine Wargs_nil ?_
  refine Wcall_of ?_
  refine rebuilt O K (n := n + 24) (R1.le (by lia)) (S := Int) (s := s) (M := nmo tb ti dop) (f := smF er es ec) (P := smP) (by lia) (ht.mono hE.le) (hE _ _ hd) (.inl fun _ => rfl) (chg_small O K (n := n) upd_same ⟨hE5 _ _ hi, hE5 _ _ ha⟩ (hFF.mono (hE4.le.trans hE5.le)) (hw.mono hE.le)) (hok er es ec) ?_
  intro y H6 hB6 hL6 hd6 hy6
  exact q er es ec y H6 (hE.b.trans hB6) (hE.le.trans hL6) hd6 hy6

end -- MC18

section -- MK3
structure KI (G : Gl) (a : KA) : Prop where
  sp : specialIn G.K (.builtin "object.__class__") "__get__" = some (some (.builtin "getset_descriptor.__get__"))
  tk : takesIn G.K (.builtin "object.__class__") = some true
  cls_Const : findIn G.K (.ref a.cConst) "__class__" = some (some (.builtin "object.__class__"))
  mro_Const : mroIn G.K a.cConst (.type "object") = some true
  ni_Const_Local : kin_not G.K a.cConst a.cLocal = true
  ni_Const_Lambda : kin_not G.K a.cConst a.cLambda = true
  ni_Const_Global : kin_not G.K a.cConst a.cGlobal = true
  cls_Local : findIn G.K (.ref a.cLocal) "__class__" = some (some (.builtin "object.__class__"))
  mro_Local : mroIn G.K a.cLocal (.type "object") = some true
  ni_Local_Const : kin_not G.K a.cLocal a.cConst = true
  ni_Local_Lambda : kin_not G.K a.cLocal a.cLambda = true
  ni_Local_Global : kin_not G.K a.cLocal a.cGlobal = true
  cls_Global : findIn G.K (.ref a.cGlobal) "__class__" = some (some (.builtin "object.__class__"))
  mro_Global : mroIn G.K a.cGlobal (.type "object") = some true
  ni_Global_Const : kin_not G.K a.cGlobal a.cConst = true
  ni_Global_Local : kin_not G.K a.cGlobal a.cLocal = true
  ni_Global_Lambda : kin_not G.K a.cGlobal a.cLambda = true
  cls_Lambda : findIn G.K (.ref a.cLambda) "__class__" = some (some (.builtin "object.__class__"))
  mro_Lambda : mroIn G.K a.cLambda (.type "object") = some true
  ni_Lambda_Const : kin_not G.K a.cLambda a.cConst = true
  ni_Lambda_Local : kin_not G.K a.cLambda a.cLocal = true
  ni_Lambda_Global : kin_not G.K a.cLambda a.cGlobal = true
  cls_Call : findIn G.K (.ref a.cCall) "__class__" = some (some (.builtin "object.__class__"))
  mro_Call : mroIn G.K a.cCall (.type "object") = some true
  ni_Call_Const : kin_not G.K a.cCall a.cConst = true
  ni_Call_Local : kin_not G.K a.cCall a.cLocal = true
  ni_Call_Lambda : kin_not G.K a.cCall a.cLambda = true
  ni_Call_Global : kin_not G.K a.cCall a.cGlobal = true

variable {G : Gl} {a : KA} {A : Around} {σ : St} {L : Addr}
theorem W_isin_true (O : G.Ok) {x C d : Addr} {Q : Value → St → Prop} (hx : σ.H x = some (.inst C d)) (q : Q (.bool true) σ) : Wcall G A L (.builtin "isinstance") [.ref x, .ref C] Q σ := fun us hu s X => by
  (refine x2_3 (two_args hu) ?_; intro u u' rfl h1 h2)
  obtain rfl := er_ref h1
  obtain rfl := er_ref h2
  refine x1_3 (X.at hx) ?_; intro o ho hi _
  obtain rfl : o = instObj C d := hi
  exact isi_call (t := .ref C) (X.kin O) (fun M => (Looks.ld ho).andThen .now) (by unfold isIn; simp) (by intro q; cases q) ⟨σ, X, Out.refl .., q⟩
theorem W_isin_false (O : G.Ok) {x D C d fi : Addr} {z : Bool} {fs : List (Str × Value)} {nm : Str} {st : Stmt} {Q : Value → St → Prop} (I : KI G a) (k : ClsK G nm D fi st) (hx : σ.H x = some (.inst D d)) (hd : σ.H d = some (.attrs z fs)) (e : kin_not G.K D C = true)
    (hc : findIn G.K (.ref D) "__class__" = some (some (.builtin "object.__class__"))) (hm : mroIn G.K D (.type "object") = some true) (q : Q (.bool false) σ) : Wcall G A L (.builtin "isinstance") [.ref x, .ref C] Q σ := fun us hu s X => by
  (refine x2_3 (two_args hu) ?_; intro u u' rfl h1 h2)
  obtain rfl := er_ref h1
  obtain rfl := er_ref h2
  refine x2_3 (inst_of X hx hd) ?_; intro es n hA II _
  exact kin_callC (X.kin O) II e (k.get _) k.hd hc I.sp I.tk hm ⟨σ, X.tok, Out.tok, q⟩

noncomputable def T.isConst : T → Bool
  | .con _ => true
  | _ => false
theorem W_isConst (O : G.Ok) (K : KF G a) (I : KI G a) {t : T} {x : Addr} (hr : Rep a σ.H t x) {Q : Value → St → Prop} (q : Q (.bool t.isConst) σ) : Wcall G A L (.builtin "isinstance") [.ref x, .ref a.cConst] Q σ := by
  cases t
  · refine x1_2 hr ?_; (try clear hr); intro d h1 h2; exact W_isin_true O h1 q
  · refine x1_2 hr ?_; (try clear hr); intro d h1 h2; exact W_isin_false O I K.n.k_Local h1 h2 I.ni_Local_Const I.cls_Local I.mro_Local q
  · refine x1_2 hr ?_; (try clear hr); intro d h1 h2; exact W_isin_false O I K.n.k_Global h1 h2 I.ni_Global_Const I.cls_Global I.mro_Global q
  · refine x3_3 hr ?_; (try clear hr); intro d pl y h1 h2 _; exact W_isin_false O I K.n.k_Lambda h1 h2 I.ni_Lambda_Const I.cls_Lambda I.mro_Lambda q
  · refine x4_3 hr ?_; (try clear hr); intro d y ol z h1 h2 _; exact W_isin_false O I K.n.k_Call h1 h2 I.ni_Call_Const I.cls_Call I.mro_Call q
  · refine x5_3 hr ?_; (try clear hr); intro d y ol z w h1 h2 _; exact W_isin_false O I K.n.k_Call h1 h2 I.ni_Call_Const I.cls_Call I.mro_Call q
noncomputable def T.isLocal : T → Bool
  | .loc _ => true
  | _ => false
theorem W_isLocal (O : G.Ok) (K : KF G a) (I : KI G a) {t : T} {x : Addr} (hr : Rep a σ.H t x) {Q : Value → St → Prop} (q : Q (.bool t.isLocal) σ) : Wcall G A L (.builtin "isinstance") [.ref x, .ref a.cLocal] Q σ := by
  cases t
  · refine x1_2 hr ?_; (try clear hr); intro d h1 h2; exact W_isin_false O I K.n.k_Const h1 h2 I.ni_Const_Local I.cls_Const I.mro_Const q
  · refine x1_2 hr ?_; (try clear hr); intro d h1 h2; exact W_isin_true O h1 q
  · refine x1_2 hr ?_; (try clear hr); intro d h1 h2; exact W_isin_false O I K.n.k_Global h1 h2 I.ni_Global_Local I.cls_Global I.mro_Global q
  · refine x3_3 hr ?_; (try clear hr); intro d pl y h1 h2 _; exact W_isin_false O I K.n.k_Lambda h1 h2 I.ni_Lambda_Local I.cls_Lambda I.mro_Lambda q
  · refine x4_3 hr ?_; (try clear hr); intro d y ol z h1 h2 _; exact W_isin_false O I K.n.k_Call h1 h2 I.ni_Call_Local I.cls_Call I.mro_Call q
  · refine x5_3 hr ?_; (try clear hr); intro d y ol z w h1 h2 _; exact W_isin_false O I K.n.k_Call h1 h2 I.ni_Call_Local I.cls_Call I.mro_Call q
noncomputable def T.isLambda : T → Bool
  | .lam .. => true
  | _ => false
theorem W_isLambda (O : G.Ok) (K : KF G a) (I : KI G a) {t : T} {x : Addr} (hr : Rep a σ.H t x) {Q : Value → St → Prop} (q : Q (.bool t.isLambda) σ) : Wcall G A L (.builtin "isinstance") [.ref x, .ref a.cLambda] Q σ := by
  cases t
  · refine x1_2 hr ?_; (try clear hr); intro d h1 h2; exact W_isin_false O I K.n.k_Const h1 h2 I.ni_Const_Lambda I.cls_Const I.mro_Const q
  · refine x1_2 hr ?_; (try clear hr); intro d h1 h2; exact W_isin_false O I K.n.k_Local h1 h2 I.ni_Local_Lambda I.cls_Local I.mro_Local q
  · refine x1_2 hr ?_; (try clear hr); intro d h1 h2; exact W_isin_false O I K.n.k_Global h1 h2 I.ni_Global_Lambda I.cls_Global I.mro_Global q
  · refine x3_3 hr ?_; (try clear hr); intro d pl y h1 h2 _; exact W_isin_true O h1 q
  · refine x4_3 hr ?_; (try clear hr); intro d y ol z h1 h2 _; exact W_isin_false O I K.n.k_Call h1 h2 I.ni_Call_Lambda I.cls_Call I.mro_Call q
  · refine x5_3 hr ?_; (try clear hr); intro d y ol z w h1 h2 _; exact W_isin_false O I K.n.k_Call h1 h2 I.ni_Call_Lambda I.cls_Call I.mro_Call q
noncomputable def T.isGlobal : T → Bool
  | .glob => true
  | _ => false
theorem W_isGlobal (O : G.Ok) (K : KF G a) (I : KI G a) {t : T} {x : Addr} (hr : Rep a σ.H t x) {Q : Value → St → Prop} (q : Q (.bool t.isGlobal) σ) : Wcall G A L (.builtin "isinstance") [.ref x, .ref a.cGlobal] Q σ := by
  cases t
  · refine x1_2 hr ?_; (try clear hr); intro d h1 h2; exact W_isin_false O I K.n.k_Const h1 h2 I.ni_Const_Global I.cls_Const I.mro_Const q
  · refine x1_2 hr ?_; (try clear hr); intro d h1 h2; exact W_isin_false O I K.n.k_Local h1 h2 I.ni_Local_Global I.cls_Local I.mro_Local q
  · refine x1_2 hr ?_; (try clear hr); intro d h1 h2; exact W_isin_true O h1 q
  · refine x3_3 hr ?_; (try clear hr); intro d pl y h1 h2 _; exact W_isin_false O I K.n.k_Lambda h1 h2 I.ni_Lambda_Global I.cls_Lambda I.mro_Lambda q
  · refine x4_3 hr ?_; (try clear hr); intro d y ol z h1 h2 _; exact W_isin_false O I K.n.k_Call h1 h2 I.ni_Call_Global I.cls_Call I.mro_Call q
  · refine x5_3 hr ?_; (try clear hr); intro d y ol z w h1 h2 _; exact W_isin_false O I K.n.k_Call h1 h2 I.ni_Call_Global I.cls_Call I.mro_Call q

end -- MK3

section -- MC19
set_option maxRecDepth 20000
variable {G : Gl} {a : KA} {A : Around} {env : Env} {σ : St} {L : Addr}

noncomputable def vi (ds : List Int) : List Value := ds.map fun i => .int i 0
structure Deck (H : Hp) (dk : Addr) (ds : List Int) : Prop where
  at_ : H dk = some (.list false (vi ds))
  ne : ds ≠ []
  pos : ∀ d ∈ ds, 0 ≤ d
  small : ds.length ≤ 100
theorem vi_cons (d : Int) (ds : List Int) : vi (d :: ds) = .int d 0 :: vi ds := rfl
theorem vi_length (ds : List Int) : (vi ds).length = ds.length := by unfold vi; rw [List.length_map]


theorem law_draw (O : G.Ok) (K : KF G a) {n : Nat} (R : Rm A (n + 1)) {H : Hp} {dk : Addr} {ds : List Int} {m : Int} (hD : Deck H dk ds) (hm : 0 < m) (hpy : ∀ x, Builtin.divisionGoesByPylong x m = false) {Q : Value → Hp → Prop}
    (q : ∀ r ds' H', 0 ≤ r → r < m → Deck H' dk ds' → ExtB dk H H' → Q (.int r 0) H') : Wc G A (.ref a.f_x_law_draw) [.ref dk, .int m 0] Q H := by
  refine Wc_fun O K.d.d_x_law_draw.fn R.room ["_law_deck", "_law_many"] (bd2 fun _ _ _ _ _ _ _ _ _ => rfl) (by rfl) (by rfl) (by rfl) (by rfl) (by rfl) ?_
  intro L qual cdv hL
  have R1 : Rm (A.deeper (envOf qual (scopeOf (stmtAt 62)) L a.f_x_law_draw cdv)) n := R.deeper
  refine Ws_cons ?_
  refine Wt.mono (Q := fun fl σ₁ => fl = .next ∧ ∃ ds', σ₁.m = bindm ["_law_deck", "_law_many"] [.ref dk, .int m 0] ∧ Deck σ₁.H dk ds' ∧ ExtB dk H σ₁.H) ?_ ?_
  · refine Wst_While (fun j σ => ∃ ds', j = ds'.length ∧ σ.m = bindm ["_law_deck", "_law_many"] [.ref dk, .int m 0] ∧ Deck σ.H dk ds' ∧ ExtB dk H σ.H) ds.length ⟨ds, rfl, rfl, hD, (Ext.refl H).b⟩ ?_
    intro j hq1
    obtain ⟨mm, HH⟩ := hq1
    intro hq2
    refine x1_4 hq2 ?_; (try clear hq2); intro ds' rfl hmm hD' hB
    dsimp only at hmm hD' hB
    subst hmm
    obtain ⟨d, r, rfl⟩ : ∃ d r, ds' = d :: r := by cases ds' with | nil => exact absurd rfl hD'.ne | cons d r => exact ⟨d, r, rfl⟩
    have hat := hD'.at_
    have hs := hD'.small
    rw [List.length_cons] at hs
    rw [vi_cons] at hat
    refine Wb_BoolOp ?_
    refine Wall_And ?_
    refine Wb_Compare ?_
    refine We_callB O K.c.nb_len bb_len ?_
    refine Wargs_l (by walk_at "v") ?_
    refine Wargs_nil ?_
    refine W_len_list hat (by rw [List.length_cons, vi_length]; lia) ?_
    refine We_Int ?_
    refine W_gt ?_
    refine W_truthy_bool ?_
    refine ifs (fun _ => ?_) (fun _ => ?_)
    · rename_i hgt
      have hr : r ≠ [] := fun e => by subst e; simp [vi] at hgt
      refine Wall_And ?_
      refine Wb_Compare ?_
      refine We_Subscript ?_
      refine We_L (by walk_at "v") ?_
      refine We_Int ?_
      refine W_item_list hat (by decide) (by decide) (x := .int d 0) rfl ?_
      refine We_Int ?_
      refine W_eq ?_
      refine W_truthy_bool ?_
      refine ifs (fun _ => ?_) (fun _ => ?_)
      · refine Wall_And_nil ?_
        refine ift rfl ?_
        refine Ws_cons ?_
        refine Wst_ExprA ?_
        refine We_MethodCall ?_
        refine We_L (by walk_at "v") ?_
        refine W_bcall (gm_list hat PySem.F.slot_list_pop (by rfl)) ?_
        refine Wargs_c ?_
        refine We_Int ?_
        refine Wargs_nil ?_
        refine W_pop0 hat (by rw [vi_length]; lia) ?_
        try dsimp only
        refine Ws_nil ?_
        exact ⟨r.length, Nat.lt_succ_self _, r, rfl, rfl, ⟨upd_same, hr, fun x hx => hD'.pos x (.tail _ hx), by lia⟩, hB.at_⟩
      · refine iff_ (by decide) ?_
        exact ⟨rfl, _, rfl, hD', hB⟩
    · refine iff_ (by decide) ?_
      exact ⟨rfl, _, rfl, hD', hB⟩
  intro _ hq3
  obtain ⟨mm, HH⟩ := hq3
  intro hq4
  obtain ⟨rfl, ds', hmm, hD', hB⟩ := hq4
  dsimp only at hmm hD' hB
  subst hmm
  obtain ⟨d, r, rfl⟩ : ∃ d r, ds' = d :: r := by cases ds' with | nil => exact absurd rfl hD'.ne | cons d r => exact ⟨d, r, rfl⟩
  have hd0 : 0 ≤ d := hD'.pos d (.head _)
  have hat := hD'.at_
  have hs := hD'.small
  rw [List.length_cons] at hs
  rw [vi_cons] at hat
  have step : ∀ d', 0 ≤ d' → Deck (upd HH dk (.list false (vi (d' :: r)))) dk (d' :: r) := fun d' h => ⟨upd_same, by simp, fun x hx => by
    rcases List.mem_cons.mp hx with rfl | hx
    · exact h
    · exact hD'.pos x (.tail _ hx), by rw [List.length_cons]; lia⟩
  refine Ws_cons ?_
  refine Wst_If ?_
  refine Wb_Compare ?_
  refine We_callB O K.c.nb_len bb_len ?_
  refine Wargs_l (by walk_at "v") ?_
  refine Wargs_nil ?_
  refine W_len_list hat (by rw [List.length_cons, vi_length]; lia) ?_
  refine We_Int ?_
  refine W_gt ?_
  refine W_truthy_bool ?_
  refine ifs (fun _ => ?_) (fun _ => ?_)
  · refine Ws_asg ?_
    refine We_BinOp ?_
    refine We_Subscript ?_
    refine We_L (by walk_at "v") ?_
    refine We_Int ?_
    refine W_item_list hat (by decide) (by decide) (x := .int d 0) rfl ?_
    refine We_L (by walk_at "v") ?_
    refine W_mod (by lia) ?_
    try dsimp only
    refine Ws_cons ?_
    refine Wst_AssignSub ?_
    refine We_BinOp ?_
    refine We_Subscript ?_
    refine We_L (by walk_at "v") ?_
    refine We_Int ?_
    refine W_item_list hat (by decide) (by decide) (x := .int d 0) rfl ?_
    refine We_L (by walk_at "v") ?_
    refine W_floordiv (by lia) (hpy d) ?_
    refine We_L (by walk_at "v") ?_
    refine We_Int ?_
    intro v' u' k' hv' hu' hk'
    obtain rfl := er_ref hu'
    refine W_setItem_list hat (by decide) (by simp) (by rw [List.length_cons, vi_length]; lia) ?_ k' hk'
    rw [hv']
    try dsimp only
    refine Ws_ret ?_
    refine We_L (by walk_at "v") ?_
    exact q _ _ _ (Int.fmod_nonneg_of_pos d hm) (Int.fmod_lt_of_pos d hm) (step (d.fdiv m) (Int.fdiv_nonneg hd0 (by lia))) hB.at_
  · refine Ws_nil ?_
    refine Ws_cons ?_
    refine Wst_AssignSub ?_
    refine We_BinOp ?_
    refine We_BinOp ?_
    refine We_BinOp ?_
    refine We_Subscript ?_
    refine We_L (by walk_at "v") ?_
    refine We_Int ?_
    refine W_item_list hat (by decide) (by decide) (x := .int d 0) rfl ?_
    refine We_Int ?_
    refine W_mul (IntMulOk.of_right (by decide)) ?_
    refine We_Int ?_
    refine W_add ?_
    refine We_Int ?_
    refine W_mod (by decide) ?_
    refine We_L (by walk_at "v") ?_
    refine We_Int ?_
    intro v' u' k' hv' hu' hk'
    obtain rfl := er_ref hu'
    refine W_setItem_list hat (by decide) (by simp) (by rw [List.length_cons, vi_length]; lia) ?_ k' hk'
    rw [hv']
    have hn : 0 ≤ (d * 48271 + 11).fmod 2147483647 := Int.fmod_nonneg_of_pos _ (by decide)
    try dsimp only
    refine Ws_ret ?_
    refine We_BinOp ?_
    refine We_BinOp ?_
    refine We_Subscript ?_
    refine We_L (by walk_at "v") ?_
    refine We_Int ?_
    refine W_item_list (xs := vi ((d * 48271 + 11).fmod 2147483647 :: r)) upd_same (by decide) (by decide) (x := .int ((d * 48271 + 11).fmod 2147483647) 0) rfl ?_
    refine We_Int ?_
    refine W_floordiv (by decide) rfl ?_
    refine We_L (by walk_at "v") ?_
    refine W_mod (by lia) ?_
    exact q _ _ _ (Int.fmod_nonneg_of_pos _ hm) (Int.fmod_lt_of_pos _ hm) (step _ hn) hB.at_

end -- MC19

section -- MC20
set_option maxRecDepth 20000
variable {G : Gl} {a : KA} {A : Around} {env : Env} {σ : St} {L : Addr}

theorem W_pow1060 {Q : Value → St → Prop} (q : Q (.int (10 ^ 60) 0) σ) : Wv2 G A L er (binaryOp .Pow) (.int 10 0) (.int 60 0) Q σ := W_pow (by decide) (by decide) (by decide) (by decide) (by decide) q
theorem W_pow109 {Q : Value → St → Prop} (q : Q (.int (10 ^ 9) 0) σ) : Wv2 G A L er (binaryOp .Pow) (.int 10 0) (.int 9 0) Q σ := W_pow (by decide) (by decide) (by decide) (by decide) (by decide) q

theorem law_deck_of (O : G.Ok) (K : KF G a) {n : Nat} (R : Rm A (n + 2)) {H : Hp} {sc : Addr} {ns : List Int} (hsc : ∃ vs, G.B.IsList sc vs ∧ vs.toList.map er = vi ns) (hz : ns.length ≤ 1000000) {Q : Value → Hp → Prop}
    (q : ∀ dk ds H', Ext H H' → H dk = none → Deck H' dk ds → Q (.ref dk) H') : Wc G A (.ref a.f_x_law_deck_of) [.ref sc] Q H := by
  refine Wc_fun O K.d.d_x_law_deck_of.fn R.room ["script"] (bd1 fun _ _ _ _ _ _ _ _ => rfl) (by rfl) (by rfl) (by rfl) (by rfl) (by rfl) ?_
  intro L qual cdv hL
  have R1 : Rm (A.deeper (envOf qual (scopeOf (stmtAt 63)) L a.f_x_law_deck_of cdv)) (n + 1) := R.deeper
  refine Ws_asg ?_
  refine We_Int ?_
  try dsimp only
  refine Ws_cons ?_
  refine Wst_For_list R1.hd ?_
  refine W_slice_upto ?_
  refine We_L (by walk_at "v") ?_
  refine We_Int ?_
  refine ⟨sc, _, 24, rfl, rfl, .inr hsc, by rw [vi_length]; exact hz, fun sl hsl hslL => ?_⟩
  try dsimp only at hsl ⊢
  have hE1 : Ext H (upd H sl (.list false ((vi ns).take 24))) := Ext.new hsl
  refine ⟨sl, (vi ns).take 24, fun i σ => σ.m "script" = some (.ref sc) ∧ Ext (upd H sl (.list false ((vi ns).take 24))) σ.H ∧ ∃ mx, 0 ≤ mx ∧ σ.m "_law_mixed" = some (.int mx 0), rfl, ?_⟩
  refine ⟨⟨by walk_at "v", .refl _, 7, by decide, by walk_at "v"⟩, fun i σ h => ⟨_, h.2.1 _ _ upd_same⟩, ?_, ?_⟩
  · intro i v hq1
    obtain ⟨mm, HH⟩ := hq1
    intro hv hq2
    obtain ⟨m1, hE, mx, hmx, m2⟩ := hq2
    intro u hu
    dsimp only at m1 hE m2
    obtain ⟨c, rfl⟩ : ∃ c, v = .int c 0 := by
      have := List.mem_of_getElem? hv
      have := List.mem_of_mem_take this
      refine x1_2 (List.mem_map.mp this) ?_; intro c _ rfl
      exact ⟨c, rfl⟩
    refine W_nm hu ?_
    refine Ws_asg ?_
    refine We_BinOp ?_
    refine We_BinOp ?_
    refine We_BinOp ?_
    refine We_BinOp ?_
    refine We_L (by walk_at "v") ?_
    refine We_Int ?_
    refine W_mul (IntMulOk.of_right (by decide)) ?_
    refine We_BinOp ?_
    refine We_callB O K.c.nb_abs bb_abs ?_
    refine Wargs_l (by walk_at "v") ?_
    refine Wargs_nil ?_
    refine W_abs ?_
    refine We_BinOp ?_
    refine We_Int ?_
    refine We_Int ?_
    refine W_pow1060 ?_
    refine W_mod (by decide) ?_
    refine W_add ?_
    refine We_Int ?_
    refine W_add ?_
    refine We_Int ?_
    refine W_mod (by decide) ?_
    try dsimp only
    refine Ws_nil ?_
    exact ⟨by walk_at "v", hE, (mx * 31 + (if c < 0 then -c else c).fmod (10 ^ 60) + 3).fmod 2147483647, Int.fmod_nonneg_of_pos _ (by decide), by walk_at "v"⟩
  · intro hq3
    obtain ⟨mm, HH⟩ := hq3
    intro hq4
    obtain ⟨m1, hE, mx, hmx, m2⟩ := hq4
    dsimp only at m1 hE m2
    have hEE := hE1.trans hE
    refine Ws_ret ?_
    refine We_BinOp ?_
    refine We_ListComp [] R1.hd ?_
    refine W_slice_upto ?_
    refine We_L (by walk_at "v") ?_
    refine We_Int ?_
    refine ⟨sc, _, 24, rfl, rfl, .inr hsc, by rw [vi_length]; exact hz, fun s2 hs2 hs2L => ?_⟩
    try dsimp only at hs2 ⊢
    have hE3 : Ext HH (upd HH s2 (.list false ((vi ns).take 24))) := Ext.new hs2
    have hs3 : upd HH s2 (.list false ((vi ns).take 24)) s2 = some (.list false ((vi ns).take 24)) := upd_same
    have hE4 := hEE.trans hE3
    generalize upd HH s2 (.list false ((vi ns).take 24)) = H3 at hE3 hs3 hE4
    have hl24 : ((vi ns).take 24).length ≤ 24 := by rw [List.length_take]; exact Nat.min_le_left _ _
    refine ⟨_, _, _, fun acc i ys H' => (H' acc = some (.list false ys) ∧ H3 acc = none ∧ Ext H3 H') ∧ (∃ ds, ys = vi ds ∧ (∀ d ∈ ds, 0 ≤ d) ∧ ds.length ≤ i), Src.list hs3, ?_⟩
    refine ⟨by lia, fun acc h => ⟨⟨upd_same, h, Ext.new h⟩, [], rfl, (fun d hd => nomatch hd), Nat.le_refl _⟩, fun acc i ys H' ⟨⟨j1, j2, j3⟩, ds, e, _, hl⟩ => ⟨j1, ⟨_, j3 _ _ hs3⟩, by rw [e, vi_length]; exact hl⟩, ?_, ?_⟩
    · intro acc C i v ys H' hi hP hq5
      obtain ⟨hq6, ds, rfl, hds, hl⟩ := hq5
      refine x0_3 hq6 ?_; (try clear hq6); intro j1 j2 j3
      intro hCa hHC
      obtain ⟨c, rfl⟩ : ∃ c, v = .int c 0 := by
        have := List.mem_of_getElem? hP
        have := List.mem_of_mem_take this
        refine x1_2 (List.mem_map.mp this) ?_; intro c _ rfl
        exact ⟨c, rfl⟩
      refine Wts_one ?_
      refine Wb_Compare ?_
      refine We_callB O K.c.nb_abs bb_abs ?_
      refine Wargs_l (by walk_at "v") ?_
      refine Wargs_nil ?_
      refine W_abs ?_
      generalize (if c < 0 then -c else c) = ac
      refine We_BinOp ?_
      refine We_Int ?_
      refine We_Int ?_
      refine W_pow109 ?_
      refine W_ge ?_
      refine W_truthy_bool ?_
      refine ifs (fun _ => ?_) (fun _ => ?_)
      · refine We_BinOp ?_
        refine We_callB O K.c.nb_abs bb_abs ?_
        refine Wargs_l (by walk_at "v") ?_
        refine Wargs_nil ?_
        refine W_abs ?_
        generalize (if c < 0 then -c else c) = ac2
        refine We_BinOp ?_
        refine We_Int ?_
        refine We_Int ?_
        refine W_pow1060 ?_
        refine W_mod (by decide) ?_
        refine ⟨j1, ⟨upd_same, j2, j3.mut j2⟩, ds ++ [ac2.fmod (10 ^ 60)], by simp [vi], fun d hd => ?_, by rw [List.length_append]; exact Nat.succ_le_succ hl⟩
        rcases List.mem_append.mp hd with hd | hd
        · exact hds d hd
        · rw [List.mem_singleton.mp hd]; exact Int.fmod_nonneg_of_pos _ (by decide)
      · exact ⟨⟨j1, j2, j3⟩, ds, rfl, hds, Nat.le_succ_of_le hl⟩
    · intro acc ys H' hacc hq7
      obtain ⟨hq8, ds, rfl, hds, hl⟩ := hq7
      refine x0_3 hq8 ?_; (try clear hq8); intro j1 j2 j3
      refine We_List ?_
      refine Wargs_l (by walk_at "v") ?_
      refine Wargs_nil ?_
      refine ⟨Nat.le_of_ble_eq_true rfl, fun ml hml hmlL => ?_⟩
      try dsimp only at hml ⊢
      have hE5 : Ext H' (upd H' ml (.list false [.int mx 0])) := Ext.new hml
      refine W_addList (hE5 _ _ j1) upd_same (by rw [vi_length, List.length_singleton]; lia) ?_
      intro dk hdk hdkL
      have hE6 := (hE4.trans j3).trans hE5
      have e : vi ds ++ [Value.int mx 0] = vi (ds ++ [mx]) := by simp [vi]
      rw [e]
      refine q dk (ds ++ [mx]) _ (hE6.trans (Ext.new hdk)) (hE6.none hdk) ⟨upd_same, by simp, fun d hd => ?_, by rw [List.length_append, List.length_singleton]; lia⟩
      rcases List.mem_append.mp hd with hd | hd
      · exact hds d hd
      · rw [List.mem_singleton.mp hd]; exact hmx

end -- MC20

section -- MT5

/-- one let of the law's chain -/
structure It where
  own : Int
  lab : Int
  num : Int
  c : Nat
  prev : Option Int
noncomputable def headT : Option Int → T
  | none => .glob
  | some n => .loc n
noncomputable def tower (h : T) : Nat → T → T
  | 0, e => e
  | c + 1, e => .call1 h (tower h c e)
noncomputable def It.lam (i : It) : T := .lam i.lab i.own (tower (headT i.prev) i.c (.loc i.own))
noncomputable def topN (l : List It) : Option Int := l.head?.map It.num
noncomputable def stepI (p : Int × List It) (c : Nat) : Int × List It := (p.1 + 3, ⟨p.1 + 1, p.1 + 2, p.1 + 3, c, topN p.2⟩ :: p.2)
noncomputable def itsOf (s : Int) (cs : List Nat) : Int × List It := cs.foldl stepI (s, [])
noncomputable def wrap (s : Int) (B : T) : List It → T
  | [] => B
  | i :: r => wrap (s + 1) (.call1 (.lam (s + 1) i.num B) i.lam) r
noncomputable def coreT (h : T) (m : Nat) (ill : Bool) : T := if ill then .call2 h (tower h m (.con 1)) (.con 2) else tower h m (.con 1)
noncomputable def chainT (s : Int) (cs : List Nat) (m : Nat) (ill : Bool) : T := wrap (itsOf s cs).1 (coreT (headT (topN (itsOf s cs).2)) m ill) (itsOf s cs).2
noncomputable def numsV (l : List It) : List Value := l.reverse.map fun i => Value.int i.num 0
noncomputable def lamsT (l : List It) : List T := l.reverse.map It.lam
noncomputable def vn (cs : List Nat) : List Value := cs.map fun (c : Nat) => Value.int (c : Int) 0
theorem vn_length (cs : List Nat) : (vn cs).length = cs.length := by unfold vn; rw [List.length_map]
theorem itsOf_take {s : Int} {cs : List Nat} {i c : Nat} (h : cs[i]? = some c) : itsOf s (cs.take (i + 1)) = stepI (itsOf s (cs.take i)) c := by
  unfold itsOf
  rw [List.take_add_one, h, Option.toList_some, List.foldl_append]
  rfl
theorem numsV_cons (i : It) (l : List It) : numsV (i :: l) = numsV l ++ [.int i.num 0] := by unfold numsV; rw [List.reverse_cons, List.map_append]; rfl
theorem lamsT_cons (i : It) (l : List It) : lamsT (i :: l) = lamsT l ++ [i.lam] := by unfold lamsT; rw [List.reverse_cons, List.map_append]; rfl
theorem itsOf_len (s : Int) (cs : List Nat) : (itsOf s cs).2.length = cs.length := by
  have : ∀ (cs : List Nat) (p : Int × List It), (cs.foldl stepI p).2.length = p.2.length + cs.length := by
    intro cs
    induction cs with
    | nil => intro p; rfl
    | cons c cs ih => intro p; rw [List.foldl_cons, ih]; unfold stepI; simp only [List.length_cons]; lia
  unfold itsOf
  rw [this]
  exact Nat.zero_add _
theorem numsV_length (l : List It) : (numsV l).length = l.length := by unfold numsV; rw [List.length_map, List.length_reverse]
theorem lamsT_length (l : List It) : (lamsT l).length = l.length := by unfold lamsT; rw [List.length_map, List.length_reverse]

end -- MT5

section -- MC21
set_option maxRecDepth 20000
variable {G : Gl} {a : KA} {A : Around} {env : Env} {σ : St} {L : Addr}

/-- the k-th statement of a def; the body of a loop -/
noncomputable def bst (st : Stmt) (k : Nat) : Stmt := (bodyOf st).getD k (.Pass default)
noncomputable def fbody : Stmt → List Stmt
  | .For _ _ b _ _ => b
  | _ => []

theorem mk_call1 (O : G.Ok) (K : KF G a) {n : Nat} (R : Rm A (n + 2)) {m : Str → Option Value} {H : Hp} {f g : T} {y z ol : Addr} (hol : H ol = none) (hf : Rep a H f y) (hg : Rep a H g z) {Q : Value → St → Prop}
    (q : ∀ r H', Ext H H' → Rep a H' (.call1 f g) r → Q (.ref r) ⟨m, H'⟩) : Wcall G A L (.ref a.cCall) [.ref y, .ref ol] Q ⟨m, upd H ol (.list false [.ref z])⟩ := by
  refine Wcall.frz (Frz.one (a := ol) upd_same) ?_
  refine new_Call O K R ?_
  intro r d' H' hE' _ _ g1 g2
  have hE : Ext H H' := ((Ext.new hol).mut hol).trans hE'
  exact q r H' hE ⟨d', y, ol, z, g1, g2, hE' _ _ upd_same, hf.mono hE.le, hg.mono hE.le⟩
theorem mk_call2 (O : G.Ok) (K : KF G a) {n : Nat} (R : Rm A (n + 2)) {m : Str → Option Value} {H : Hp} {f g k : T} {y z u ol : Addr} (hol : H ol = none) (hf : Rep a H f y) (hg : Rep a H g z) (hk : Rep a H k u) {Q : Value → St → Prop}
    (q : ∀ r H', Ext H H' → Rep a H' (.call2 f g k) r → Q (.ref r) ⟨m, H'⟩) : Wcall G A L (.ref a.cCall) [.ref y, .ref ol] Q ⟨m, upd H ol (.list false [.ref z, .ref u])⟩ := by
  refine Wcall.frz (Frz.one (a := ol) upd_same) ?_
  refine new_Call O K R ?_
  intro r d' H' hE' _ _ g1 g2
  have hE : Ext H H' := ((Ext.new hol).mut hol).trans hE'
  exact q r H' hE ⟨d', y, ol, z, u, g1, g2, hE' _ _ upd_same, hf.mono hE.le, hg.mono hE.le, hk.mono hE.le⟩
theorem mk_lam (O : G.Ok) (K : KF G a) {n : Nat} (R : Rm A (n + 2)) {m : Str → Option Value} {H : Hp} {b : T} {y pl : Addr} {l p : Int} (hpl : H pl = none) (hb : Rep a H b y) {Q : Value → St → Prop}
    (q : ∀ r H', Ext H H' → Rep a H' (.lam l p b) r → Q (.ref r) ⟨m, H'⟩) : Wcall G A L (.ref a.cLambda) [.int l 0, .ref pl, .int (-1) 0, .ref y] Q ⟨m, upd H pl (.list false [.int p 0])⟩ := by
  refine Wcall.frz (Frz.one (a := pl) upd_same) ?_
  refine new_Lambda O K R ?_
  intro r d' H' hE' _ _ g1 g2
  have hE : Ext H H' := ((Ext.new hpl).mut hpl).trans hE'
  exact q r H' hE ⟨d', pl, y, g1, g2, hE' _ _ upd_same, hb.mono hE.le⟩

structure ChM (w : Addr) (last : Nat) (ill : Bool) (nl ll : Addr) (m : Str → Option Value) : Prop where
  n : m "_law_names" = some (.ref w)
  l : m "_law_last" = some (.int (last : Int) 0)
  i : m "_law_is_ill" = some (.bool ill)
  nu : m "_law_numbers" = some (.ref nl)
  la : m "_law_lambdas" = some (.ref ll)
theorem ChM.put {w : Addr} {last : Nat} {ill : Bool} {nl ll : Addr} {m : Str → Option Value} (h : ChM w last ill nl ll m) {x : Str} {v : Value} (hx : ¬ (x = "_law_names" ∨ x = "_law_last" ∨ x = "_law_is_ill" ∨ x = "_law_numbers" ∨ x = "_law_lambdas") := by with_unfolding_all decide) : ChM w last ill nl ll (setm m x v) := by
  simp only [not_or] at hx
  refine x0_5 hx ?_; (try clear hx); intro h1 h2 h3 h4 h5
  exact ⟨setm_other (Ne.symm h1) h.n, setm_other (Ne.symm h2) h.l, setm_other (Ne.symm h3) h.i, setm_other (Ne.symm h4) h.nu, setm_other (Ne.symm h5) h.la⟩

structure ChH (a : KA) (H H' : Hp) (d tb ti dop nl ll : Addr) (s : Int) (its : List It) : Prop where
  b : ExtB d H H'
  le : Le H H'
  d : H' d = some (nmo tb ti dop s)
  nu : H' nl = some (.list false (numsV its))
  la : ∃ vs, H' ll = some (.list false vs) ∧ Reps a H' (lamsT its) vs
  n0 : H nl = none
  l0 : H ll = none
  ne : ll ≠ nl
theorem ChH.ext {H H1 H2 : Hp} {d tb ti dop nl ll : Addr} {s : Int} {its : List It} (h : ChH a H H1 d tb ti dop nl ll s its) (e : Ext H1 H2) : ChH a H H2 d tb ti dop nl ll s its := by
  (refine x1_2 h.la ?_; intro vs h1 h2)
  exact ⟨h.b.trans e.b, h.le.trans e.le, e _ _ h.d, e _ _ h.nu, ⟨vs, e _ _ h1, h2.mono e.le⟩, h.n0, h.l0, h.ne⟩
theorem ChH.fresh {H H1 : Hp} {d tb ti dop nl ll : Addr} {s : Int} {its : List It} (h : ChH a H H1 d tb ti dop nl ll s its) (s' : Int) : ChH a H (upd H1 d (nmo tb ti dop s')) d tb ti dop nl ll s' its := by
  (refine x1_2 h.la ?_; intro vs h1 h2)
  have hn : nl ≠ d := ne_dif h.d h.nu (by intro q; cases q)
  have hl : ll ≠ d := ne_dif h.d h1 (by intro q; cases q)
  have hL : Le H1 (upd H1 d (nmo tb ti dop s')) := Le.mut h.d rfl
  exact ⟨h.b.at_, h.le.trans hL, upd_same, (upd_ne hn).trans h.nu, ⟨vs, (upd_ne hl).trans h1, h2.mono hL⟩, h.n0, h.l0, h.ne⟩

theorem W_item_last' {value slice : PySem.Expr} {l : Addr} {z : Bool} {xs : List Value} {x : Value} {Q : Value → St → Prop} (h : σ.H l = some (.list z (xs ++ [x]))) (hz : xs.length ≤ 1000000) (q : Q x σ)
    (hs : ∀ t, subscripted slice false (.ref l) (.int (-1) t) = operate [.ref l, .int (-1) t] (getItem (.ref l) (.int (-1) t)) := by intro _; with_unfolding_all rfl) :
    Wv2 G A L er (fun o i => subscriptTail value slice o i) (.ref l) (.int (-1) 0) Q σ := W_item_last h hz q hs

theorem topN_nums {its : List It} : (topN its = none ∧ its = []) ∨ ∃ i l, its = i :: l ∧ topN its = some i.num ∧ numsV its = numsV l ++ [.int i.num 0] := by
  cases its with
  | nil => exact .inl ⟨rfl, rfl⟩
  | cons i l => exact .inr ⟨i, l, rfl, rfl, numsV_cons i l⟩

theorem numsV_ints (l : List It) : numsV l = (l.reverse.map It.num).map fun n => Value.int n 0 := by unfold numsV; rw [List.map_map]; rfl

/-- one turn of the first loop -/
theorem chain_turn (O : G.Ok) (K : KF G a) {n : Nat} (R : Rm A (n + 10)) {qual : Str} {cdv : Value} {H : Hp} {w d ti tb dop nl ll : Addr} {last c : Nat} {ill : Bool} {s : Int} {its : List It} (hw : Wld a H w d ti) (hc : c ≤ 100) (hz : its.length ≤ 100)
    (hm : ChM w last ill nl ll σ.m) (hy : σ.m "_law_many" = some (.int (c : Int) 0)) (hh : ChH a H σ.H d tb ti dop nl ll s its) {Q : Flow → St → Prop}
    (q : ∀ σ', ChM w last ill nl ll σ'.m → ChH a H σ'.H d tb ti dop nl ll (stepI (s, its) c).1 (stepI (s, its) c).2 → Q .next σ') :
    Ws G A (envOf qual (scopeOf (stmtAt 65)) L a.f_x_law_chain cdv) (fbody (bst (stmtAt 65) 1)) Q σ := by
  obtain ⟨m, H1⟩ := σ
  dsimp only at hm hy hh
  obtain ⟨m1, m2, m3, m4, m5⟩ := hm
  refine Ws_cons ?_
  refine Wst_AssignSwap R.hd ?_
  refine We_Tuple ?_
  refine Wargs_c ?_
  refine We_MethodCall ?_
  refine We_L (by walk_at "v") ?_
  refine W_fresh O K (R.le (k := 1) (by lia)) (hw.mono hh.le) hh.d ?_
  have h1 := hh.fresh (s + 1)
  refine Wargs_c ?_
  refine We_MethodCall ?_
  refine We_L (by walk_at "v") ?_
  refine W_fresh O K (R.le (k := 1) (by lia)) (hw.mono h1.le) h1.d ?_
  have h2 := h1.fresh (s + 1 + 1)
  refine Wargs_nil ?_
  refine ⟨Nat.le_of_ble_eq_true rfl, fun tt htt httL => ⟨tt, _, _, rfl, upd_same, ?_⟩⟩
  have h3 := h2.ext (Ext.new (o := .tuple [.int (s + 1) 0, .int (s + 1 + 1) 0]) htt)
  try dsimp only at h3 ⊢
  generalize upd (upd (upd H1 d (nmo tb ti dop (s + 1))) d (nmo tb ti dop (s + 1 + 1))) tt (.tuple [.int (s + 1) 0, .int (s + 1 + 1) 0]) = H3 at h3
  clear h1 h2 htt httL hh H1
  refine Ws_asg ?_
  refine We_callK O K.n.k_Local.glob K.n.k_Local.keep ?_
  refine Wargs_l (by walk_at "v") ?_
  refine Wargs_nil ?_
  refine new_Local O K (R.le (k := n + 2) (by lia)) ?_
  intro y dy H4 hE4 _ _ g1 g2
  dsimp only at hE4
  have h4 := h3.ext hE4
  try dsimp only
  refine Ws_cons ?_
  refine Wst_For_range R.hd ?_
  refine We_callT O K.c.nb_range bb_range ?_
  refine Wargs_l (by walk_at "v") ?_
  refine Wargs_nil ?_
  refine W_range ?_
  intro rg hrg hrgL
  try dsimp only at hrg ⊢
  have hE5 : Ext H4 (upd H4 rg (.rng c)) := Ext.new hrg
  have h5 := h4.ext hE5
  have hr5 : upd H4 rg (.rng c) rg = some (.rng c) := upd_same
  have hy5 : Rep a (upd H4 rg (.rng c)) (.loc (s + 1)) y := Rep.mono (t := .loc (s + 1)) hE5.le ⟨dy, g1, g2⟩
  generalize upd H4 rg (.rng c) = H5 at hE5 h5 hr5 hy5
  refine ⟨rg, c, fun j σ' => ((σ'.m "_law_names" = some (.ref w) ∧ σ'.m "_law_last" = some (.int (last : Int) 0) ∧ σ'.m "_law_is_ill" = some (.bool ill) ∧ σ'.m "_law_numbers" = some (.ref nl) ∧ σ'.m "_law_lambdas" = some (.ref ll)) ∧ σ'.m "_law_own" = some (.int (s + 1) 0) ∧ σ'.m "_law_label" = some (.int (s + 1 + 1) 0)) ∧
    Ext H5 σ'.H ∧ ∃ y, σ'.m "_law_inner" = some (.ref y) ∧ Rep a σ'.H (tower (headT (topN its)) j (.loc (s + 1))) y, rfl, hr5, by lia, ?_⟩
  refine ⟨⟨⟨⟨by walk_at "v", by walk_at "v", by walk_at "v", by walk_at "v", by walk_at "v"⟩, by walk_at "v", by walk_at "v"⟩, .refl _, y, by walk_at "v", hy5⟩, ?_, ?_⟩
  · intro j hq1
    obtain ⟨mm, HH⟩ := hq1
    intro hj hq2
    obtain ⟨hq3, hE, yi, p8, hyi⟩ := hq2
    refine x0_3 hq3 ?_; (try clear hq3); intro hq4 p6 p7
    refine x0_5 hq4 ?_; (try clear hq4); intro p1 p2 p3 p4 p5
    intro u hu
    dsimp only at p1 p2 p3 p4 p5 p6 p7 p8 hE hyi
    have hnl := hE _ _ h5.nu
    refine W_nm hu ?_
    refine Ws_asg ?_
    refine We_callK O K.n.k_Call.glob K.n.k_Call.keep ?_
    refine Wargs_c ?_
    refine We_IfExp ?_
    refine Wb_Compare ?_
    refine We_L (by walk_at "v") ?_
    refine We_List ?_
    refine Wargs_nil ?_
    refine ⟨Nat.zero_le _, fun el hel helL => ?_⟩
    try dsimp only at hel ⊢
    have hE6 : Ext HH (upd HH el (.list false [])) := Ext.new hel
    refine W_ne_ints (ms := []) (R.le (k := n + 7) (by lia)) (by rw [← numsV_ints]; exact hE6 _ _ hnl) upd_same ?_
    generalize upd HH el (.list false []) = H6 at hE6
    refine W_truthy_bool ?_
    rcases topN_nums (its := its) with ⟨ht, rfl⟩ | ⟨i, l, rfl, ht, hnu⟩
    · refine iff_ (by simp) ?_
      refine We_callK O K.n.k_Global.glob K.n.k_Global.keep ?_
      refine Wargs_c ?_
      refine We_Int ?_
      refine Wargs_nil ?_
      refine new_Global O K (R.le (k := n + 2) (by lia)) ?_
      intro yg dg H7 hE7 _ _ k1 k2
      dsimp only at hE7
      refine Wargs_c ?_
      refine We_List ?_
      refine Wargs_l (by walk_at "v") ?_
      refine Wargs_nil ?_
      refine ⟨Nat.le_of_ble_eq_true rfl, fun ol hol holL => ?_⟩
      refine Wargs_nil ?_
      refine mk_call1 O K (R.le (k := n + 2) (by lia)) (f := .glob) hol ⟨dg, k1, k2⟩ (hyi.mono (hE6.trans hE7).le) ?_
      intro r H8 hE8 hr
      try dsimp only
      refine Ws_nil ?_
      refine ⟨⟨⟨by walk_at "v", by walk_at "v", by walk_at "v", by walk_at "v", by walk_at "v"⟩, by walk_at "v", by walk_at "v"⟩, ((hE.trans hE6).trans hE7).trans hE8, r, by walk_at "v", ?_⟩
      rw [ht] at hr ⊢
      exact hr
    · refine ift (by simp) ?_
      refine We_callK O K.n.k_Local.glob K.n.k_Local.keep ?_
      refine Wargs_c ?_
      refine We_Subscript ?_
      refine We_L (by walk_at "v") ?_
      refine We_Unary ?_
      refine We_Int ?_
      refine W_neg ?_
      refine W_item_last' (xs := numsV l) (x := .int i.num 0) (by rw [← hnu]; exact hE6 _ _ hnl) (by rw [numsV_length]; rw [List.length_cons] at hz; lia) ?_
      refine Wargs_nil ?_
      refine new_Local O K (R.le (k := n + 2) (by lia)) ?_
      intro yg dg H7 hE7 _ _ k1 k2
      dsimp only at hE7
      refine Wargs_c ?_
      refine We_List ?_
      refine Wargs_l (by walk_at "v") ?_
      refine Wargs_nil ?_
      refine ⟨Nat.le_of_ble_eq_true rfl, fun ol hol holL => ?_⟩
      refine Wargs_nil ?_
      refine mk_call1 O K (R.le (k := n + 2) (by lia)) (f := .loc i.num) hol ⟨dg, k1, k2⟩ (hyi.mono (hE6.trans hE7).le) ?_
      intro r H8 hE8 hr
      try dsimp only
      refine Ws_nil ?_
      refine ⟨⟨⟨by walk_at "v", by walk_at "v", by walk_at "v", by walk_at "v", by walk_at "v"⟩, by walk_at "v", by walk_at "v"⟩, ((hE.trans hE6).trans hE7).trans hE8, r, by walk_at "v", ?_⟩
      rw [ht] at hr ⊢
      exact hr
  · intro hq5
    obtain ⟨mm, HH⟩ := hq5
    intro hq6
    obtain ⟨hq7, hE, yi, p8, hyi⟩ := hq6
    refine x0_3 hq7 ?_; (try clear hq7); intro hq8 p6 p7
    refine x0_5 hq8 ?_; (try clear hq8); intro p1 p2 p3 p4 p5
    dsimp only at p1 p2 p3 p4 p5 p6 p7 p8 hE hyi
    have h6 := h5.ext hE
    refine x1_2 h6.la ?_; intro vs la1 la2
    refine Ws_cons ?_
    refine Wst_Expr ?_
    refine We_MethodCall ?_
    refine We_L (by walk_at "v") ?_
    refine W_mappend la1 ?_
    refine We_callK O K.n.k_Lambda.glob K.n.k_Lambda.keep ?_
    refine Wargs_l (by walk_at "v") ?_
    refine Wargs_c ?_
    refine We_List ?_
    refine Wargs_l (by walk_at "v") ?_
    refine Wargs_nil ?_
    refine ⟨Nat.le_of_ble_eq_true rfl, fun pl hpl hplL => ?_⟩
    refine Wargs_c ?_
    refine We_Unary ?_
    refine We_Int ?_
    refine W_neg ?_
    refine Wargs_l (by walk_at "v") ?_
    refine Wargs_nil ?_
    refine mk_lam O K (R.le (k := n + 2) (by lia)) hpl hyi ?_
    intro r H7 hE7 hr
    have h7 := h6.ext hE7
    have lvs : vs.length ≤ 100 := by rw [la2.length, lamsT_length]; exact hz
    refine ⟨vs, hE7 _ _ la1, by lia, (fun _ h => by cases h), ?_⟩
    have hla7 := hE7 _ _ la1
    have L8 : Le H7 (upd H7 ll (.list false (vs ++ [.ref r]))) := Le.mut hla7 rfl
    have dl : d ≠ ll := ne_dif hla7 h7.d (by intro q; cases q)
    have h8d : upd H7 ll (.list false (vs ++ [.ref r])) d = some (nmo tb ti dop (s + 1 + 1)) := (upd_ne dl).trans h7.d
    have h8n : upd H7 ll (.list false (vs ++ [.ref r])) nl = some (.list false (numsV its)) := (upd_ne (Ne.symm h7.ne)).trans h7.nu
    have h8l : upd H7 ll (.list false (vs ++ [.ref r])) ll = some (.list false (vs ++ [.ref r])) := upd_same
    have h8r : Reps a (upd H7 ll (.list false (vs ++ [.ref r]))) (lamsT its ++ [.lam (s + 1 + 1) (s + 1) (tower (headT (topN its)) c (.loc (s + 1)))]) (vs ++ [.ref r]) := ((la2.mono hE7.le).append (.one hr)).mono L8
    have h8b : ExtB d H (upd H7 ll (.list false (vs ++ [.ref r]))) := h7.b.mut h7.l0
    have h8e : Le H (upd H7 ll (.list false (vs ++ [.ref r]))) := h7.le.trans L8
    try dsimp only
    generalize upd H7 ll (.list false (vs ++ [.ref r])) = H8 at L8 h8d h8n h8l h8r h8b h8e
    refine Ws_cons ?_
    refine Wst_Expr ?_
    refine We_MethodCall ?_
    refine We_L (by walk_at "v") ?_
    refine W_mappend h8n ?_
    refine We_MethodCall ?_
    refine We_L (by walk_at "v") ?_
    refine W_fresh O K (R.le (k := 1) (by lia)) (hw.mono h8e) h8d ?_
    have nd : nl ≠ d := ne_dif h8d h8n (by intro q; cases q)
    have ld : ll ≠ d := Ne.symm dl
    refine ⟨numsV its, (upd_ne nd).trans h8n, by rw [numsV_length]; lia, (fun _ h => by cases h), ?_⟩
    have L9 : Le H8 (upd H8 d (nmo tb ti dop (s + 1 + 1 + 1))) := Le.mut h8d rfl
    have h9n : upd H8 d (nmo tb ti dop (s + 1 + 1 + 1)) nl = some (.list false (numsV its)) := (upd_ne nd).trans h8n
    have L10 : Le (upd H8 d (nmo tb ti dop (s + 1 + 1 + 1))) (upd (upd H8 d (nmo tb ti dop (s + 1 + 1 + 1))) nl (.list false (numsV its ++ [.int (s + 1 + 1 + 1) 0]))) := Le.mut h9n rfl
    try dsimp only
    refine Ws_nil ?_
    have e2 : s + 1 + 1 = s + 2 := by lia
    have e3 : s + 1 + 1 + 1 = s + 3 := by lia
    rw [e3] at L9 L10 ⊢
    rw [e2] at h8r
    refine q _ ⟨by walk_at "v", by walk_at "v", by walk_at "v", by walk_at "v", by walk_at "v"⟩ ⟨(h8b.at_).mut h7.n0, (h8e.trans L9).trans L10, ?_, ?_, ⟨vs ++ [.ref r], ?_, ?_⟩, h7.n0, h7.l0, h7.ne⟩
    · exact (upd_ne (Ne.symm nd)).trans upd_same
    · rw [show numsV (stepI (s, its) c).2 = numsV its ++ [.int (s + 3) 0] from numsV_cons _ _]; exact upd_same
    · exact (upd_ne h7.ne).trans ((upd_ne ld).trans h8l)
    · rw [show lamsT (stepI (s, its) c).2 = lamsT its ++ [.lam (s + 2) (s + 1) (tower (headT (topN its)) c (.loc (s + 1)))] from lamsT_cons _ _]
      exact h8r.mono (L9.trans L10)

end -- MC21

section -- MC22
set_option maxRecDepth 20000
variable {G : Gl} {a : KA} {A : Around} {env : Env} {σ : St} {L : Addr}

theorem wrap_snoc (i : It) : ∀ (l : List It) (s : Int) (B : T), wrap s B (l ++ [i]) = .call1 (.lam (s + (l.length : Int) + 1) i.num (wrap s B l)) i.lam
  | [], s, B => by
    show T.call1 (.lam (s + 1) i.num B) i.lam = _
    rw [show s + ((([] : List It).length : Nat) : Int) + 1 = s + 1 by simp]
    rfl
  | x :: l, s, B => by
    rw [List.cons_append]
    unfold wrap
    rw [wrap_snoc i l]
    have : s + 1 + (l.length : Int) + 1 = s + ((x :: l).length : Int) + 1 := by rw [List.length_cons]; push_cast; lia
    rw [this]

theorem rev_pairs {H H' : Hp} {its : List It} {vs lv : List Value} (hlen : vs.length = its.length) (hr : Reps a H (lamsT its) lv)
    (h : ∀ (j : Nat) (v : Value), vs[j]? = some v → ∃ (t : Addr) (x y : Value), v = Value.ref t ∧ (numsV its)[j]? = some x ∧ lv[j]? = some y ∧ H' t = some (.tuple [x, y])) {i : Nat} {v : Value} (hv : vs.reverse[i]? = some v) :
    ∃ (t : Addr) (it : It) (y : Addr), its[i]? = some it ∧ v = .ref t ∧ H' t = some (.tuple [.int it.num 0, .ref y]) ∧ Rep a H it.lam y := by
  have hi : i < vs.length := by have := (List.getElem?_eq_some_iff.mp hv).1; rwa [List.length_reverse] at this
  rw [List.getElem?_reverse hi] at hv
  refine x3_4 (h _ _ hv) ?_; intro t x y rfl hx hy ht
  refine x2_3 (hr.get hy) ?_; intro tl yl h1 rfl h2
  have hi2 : i < its.length := by lia
  have e : ∀ (β : Type) (f : It → β), (its.reverse.map f)[vs.length - 1 - i]? = some (f its[i]) := fun β f => by
    rw [List.getElem?_map, hlen, List.getElem?_reverse (by lia), show its.length - 1 - (its.length - 1 - i) = i by lia, List.getElem?_eq_getElem hi2]
    rfl
  unfold numsV at hx
  unfold lamsT at h1
  rw [e] at hx h1
  cases hx
  cases h1
  exact ⟨t, its[i], yl, List.getElem?_eq_getElem hi2, rfl, ht, h2⟩

theorem law_chain (O : G.Ok) (K : KF G a) {n : Nat} (R : Rm A (n + 11)) {H : Hp} {w d ti tb dop cl : Addr} {z : Bool} {cs : List Nat} {last : Nat} {ill : Bool} {s : Int} (hw : Wld a H w d ti) (hd : H d = some (nmo tb ti dop s)) (hcl : H cl = some (.list z (vn cs)))
    (hne : cs ≠ []) (hlen : cs.length ≤ 100) (hc : ∀ c ∈ cs, c ≤ 100) (hlast : last ≤ 100) {Q : Value → Hp → Prop}
    (q : ∀ y H', ExtB d H H' → Le H H' → H' d = some (nmo tb ti dop ((itsOf s cs).1 + (cs.length : Int))) → Rep a H' (chainT s cs last ill) y → Q (.ref y) H') : Wc G A (.ref a.f_x_law_chain) [.ref w, .ref cl, .int (last : Int) 0, .bool ill] Q H := by
  refine Wc_fun O K.d.d_x_law_chain.fn R.room ["_law_names", "_law_calls", "_law_last", "_law_is_ill"] (bd4 fun _ _ _ _ _ _ _ _ _ _ _ => rfl) (by rfl) (by rfl) (by rfl) (by rfl) (by rfl) ?_
  intro L qual cdv hL
  have R1 : Rm (A.deeper (envOf qual (scopeOf (stmtAt 65)) L a.f_x_law_chain cdv)) (n + 10) := R.deeper
  refine Ws_cons ?_
  refine Wst_AssignSwap R1.hd ?_
  refine We_Tuple ?_
  refine Wargs_c ?_
  refine We_List ?_
  refine Wargs_nil ?_
  refine ⟨Nat.zero_le _, fun nl hnl hnlL => ?_⟩
  refine Wargs_c ?_
  refine We_List ?_
  refine Wargs_nil ?_
  refine ⟨Nat.zero_le _, fun ll hll hllL => ?_⟩
  refine Wargs_nil ?_
  refine ⟨Nat.le_of_ble_eq_true rfl, fun tt htt httL => ⟨tt, _, _, rfl, upd_same, ?_⟩⟩
  try dsimp only at hnl hll htt ⊢
  have e1 : Ext H (upd H nl (.list false [])) := Ext.new hnl
  have e2 : Ext (upd H nl (.list false [])) (upd (upd H nl (.list false [])) ll (.list false [])) := Ext.new hll
  have e3 : Ext (upd (upd H nl (.list false [])) ll (.list false [])) (upd (upd (upd H nl (.list false [])) ll (.list false [])) tt (.tuple [.ref nl, .ref ll])) := Ext.new htt
  have hne' : ll ≠ nl := fun e => by rw [e, upd_same] at hll; cases hll
  have hh : ChH a H (upd (upd (upd H nl (.list false [])) ll (.list false [])) tt (.tuple [.ref nl, .ref ll])) d tb ti dop nl ll (itsOf s (cs.take 0)).1 (itsOf s (cs.take 0)).2 :=
    ⟨((e1.trans e2).trans e3).b, ((e1.trans e2).trans e3).le, ((e1.trans e2).trans e3) _ _ hd, e3 _ _ (e2 _ _ upd_same), ⟨[], e3 _ _ upd_same, .nil⟩, hnl, e1.none hll, hne'⟩
  generalize upd (upd (upd H nl (.list false [])) ll (.list false [])) tt (.tuple [.ref nl, .ref ll]) = H3 at hh
  clear e1 e2 e3 htt hll httL
  have hcld : cl ≠ d := ne_dif hd hcl (by intro q; cases q)
  refine Ws_cons ?_
  refine Wst_For_list R1.hd ?_
  refine We_L (by walk_at "v") ?_
  refine ⟨cl, vn cs, fun i σ' => ChM w last ill nl ll σ'.m ∧ ChH a H σ'.H d tb ti dop nl ll (itsOf s (cs.take i)).1 (itsOf s (cs.take i)).2, rfl, ?_⟩
  refine ⟨⟨⟨by walk_at "v", by walk_at "v", by walk_at "v", by walk_at "v", by walk_at "v"⟩, hh⟩, fun i σ' h => ⟨_, h.2.b _ _ hcld hcl⟩, ?_, ?_⟩
  · intro i v hq1
    obtain ⟨mm, HH⟩ := hq1
    intro hv hq2
    refine x0_2 hq2 ?_; (try clear hq2); intro hm hh
    intro u hu
    dsimp only at hm hh
    unfold vn at hv
    rw [List.getElem?_map] at hv
    refine x1_2 (Option.map_eq_some_iff.mp hv) ?_; intro c hci rfl
    have hil := (List.getElem?_eq_some_iff.mp hci).1
    refine W_nm hu ?_
    refine chain_turn O K (n := n) R1 (c := c) hw (hc c (List.mem_of_getElem? hci)) ?_ hm.put (by dsimp only; exact setm_same) hh ?_
    · rw [itsOf_len, List.length_take]; lia
    · intro σ' hm' hh'
      refine ⟨hm', ?_⟩
      rw [itsOf_take hci]
      exact hh'
  · intro hq3
    obtain ⟨mm, HH⟩ := hq3
    intro hq4
    refine x0_2 hq4 ?_; (try clear hq4); intro hm hh
    dsimp only at hm hh
    rw [vn_length, List.take_length] at hh
    obtain ⟨m1, m2, m3, m4, m5⟩ := hm
    have hil : (itsOf s cs).2.length = cs.length := itsOf_len s cs
    generalize hits : (itsOf s cs).2 = its at hh hil
    obtain ⟨i0, its0, rfl⟩ : ∃ i l, its = i :: l := by
      cases its with
      | nil => exact absurd (List.length_eq_zero_iff.mp hil.symm) hne
      | cons i l => exact ⟨i, l, rfl⟩
    have hct : chainT s cs last ill = wrap (itsOf s cs).1 (coreT (.loc i0.num) last ill) (i0 :: its0) := by unfold chainT; rw [hits]; rfl
    rw [hct] at q
    clear hct hits hc hcl hne
    generalize (itsOf s cs).1 = s1 at hh q
    rw [List.length_cons] at hil
    have hnu := hh.nu
    rw [numsV_cons] at hnu
    refine Ws_asg ?_
    refine We_callK O K.n.k_Const.glob K.n.k_Const.keep ?_
    refine Wargs_c ?_
    refine We_Int ?_
    refine Wargs_nil ?_
    refine new_Const O K (R1.le (k := n + 2) (by lia)) ?_
    intro y0 d0 H4 hE4 _ _ g1 g2
    dsimp only at hE4
    try dsimp only
    refine Ws_cons ?_
    refine Wst_For_range R1.hd ?_
    refine We_callT O K.c.nb_range bb_range ?_
    refine Wargs_l (by walk_at "v") ?_
    refine Wargs_nil ?_
    refine W_range ?_
    intro rg hrg hrgL
    try dsimp only at hrg ⊢
    have hE5 : Ext H4 (upd H4 rg (.rng last)) := Ext.new hrg
    have h5 := (hh.ext hE4).ext hE5
    have hr5 : upd H4 rg (.rng last) rg = some (.rng last) := upd_same
    have hy5 : Rep a (upd H4 rg (.rng last)) (.con 1) y0 := Rep.mono (t := .con 1) hE5.le ⟨d0, g1, g2⟩
    have hn5 := hE5 _ _ (hE4 _ _ hnu)
    generalize upd H4 rg (.rng last) = H5 at hE5 h5 hr5 hy5 hn5
    clear hrg hE4 hE5 g1 g2 hh hnu
    refine ⟨rg, last, fun j σ' => (σ'.m "_law_names" = some (.ref w) ∧ σ'.m "_law_is_ill" = some (.bool ill) ∧ σ'.m "_law_numbers" = some (.ref nl) ∧ σ'.m "_law_lambdas" = some (.ref ll)) ∧
      Ext H5 σ'.H ∧ ∃ y, σ'.m "_law_body" = some (.ref y) ∧ Rep a σ'.H (tower (.loc i0.num) j (.con 1)) y, rfl, hr5, by lia, ?_⟩
    refine ⟨⟨⟨by walk_at "v", by walk_at "v", by walk_at "v", by walk_at "v"⟩, .refl _, y0, by walk_at "v", hy5⟩, ?_, ?_⟩
    · intro j hq5
      obtain ⟨mm, HH⟩ := hq5
      intro hj hq6
      obtain ⟨hq7, hE, yi, p8, hyi⟩ := hq6
      refine x0_4 hq7 ?_; (try clear hq7); intro p1 p3 p4 p5
      intro u hu
      dsimp only at p1 p3 p4 p5 p8 hE hyi
      refine W_nm hu ?_
      refine Ws_asg ?_
      refine We_callK O K.n.k_Call.glob K.n.k_Call.keep ?_
      refine Wargs_c ?_
      refine We_callK O K.n.k_Local.glob K.n.k_Local.keep ?_
      refine Wargs_c ?_
      refine We_Subscript ?_
      refine We_L (by walk_at "v") ?_
      refine We_Unary ?_
      refine We_Int ?_
      refine W_neg ?_
      refine W_item_last (xs := numsV its0) (x := .int i0.num 0) (hE _ _ hn5) (by rw [numsV_length]; lia) ?_
      refine Wargs_nil ?_
      refine new_Local O K (R1.le (k := n + 2) (by lia)) ?_
      intro yg dg H7 hE7 _ _ k1 k2
      dsimp only at hE7
      refine Wargs_c ?_
      refine We_List ?_
      refine Wargs_l (by walk_at "v") ?_
      refine Wargs_nil ?_
      refine ⟨Nat.le_of_ble_eq_true rfl, fun ol hol holL => ?_⟩
      refine Wargs_nil ?_
      refine mk_call1 O K (R1.le (k := n + 2) (by lia)) (f := .loc i0.num) hol ⟨dg, k1, k2⟩ (hyi.mono hE7.le) ?_
      intro r H8 hE8 hr
      try dsimp only
      refine Ws_nil ?_
      exact ⟨⟨by walk_at "v", by walk_at "v", by walk_at "v", by walk_at "v"⟩, (hE.trans hE7).trans hE8, r, by walk_at "v", hr⟩
    · intro hq8
      obtain ⟨mm, HH⟩ := hq8
      intro hq9
      obtain ⟨hq10, hE, yi, p8, hyi⟩ := hq9
      refine x0_4 hq10 ?_; (try clear hq10); intro p1 p3 p4 p5
      dsimp only at p1 p3 p4 p5 p8 hE hyi
      refine Ws_cons ?_
      refine Wt.mono (Q := fun fl σ' => fl = .next ∧ (σ'.m "_law_names" = some (.ref w) ∧ σ'.m "_law_numbers" = some (.ref nl) ∧ σ'.m "_law_lambdas" = some (.ref ll)) ∧ Ext H5 σ'.H ∧ ∃ y, σ'.m "_law_body" = some (.ref y) ∧ Rep a σ'.H (coreT (.loc i0.num) last ill) y) ?_ ?_
      · refine Wst_If ?_
        refine Wb_value ?_
        refine We_L (by walk_at "v") ?_
        refine W_truthy_bool ?_
        cases ill
        · refine iff_ (by decide) ?_
          refine Ws_nil ?_
          exact ⟨rfl, ⟨p1, p4, p5⟩, hE, yi, p8, hyi⟩
        · refine ift rfl ?_
          refine Ws_asg ?_
          refine We_callK O K.n.k_Call.glob K.n.k_Call.keep ?_
          refine Wargs_c ?_
          refine We_callK O K.n.k_Local.glob K.n.k_Local.keep ?_
          refine Wargs_c ?_
          refine We_Subscript ?_
          refine We_L (by walk_at "v") ?_
          refine We_Unary ?_
          refine We_Int ?_
          refine W_neg ?_
          refine W_item_last (xs := numsV its0) (x := .int i0.num 0) (hE _ _ hn5) (by rw [numsV_length]; lia) ?_
          refine Wargs_nil ?_
          refine new_Local O K (R1.le (k := n + 2) (by lia)) ?_
          intro yg dg H7 hE7 _ _ k1 k2
          dsimp only at hE7
          refine Wargs_c ?_
          refine We_List ?_
          refine Wargs_l (by walk_at "v") ?_
          refine Wargs_c ?_
          refine We_callK O K.n.k_Const.glob K.n.k_Const.keep ?_
          refine Wargs_c ?_
          refine We_Int ?_
          refine Wargs_nil ?_
          refine new_Const O K (R1.le (k := n + 2) (by lia)) ?_
          intro y2 d2 H8 hE8 _ _ j1 j2
          dsimp only at hE8
          refine Wargs_nil ?_
          refine ⟨Nat.le_of_ble_eq_true rfl, fun ol hol holL => ?_⟩
          refine Wargs_nil ?_
          refine mk_call2 O K (R1.le (k := n + 2) (by lia)) (f := .loc i0.num) (k := .con 2) hol (Rep.mono (t := .loc i0.num) hE8.le ⟨dg, k1, k2⟩) (hyi.mono (hE7.trans hE8).le) ⟨d2, j1, j2⟩ ?_
          intro r H9 hE9 hr
          try dsimp only
          refine Ws_nil ?_
          exact ⟨rfl, ⟨by walk_at "v", by walk_at "v", by walk_at "v"⟩, ((hE.trans hE7).trans hE8).trans hE9, r, by walk_at "v", hr⟩
      intro fl hq11
      obtain ⟨mm, HH⟩ := hq11
      intro hq12
      obtain ⟨rfl, hq13, hE, yi, p8, hyi⟩ := hq12
      refine x0_3 hq13 ?_; (try clear hq13); intro p1 p4 p5
      dsimp only at p1 p4 p5 p8 hE hyi
      have h6 := h5.ext hE
      refine x1_2 h6.la ?_; intro lv hl1 hl2
      refine Ws_cons ?_
      refine Wst_For_list R1.hd ?_
      refine W_slice_rev ?_
      refine We_list_zip O R1.hd K.c.nb_zip bb_zip K.c.nb_list bb_list ?_
      refine We_L (by walk_at "v") ?_
      refine We_L (by walk_at "v") ?_
      refine ⟨nl, ll, _, _, _, _, rfl, rfl, h6.nu, hl1, ?_, ?_, fun al vs H7 hE7 hal0 hal hvl htup => ?_⟩
      · rw [numsV_length, hl2.length, lamsT_length]
      · rw [numsV_length, List.length_cons]; lia
      rw [numsV_length] at hvl
      refine We_Unary ?_
      refine We_Int ?_
      refine W_neg ?_
      refine ⟨al, false, vs, rfl, rfl, hal, by rw [hvl, List.length_cons]; lia, fun rl hrl hrlL => ?_⟩
      try dsimp only at hE7 hal0 hrl ⊢
      have hE8 : Ext H7 (upd H7 rl (.list false vs.reverse)) := Ext.new hrl
      have hrl8 : upd H7 rl (.list false vs.reverse) rl = some (.list false vs.reverse) := upd_same
      have hP : ∀ {i : Nat} {v : Value}, vs.reverse[i]? = some v → _ := fun hv => rev_pairs hvl (hl2.mono hE7.le) htup hv
      have h8 := (h6.ext hE7).ext hE8
      have hy8 := hyi.mono (hE7.trans hE8).le
      have hrl0 : H rl = none := h6.b.none (fun e => by rw [e, hE7 _ _ h6.d] at hrl; cases hrl) (hE7.none hrl)
      generalize upd H7 rl (.list false vs.reverse) = H8 at hE8 hrl8 h8 hy8
      have hrd : rl ≠ d := ne_dif h8.d hrl8 (by intro q; cases q)
      refine ⟨rl, vs.reverse, fun i σ' => σ'.m "_law_names" = some (.ref w) ∧ ExtB d H8 σ'.H ∧ Le H8 σ'.H ∧ σ'.H d = some (nmo tb ti dop (s1 + (i : Int))) ∧ ∃ y, σ'.m "_law_body" = some (.ref y) ∧ Rep a σ'.H (wrap s1 (coreT (.loc i0.num) last ill) ((i0 :: its0).take i)) y, rfl, ?_⟩
      refine ⟨⟨p1, (Ext.refl _).b, .refl _, by simpa using h8.d, yi, p8, hy8⟩, fun i σ' h => ⟨_, h.2.1 _ _ hrd hrl8⟩, ?_, ?_⟩
      · intro i v hq14
        obtain ⟨mm, HH⟩ := hq14
        intro hv hq15
        obtain ⟨r1, rB, rL, rd, yb, r2, hyb⟩ := hq15
        intro u hu
        dsimp only at r1 rB rL rd r2 hyb
        refine x3_4 (hP hv) ?_; intro t it yl hit rfl ht hlam
        obtain rfl := er_ref hu
        have htd : t ≠ d := fun e => by rw [e, hE7 _ _ h6.d] at ht; cases ht
        have ht9 := rB _ _ htd (hE8 _ _ ht)
        have hlam9 := (hlam.mono hE8.le).mono rL
        refine W_assign2 R1.hd (x := .int it.num 0) (y := .ref yl) ht9 ?_
        intro u u' hu hu'
        refine W_nm hu ?_
        refine W_nm hu' ?_
        have hw9 := (hw.mono h8.le).mono rL
        refine Ws_asg ?_
        refine We_callK O K.n.k_Call.glob K.n.k_Call.keep ?_
        refine Wargs_c ?_
        refine We_callK O K.n.k_Lambda.glob K.n.k_Lambda.keep ?_
        refine Wargs_c ?_
        refine We_MethodCall ?_
        refine We_L (by walk_at "v") ?_
        refine W_fresh O K (R1.le (k := 1) (by lia)) hw9 rd ?_
        have L1 : Le HH (upd HH d (nmo tb ti dop (s1 + (i : Int) + 1))) := Le.mut rd rfl
        refine Wargs_c ?_
        refine We_List ?_
        refine Wargs_l (by walk_at "v") ?_
        refine Wargs_nil ?_
        refine ⟨Nat.le_of_ble_eq_true rfl, fun pl hpl hplL => ?_⟩
        refine Wargs_c ?_
        refine We_Unary ?_
        refine We_Int ?_
        refine W_neg ?_
        refine Wargs_l (by walk_at "v") ?_
        refine Wargs_nil ?_
        refine mk_lam O K (R1.le (k := n + 2) (by lia)) hpl (hyb.mono L1) ?_
        intro r H9 hE9 hr
        refine Wargs_c ?_
        refine We_List ?_
        refine Wargs_l (by walk_at "v") ?_
        refine Wargs_nil ?_
        refine ⟨Nat.le_of_ble_eq_true rfl, fun ol hol holL => ?_⟩
        refine Wargs_nil ?_
        refine mk_call1 O K (R1.le (k := n + 2) (by lia)) hol hr ((hlam9.mono L1).mono hE9.le) ?_
        intro r2' H10 hE10 hr2
        try dsimp only
        refine Ws_nil ?_
        refine ⟨by walk_at "v", (rB.at_.trans hE9.b).trans hE10.b, ((rL.trans L1).trans hE9.le).trans hE10.le, ?_, r2', by walk_at "v", ?_⟩
        · rw [show s1 + ((i + 1 : Nat) : Int) = s1 + (i : Int) + 1 by push_cast; lia]
          exact hE10 _ _ (hE9 _ _ upd_same)
        · rw [List.take_add_one, hit, Option.toList_some, wrap_snoc, List.length_take, Nat.min_eq_left (Nat.le_of_lt (List.getElem?_eq_some_iff.mp hit).1)]
          exact hr2
      · intro hq16
        obtain ⟨mm, HH⟩ := hq16
        intro hq17
        obtain ⟨r1, rB, rL, rd, yb, r2, hyb⟩ := hq17
        dsimp only at r1 rB rL rd r2 hyb
        refine Ws_ret ?_
        refine We_L (by walk_at "v") ?_
        rw [List.length_reverse, hvl] at rd hyb
        rw [List.take_length] at hyb
        refine q yb HH (h8.b.trans rB) (h8.le.trans rL) ?_ hyb
        rw [rd, List.length_cons, hil]

end -- MC22

section -- MC23
set_option maxRecDepth 20000
variable {G : Gl} {a : KA} {A : Around} {env : Env} {σ : St} {L : Addr}

/-- the keys that _law_are_once meets -/
noncomputable def kk : T → List KK
  | .lam l p _ => [.t l, .i p]
  | _ => []
noncomputable def kks (t : T) : List KK := t.nodes.flatMap kk
theorem kks_lam (l p : Int) (b : T) : kks (.lam l p b) = .t l :: .i p :: kks b := by unfold kks; rw [T.nodes, List.flatMap_cons]; rfl
theorem kks_call1 (f x : T) : kks (.call1 f x) = kks f ++ kks x := by unfold kks; rw [T.nodes, List.flatMap_cons, List.flatMap_append]; rfl
theorem kks_call2 (f x y : T) : kks (.call2 f x y) = kks f ++ (kks x ++ kks y) := by unfold kks; rw [T.nodes, List.flatMap_cons, List.flatMap_append, List.flatMap_append]; rfl
theorem mem_kks : ∀ {t : T} {k : KK}, k ∈ kks t → (∃ l ∈ t.labs, k = .t l) ∨ ∃ p ∈ t.prms, k = .i p
  | .con _, k, h => by simp [kks, T.nodes, kk] at h
  | .loc _, k, h => by simp [kks, T.nodes, kk] at h
  | .glob, k, h => by simp [kks, T.nodes, kk] at h
  | .lam l p b, k, h => by
    rw [kks_lam] at h
    rcases List.mem_cons.mp h with rfl | h
    · exact .inl ⟨l, .head _, rfl⟩
    · rcases List.mem_cons.mp h with rfl | h
      · exact .inr ⟨p, .head _, rfl⟩
      · rcases mem_kks h with ⟨q, h1, h2⟩ | ⟨q, h1, h2⟩
        · exact .inl ⟨q, .tail _ h1, h2⟩
        · exact .inr ⟨q, .tail _ h1, h2⟩
  | .call1 f x, k, h => by
    rw [kks_call1] at h
    rcases List.mem_append.mp h with h | h <;> rcases mem_kks h with ⟨q, h1, h2⟩ | ⟨q, h1, h2⟩
    · exact .inl ⟨q, by simp [T.labs, h1], h2⟩
    · exact .inr ⟨q, by simp [T.prms, h1], h2⟩
    · exact .inl ⟨q, by simp [T.labs, h1], h2⟩
    · exact .inr ⟨q, by simp [T.prms, h1], h2⟩
  | .call2 f x y, k, h => by
    rw [kks_call2] at h
    rcases List.mem_append.mp h with h | h
    · rcases mem_kks h with ⟨q, h1, h2⟩ | ⟨q, h1, h2⟩
      · exact .inl ⟨q, by simp [T.labs, h1], h2⟩
      · exact .inr ⟨q, by simp [T.prms, h1], h2⟩
    rcases List.mem_append.mp h with h | h <;> rcases mem_kks h with ⟨q, h1, h2⟩ | ⟨q, h1, h2⟩
    · exact .inl ⟨q, by simp [T.labs, h1], h2⟩
    · exact .inr ⟨q, by simp [T.prms, h1], h2⟩
    · exact .inl ⟨q, by simp [T.labs, h1], h2⟩
    · exact .inr ⟨q, by simp [T.prms, h1], h2⟩
theorem kks_disj {f x : T} (h1 : ∀ l ∈ f.labs, l ∉ x.labs) (h2 : ∀ p ∈ f.prms, p ∉ x.prms) : ∀ k ∈ kks f, ∀ k' ∈ kks x, k ≠ k' := by
  intro k hk k' hk'
  rintro rfl
  rcases mem_kks hk with ⟨l, hl, rfl⟩ | ⟨l, hl, rfl⟩ <;> rcases mem_kks hk' with ⟨m, hm, e⟩ | ⟨m, hm, e⟩ <;> cases e
  · exact h1 l hl hm
  · exact h2 l hl hm
theorem nd_app {α : Type} {l m : List α} (h : (l ++ m).Nodup) : l.Nodup ∧ m.Nodup ∧ ∀ x ∈ l, x ∉ m := by
  (refine x0_3 (List.nodup_append.mp h) ?_; intro h1 h2 h3)
  exact ⟨h1, h2, fun x hx hm => h3 x hx x hm rfl⟩
theorem kks_nodup : ∀ {t : T}, t.labs.Nodup → t.prms.Nodup → (kks t).Nodup
  | .con _, _, _ => by simp [kks, T.nodes, kk]
  | .loc _, _, _ => by simp [kks, T.nodes, kk]
  | .glob, _, _ => by simp [kks, T.nodes, kk]
  | .lam l p b, h1, h2 => by
    (refine x0_2 (List.nodup_cons.mp h1) ?_; intro h3 h4)
    refine x0_2 (List.nodup_cons.mp h2) ?_; intro h5 h6
    rw [kks_lam, List.nodup_cons, List.nodup_cons]
    refine ⟨fun h => ?_, fun h => ?_, kks_nodup h4 h6⟩
    · rcases List.mem_cons.mp h with h | h
      · cases h
      · rcases mem_kks h with ⟨q, h7, e⟩ | ⟨q, h7, e⟩ <;> cases e
        exact h3 h7
    · rcases mem_kks h with ⟨q, h7, e⟩ | ⟨q, h7, e⟩ <;> cases e
      exact h5 h7
  | .call1 f x, h1, h2 => by
    (refine x0_3 (nd_app h1) ?_; intro a1 a2 a3)
    refine x0_3 (nd_app h2) ?_; intro b1 b2 b3
    rw [kks_call1]
    exact List.nodup_append.mpr ⟨kks_nodup a1 b1, kks_nodup a2 b2, kks_disj a3 b3⟩
  | .call2 f x y, h1, h2 => by
    (refine x0_3 (nd_app h1) ?_; intro a1 a2 a3)
    refine x0_3 (nd_app h2) ?_; intro b1 b2 b3
    refine x0_3 (nd_app a2) ?_; intro c1 c2 c3
    refine x0_3 (nd_app b2) ?_; intro d1 d2 d3
    rw [kks_call2]
    refine List.nodup_append.mpr ⟨kks_nodup a1 b1, List.nodup_append.mpr ⟨kks_nodup c1 d1, kks_nodup c2 d2, kks_disj c3 d3⟩, ?_⟩
    intro k hk k' hk' e
    rcases List.mem_append.mp hk' with h | h
    · exact kks_disj (x := x) (fun l hl hm => a3 l hl (by simp [hm])) (fun l hl hm => b3 l hl (by simp [hm])) k hk k' h e
    · exact kks_disj (x := y) (fun l hl hm => a3 l hl (by simp [hm])) (fun l hl hm => b3 l hl (by simp [hm])) k hk k' h e
theorem kks_len (t : T) : ∀ (l : List T), (l.flatMap kk).length ≤ 2 * l.length
  | [] => by simp
  | x :: l => by
    rw [List.flatMap_cons, List.length_append, List.length_cons]
    have := kks_len t l
    have : (kk x).length ≤ 2 := by cases x <;> simp [kk]
    lia

inductive KVs (H : Hp) : List KK → List Value → Prop
  | nil : KVs H [] []
  | cons {k : KK} {v : Value} {ks : List KK} {vs : List Value} : KKV H k v → KVs H ks vs → KVs H (k :: ks) (v :: vs)
theorem KKV.mono {H H' : Hp} (h : Le H H') {k : KK} {v : Value} (x : KKV H k v) : KKV H' k v := by
  cases k with
  | i n => exact x
  | t l => (refine x1_2 x ?_; (try clear x); intro a e h1); exact ⟨a, e, h _ _ rfl h1⟩
theorem KVs.mono {H H' : Hp} (h : Le H H') {ks : List KK} {vs : List Value} (x : KVs H ks vs) : KVs H' ks vs := by
  induction x with
  | nil => exact .nil
  | cons h1 _ ih => exact .cons (h1.mono h) ih
theorem KVs.append {H : Hp} {ks ks' : List KK} {vs vs' : List Value} (x : KVs H ks vs) (y : KVs H ks' vs') : KVs H (ks ++ ks') (vs ++ vs') := by
  induction x with
  | nil => exact y
  | cons h1 _ ih => exact .cons h1 ih
theorem KVs.length {H : Hp} {ks : List KK} {vs : List Value} (x : KVs H ks vs) : vs.length = ks.length := by
  induction x with
  | nil => rfl
  | cons _ _ ih => rw [List.length_cons, List.length_cons, ih]
theorem KVs.get {H : Hp} {ks : List KK} {vs : List Value} (x : KVs H ks vs) : ∀ {j : Nat} {v : Value}, vs[j]? = some v → ∃ k, ks[j]? = some k ∧ KKV H k v := by
  induction x with
  | nil => intro j v h; simp at h
  | cons h1 _ ih =>
    intro j v h
    cases j with
    | zero => simp at h; subst h; exact ⟨_, rfl, h1⟩
    | succ j => exact ih (by simpa using h)

theorem law_are_once (O : G.Ok) (K : KF G a) (I : KI G a) {n : Nat} (R : Rm A (n + 5)) {H : Hp} {t : T} {x : Addr} (ht : Rep a H t x) (hz : t.size ≤ 1000) (hl : t.labs.Nodup) (hp : t.prms.Nodup) {Q : Value → Hp → Prop}
    (q : ∀ H', Ext H H' → Q (.bool true) H') : Wc G A (.ref a.f_x_law_are_once) [.ref x] Q H := by
  refine Wc_fun O K.d.d_x_law_are_once.fn R.room ["_law_node"] (bd1 fun _ _ _ _ _ _ _ _ => rfl) (by rfl) (by rfl) (by rfl) (by rfl) (by rfl) ?_
  intro L qual cdv hL
  have R1 : Rm (A.deeper (envOf qual (scopeOf (stmtAt 67)) L a.f_x_law_are_once cdv)) (n + 4) := R.deeper
  refine Ws_asg ?_
  refine We_List ?_
  refine Wargs_nil ?_
  refine ⟨Nat.zero_le _, fun ml hml hmlL => ?_⟩
  try dsimp only at hml ⊢
  have hE1 : Ext H (upd H ml (.list false [])) := Ext.new hml
  have hm1 : upd H ml (.list false []) ml = some (.list false []) := upd_same
  generalize upd H ml (.list false []) = H1 at hE1 hm1
  refine Ws_cons ?_
  refine Wst_For_list R1.hd ?_
  refine We_callK O K.d.d_all_nodes.glob K.d.d_all_nodes.fn.keep ?_
  refine Wargs_l (by walk_at "v") ?_
  refine Wargs_nil ?_
  refine Wcall_of ?_
  refine all_nodes O K (n := n) (R1.le (by lia)) (ht.mono hE1.le) (by lia) ?_
  intro nl nvs H2 hE2 hnl0 hnl hnv
  try dsimp only at hE2 hnl0 hnv
  have hmn : ml ≠ nl := ne_new hnl0 hm1
  have hnlen : nvs.length = t.size := by rw [hnv.length, T.length_nodes]
  have hnv2 := hnv.mono hE2.le
  obtain ⟨J, hJ⟩ : ∃ J : Nat → St → Prop, J = fun i σ => σ.m "_law_met" = some (.ref ml) ∧ (Ext H σ.H ∧ Le H2 σ.H ∧ σ.H nl = some (.list false nvs)) ∧ ∃ vs, σ.H ml = some (.list false vs) ∧ KVs σ.H ((t.nodes.take i).flatMap kk) vs := ⟨_, rfl⟩
  refine ⟨nl, nvs, J, rfl, ?_⟩
  refine ⟨?_, fun i σ h => ?_, ?_, ?_⟩
  · rw [hJ]; exact ⟨by walk_at "v", ⟨hE1.trans hE2, .refl _, hnl⟩, [], hE2 _ _ hm1, .nil⟩
  · rw [hJ] at h; exact ⟨_, h.2.1.2.2⟩
  · intro i v hq1
    obtain ⟨mm, HH⟩ := hq1
    intro hv hj u hu
    rw [hJ] at hj
    obtain ⟨m1, hq2, vs, e4, e5⟩ := hj
    refine x0_3 hq2 ?_; (try clear hq2); intro e1 e2 e3
    dsimp only at m1 e1 e2 e3 e4 e5
    refine x2_3 (hnv2.get hv) ?_; intro ti xi hti rfl hri
    have hri := hri.mono e2
    have hnext : (t.nodes.take (i + 1)).flatMap kk = (t.nodes.take i).flatMap kk ++ kk ti := by
      rw [List.take_add_one, hti, Option.toList_some, List.flatMap_append, List.flatMap_cons, List.flatMap_nil, List.append_nil]
    have hlv : vs.length ≤ 2000 := by
      have h1 := e5.length
      have h2 := kks_len t (t.nodes.take i)
      have h3 : (t.nodes.take i).length ≤ t.size := by rw [List.length_take, T.length_nodes]; exact Nat.min_le_right _ _
      lia
    refine W_nm hu ?_
    refine Ws_cons ?_
    refine Wst_If ?_
    refine Wb_isin O K.c.nb_isinstance (by walk_at "v") K.n.k_Lambda.glob (fun _ q => W_isLambda O K I hri q) ?_
    refine ifs (fun _ => ?_) (fun _ => ?_)
    · rename_i hlam
      obtain ⟨l, p, b, rfl⟩ : ∃ l p b, ti = .lam l p b := by cases ti <;> simp [T.isLambda] at hlam; exact ⟨_, _, _, rfl⟩
      refine x3_4 hri ?_; (try clear hri); intro d pl y h1 h2 h3 h4
      refine Ws_cons ?_
      refine Wst_Expr ?_
      refine We_MethodCall ?_
      refine We_L (by walk_at "v") ?_
      refine W_bcall (gm_list e4 PySem.F.slot_list_extend PySem.F.type_list_extend) ?_
      refine Wargs_c ?_
      refine We_BinOp ?_
      refine We_List ?_
      refine Wargs_c ?_
      refine We_Tuple ?_
      refine Wargs_c ?_
      refine We_Str ?_
      refine Wargs_c ?_
      refine We_own O K.n.k_Lambda K.n.o_Lambda_label h1 h2 (by with_unfolding_all exact Eq.refl (some _)) (by walk_at "v") ?_
      refine Wargs_nil ?_
      refine ⟨Nat.le_of_ble_eq_true rfl, fun tp htp htpL => ?_⟩
      refine Wargs_nil ?_
      refine ⟨Nat.le_of_ble_eq_true rfl, fun l1 hl1 hl1L => ?_⟩
      have x1 : Ext HH (upd HH tp (.tuple [.str "label" 0, .int l 0])) := Ext.new htp
      have x2 : Ext (upd HH tp (.tuple [.str "label" 0, .int l 0])) (upd (upd HH tp (.tuple [.str "label" 0, .int l 0])) l1 (.list false [.ref tp])) := Ext.new hl1
      have htp3 := x2 _ _ (upd_same (H := HH) (a := tp) (o := .tuple [.str "label" 0, .int l 0]))
      have hl13 : upd (upd HH tp (.tuple [.str "label" 0, .int l 0])) l1 (.list false [.ref tp]) l1 = some (.list false [.ref tp]) := upd_same
      have x3 := x1.trans x2
      try dsimp only
      generalize upd (upd HH tp (.tuple [.str "label" 0, .int l 0])) l1 (.list false [.ref tp]) = H3 at x3 htp3 hl13
      refine We_own O K.n.k_Lambda K.n.o_Lambda_params (x3 _ _ h1) (x3 _ _ h2) (by with_unfolding_all exact Eq.refl (some _)) (by walk_at "v") ?_
      refine W_addList hl13 (x3 _ _ h3) (Nat.le_of_ble_eq_true rfl) ?_
      intro l2 hl2 hl2L
      have x4 : Ext H3 (upd H3 l2 (.list false [.ref tp, .int p 0])) := Ext.new hl2
      have hl24 : upd H3 l2 (.list false [.ref tp, .int p 0]) l2 = some (.list false [.ref tp, .int p 0]) := upd_same
      have htp4 := x4 _ _ htp3
      have x5 := x3.trans x4
      show Wargs G _ _ _ _ _ ⟨_, upd H3 l2 (.list false [.ref tp, .int p 0])⟩
      generalize upd H3 l2 (.list false [.ref tp, .int p 0]) = H4 at x5 hl24 htp4
      clear x1 x2 x3 x4 htp3 hl13 hl1 hl1L htp htpL hl2 hl2L
      refine Wargs_nil ?_
      refine W_extend (x5 _ _ e4) hl24 (by simp) (by simp; lia) ?_
      refine ⟨(fun _ h => by cases h), ?_⟩
      try dsimp only
      refine Ws_nil ?_
      refine Ws_nil ?_
      have L5 : Le H4 (upd H4 ml (.list false (vs ++ [.ref tp, .int p 0]))) := Le.mut (x5 _ _ e4) rfl
      show At J (i + 1) _
      rw [hJ]
      refine ⟨m1, ⟨(e1.trans x5).mut hml, (e2.trans x5.le).trans L5, (upd_ne (Ne.symm hmn)).trans (x5 _ _ e3)⟩, _, upd_same, ?_⟩
      rw [hnext]
      exact ((e5.mono x5.le).append (.cons (k := .t l) ⟨tp, rfl, htp4⟩ (.cons (k := .i p) rfl .nil))).mono L5
    · rename_i hlam
      refine Ws_nil ?_
      refine Ws_nil ?_
      have hk : kk ti = [] := by cases ti <;> first | rfl | (simp [T.isLambda] at hlam)
      show At J (i + 1) _
      rw [hJ]
      refine ⟨by walk_at "v", ⟨e1, e2, e3⟩, vs, e4, ?_⟩
      rw [hnext, hk, List.append_nil]
      exact e5
  · intro hq3
    obtain ⟨mm, HH⟩ := hq3
    intro hj
    rw [hJ] at hj
    obtain ⟨m1, hq4, vs, e4, e5⟩ := hj
    refine x0_3 hq4 ?_; (try clear hq4); intro e1 e2 e3
    dsimp only at m1 e1 e2 e3 e4 e5
    rw [hnlen, ← T.length_nodes, List.take_length] at e5
    have hlv : vs.length ≤ 2000 := by
      have h1 := e5.length
      have h2 := kks_len t t.nodes
      rw [T.length_nodes] at h2
      lia
    clear hJ
    refine Ws_ret ?_
    refine We_Compare ?_
    refine We_callB O K.c.nb_len bb_len ?_
    refine Wargs_l (by walk_at "v") ?_
    refine Wargs_nil ?_
    refine W_len_list e4 (by lia) ?_
    refine We_len_dict O (n := n) (R1.le (by lia)) K.c.nb_len bb_len K.c.nb_dict bb_dict ?_
    refine We_ListComp [] R1.hd ?_
    refine We_L (by walk_at "v") ?_
    refine ⟨_, _, _, fun acc i ys H' => H' acc = some (.list false ys) ∧ (HH acc = none ∧ Ext HH H') ∧ ys.length = i ∧ ∀ (j : Nat) (v : Value), ys[j]? = some v → ∃ (tt : Addr) (kv : Value), v = .ref tt ∧ H' tt = some (.tuple [kv, .int 0 0]) ∧ vs[j]? = some kv, Src.list e4, ?_⟩
    refine ⟨by lia, fun acc h => ⟨upd_same, ⟨h, Ext.new h⟩, rfl, fun j v hv => by simp at hv⟩, fun acc i ys H' ⟨j1, ⟨_, j2⟩, j3, _⟩ => ⟨j1, ⟨_, j2 _ _ e4⟩, by lia⟩, ?_, ?_⟩
    · intro acc C i v ys H' hi hP hq5
      refine x0_4 hq5 ?_; (try clear hq5); intro j1 hq6 j3 j4
      refine x0_2 hq6 ?_; (try clear hq6); intro j0 j2
      intro hCa hHC
      refine Wts_nil ?_
      refine ift rfl ?_
      refine We_Tuple ?_
      refine Wargs_l (by walk_at "v") ?_
      refine Wargs_c ?_
      refine We_Int ?_
      refine Wargs_nil ?_
      refine ⟨Nat.le_of_ble_eq_true rfl, fun tt htt httL => ?_⟩
      try dsimp only at htt ⊢
      have x1 : Ext H' (upd H' tt (.tuple [v, .int 0 0])) := Ext.new htt
      have hta : tt ≠ acc := fun e => by rw [e, j1] at htt; cases htt
      refine ⟨x1 _ _ j1, upd_same, ⟨j0, (j2.trans x1).mut j0⟩, by rw [List.length_append, j3]; rfl, fun j w hw => ?_⟩
      rw [List.getElem?_append] at hw
      split at hw
      · refine x2_3 (j4 j w hw) ?_; intro t2 kv hv2 ht2 hkv
        have hne : t2 ≠ acc := fun e => by rw [e, j1] at ht2; cases ht2
        exact ⟨t2, kv, hv2, (upd_ne hne).trans (x1 _ _ ht2), hkv⟩
      · rename_i hjl
        have hj0 : j - ys.length = 0 := by have := (List.getElem?_eq_some_iff.mp hw).1; simp at this; lia
        rw [hj0] at hw
        simp at hw
        refine ⟨tt, v, hw.symm, (upd_ne hta).trans upd_same, ?_⟩
        have : j = i := by lia
        rw [this]; exact hP
    · intro acc ys H' hacc hq7
      refine x0_4 hq7 ?_; (try clear hq7); intro j1 hq8 j3 j4
      refine x0_2 hq8 ?_; (try clear hq8); intro j0 j2
      refine ⟨acc, false, ys, kks t, rfl, j1, kks_nodup hl hp, by rw [j3]; exact e5.length, by lia, ?_, ?_⟩
      · intro j v hv
        refine x2_3 (j4 j v hv) ?_; intro tt kv h1 h2 h3
        refine x1_2 (e5.get h3) ?_; intro k h4 h5
        exact ⟨tt, kv, k, h1, h2, h4, h5.mono j2.le⟩
      · rw [j3]
        refine W_eq ?_
        rw [beq_self_eq_true]
        exact q H' (e1.trans j2)

end -- MC23

section -- MT6

/-- what a tree is worth -/
inductive D where
  | i (n : Int)
  | f (f : Int → Int)
  | no
abbrev Ctx := Int → Option D
noncomputable def cput (g : Ctx) (p : Int) (d : D) : Ctx := fun x => if x = p then some d else g x
noncomputable def D.isF : D → Bool
  | .f _ => true
  | _ => false
inductive Den : Ctx → T → D → Prop
  | con {g : Ctx} {i : Int} : Den g (.con i) (.i i)
  | loc {g : Ctx} {n : Int} {d : D} : g n = some d → Den g (.loc n) d
  | glob {g : Ctx} : Den g .glob (.f fun i => i + 1)
  | lam {g : Ctx} {l p : Int} {b : T} {f : Int → Int} : (∀ i, Den (cput g p (.i i)) b (.i (f i))) → Den g (.lam l p b) (.f f)
  | call1 {g : Ctx} {F E : T} {f : Int → Int} {i : Int} : Den g F (.f f) → Den g E (.i i) → Den g (.call1 F E) (.i (f i))
  | lt {g : Ctx} {m p l q : Int} {P b : T} {f : Int → Int} {d : D} : Den g (.lam l q b) (.f f) → Den (cput g p (.f f)) P d → d.isF = false → Den g (.call1 (.lam m p P) (.lam l q b)) d
  | call2 {g : Ctx} {F E E' : T} {f : Int → Int} {i j : Int} : Den g F (.f f) → Den g E (.i i) → Den g E' (.i j) → Den g (.call2 F E E') .no

/-- the value v is worth d; its calls need n levels -/
inductive RD (a : KA) (H : Hp) : Nat → Value → D → Prop
  | int {n : Nat} {i : Int} : RD a H n (.int i 0) (.i i)
  | no {n : Nat} : RD a H n .none .no
  | more {n : Nat} : RD a H n (.str "more" 0) (.f fun i => i + 1)
  | clo {n m : Nat} {tp x dd : Addr} {l p : Int} {b : T} {es : List (Int × Value)} {g : Ctx} {f : Int → Int} : H tp = some (.tuple [.ref x, .ref dd]) → Rep a H (.lam l p b) x → H dd = some (.tab true es) → dd ≠ sysModules →
      (∀ k d, g k = some d → (tget k es).isSome = true) → (∀ k d, g k = some d → RD a H m ((tget k es).getD .none) d) → es.length + b.size + 1 ≤ 1000000 → (∀ i, Den (cput g p (.i i)) b (.i (f i))) → b.size + m + 1 ≤ n → RD a H n (.ref tp) (.f f)
theorem RD.mono {a : KA} {H H' : Hp} {n : Nat} {v : Value} {d : D} (hl : Le H H') (h : RD a H n v d) : RD a H' n v d := by
  induction h with
  | int => exact .int
  | no => exact .no
  | more => exact .more
  | clo h1 h2 h3 h4 h5 h6 h7 h8 h9 ih => exact .clo (hl _ _ rfl h1) (h2.mono hl) (hl _ _ rfl h3) h4 h5 ih h7 h8 h9
theorem RD.up {a : KA} {H : Hp} {n n' : Nat} {v : Value} {d : D} (h : RD a H n v d) (hn : n ≤ n') : RD a H n' v d := by
  cases h with
  | int => exact .int
  | no => exact .no
  | more => exact .more
  | clo h1 h2 h3 h4 h5 h6 h7 h8 h9 => exact .clo h1 h2 h3 h4 h5 h6 h7 h8 (Nat.le_trans h9 hn)
noncomputable def RE (a : KA) (H : Hp) (m : Nat) (es : List (Int × Value)) (g : Ctx) : Prop := ∀ k d, g k = some d → (tget k es).isSome = true ∧ RD a H m ((tget k es).getD .none) d
theorem RE.mono {a : KA} {H H' : Hp} {m : Nat} {es : List (Int × Value)} {g : Ctx} (hl : Le H H') (h : RE a H m es g) : RE a H' m es g := fun k d e => ⟨(h k d e).1, (h k d e).2.mono hl⟩
theorem RE.put {a : KA} {H : Hp} {m m' : Nat} {es : List (Int × Value)} {g : Ctx} (h : RE a H m es g) (hm : m ≤ m') {p : Int} {v : Value} {d : D} (hv : RD a H m' v d) : RE a H m' (tput p v es) (cput g p d) := fun k d' e => by
  rw [tget_tput]
  unfold cput at e
  by_cases hk : k = p
  · rw [if_pos hk] at e
    cases e
    rw [if_pos hk.symm]
    exact ⟨rfl, hv⟩
  · rw [if_neg hk] at e
    rw [if_neg (Ne.symm hk)]
    exact ⟨(h k d' e).1, (h k d' e).2.up hm⟩

end -- MT6

section -- MC24
set_option maxRecDepth 20000
variable {G : Gl} {a : KA} {A : Around} {env : Env} {σ : St} {L : Addr}

theorem W_isStr_str {x : Str} {Q : Value → St → Prop} (q : Q (.bool true) σ) : Wcall G A L (.builtin "isinstance") [.str x 0, .type "str"] Q σ := fun us hu s X => by
  (refine x2_3 (two_args hu) ?_; intro u u' rfl h1 h2)
  refine x1_1 (er_str h1) ?_; intro t rfl
  obtain rfl := er_type h2
  exact IsiPair.str_str ⟨σ, X, Out.refl .., q⟩
theorem W_isStr_tup {t : Addr} {xs : List Value} {Q : Value → St → Prop} (h : σ.H t = some (.tuple xs)) (q : Q (.bool false) σ) : Wcall G A L (.builtin "isinstance") [.ref t, .type "str"] Q σ := fun us hu s X => by
  (refine x2_3 (two_args hu) ?_; intro u u' rfl h1 h2)
  obtain rfl := er_ref h1
  obtain rfl := er_type h2
  refine x1_3 (X.at h) ?_; intro o ho hq1 _
  refine x2_2 hq1 ?_; (try clear hq1); intro vs n rfl _
  exact IsiPair.tuple_str ho rfl ⟨σ, X.tok, Out.tok, q⟩
abbrev venv (a : KA) (qual : Str) (L : Addr) (cdv : Value) : Env := envOfC qual (scopeOf (stmtAt 66)) L a.f_x_law_value_of cdv

/-- a call's head and operands -/
theorem value_front (O : G.Ok) (K : KF G a) (I : KI G a) {n : Nat} (R : Rm A (n + 1)) {qual : Str} {cdv : Value} {t : T} {x y d ol dd : Addr} {zs : List Value} {H : Hp} {m : Str → Option Value} {Hd : Value → Hp → Prop} {Od : Nat → Value → Hp → Prop}
    (hx : m "_law_node" = some (.ref x)) (hc : H (L + 1) = some (.cell (some (.ref dd)))) (ht : Rep a H t x) (h8 : t.isConst = false ∧ t.isLocal = false ∧ t.isLambda = false ∧ t.isGlobal = false)
    (hi : H x = some (.inst a.cCall d)) (ha : H d = some (.attrs true [("operator", .ref y), ("operands", .ref ol)])) (hol : H ol = some (.list true zs)) (hz : zs.length ≤ 10) (hzr : ∀ v ∈ zs, ∃ z, v = .ref z)
    (mH : ∀ v H1 H2, Le H1 H2 → Hd v H1 → Hd v H2) (mO : ∀ i v H1 H2, Le H1 H2 → Od i v H1 → Od i v H2)
    (hh : ∀ H1, Ext H H1 → ∀ Q : Value → Hp → Prop, (∀ v H2, Ext H1 H2 → Hd v H2 → Q v H2) → Wc G A (.ref a.f_x_law_value_of) [.ref y, .ref dd] Q H1)
    (ho : ∀ i z, zs[i]? = some (.ref z) → ∀ H1, Ext H H1 → ∀ Q : Value → Hp → Prop, (∀ v H2, Ext H1 H2 → Od i v H2 → Q v H2) → Wc G A (.ref a.f_x_law_value_of) [.ref z, .ref dd] Q H1)
    {Q : Flow → St → Prop}
    (q : ∀ m' H' vh ob vs, Ext H H' → m' "_law_head" = some vh → m' "_law_operands" = some (.ref ob) → H' ob = some (.list false vs) → vs.length = zs.length → Hd vh H' → (∀ i v, vs[i]? = some v → Od i v H') → Ws G A (venv a qual L cdv) ((bodyOf (stmtAt 66)).drop 6) Q ⟨m', H'⟩) :
    Ws G A (venv a qual L cdv) (bodyOf (stmtAt 66)) Q ⟨m, H⟩ := by
  (refine x0_4 h8 ?_; (try clear h8); intro i1 i2 i3 i4)
  refine Ws_cons ?_
  refine Wst_If ?_
  refine Wb_isin O K.c.nb_isinstance (by walk_at "v") K.n.k_Const.glob (fun _ q => W_isConst O K I ht q) ?_
  refine iff_ (by rw [i1]; decide) ?_
  refine Ws_nil ?_
  refine Ws_cons ?_
  refine Wst_If ?_
  refine Wb_isin O K.c.nb_isinstance (by walk_at "v") K.n.k_Local.glob (fun _ q => W_isLocal O K I ht q) ?_
  refine iff_ (by rw [i2]; decide) ?_
  refine Ws_nil ?_
  refine Ws_cons ?_
  refine Wst_If ?_
  refine Wb_isin O K.c.nb_isinstance (by walk_at "v") K.n.k_Lambda.glob (fun _ q => W_isLambda O K I ht q) ?_
  refine iff_ (by rw [i3]; decide) ?_
  refine Ws_nil ?_
  refine Ws_cons ?_
  refine Wst_If ?_
  refine Wb_isin O K.c.nb_isinstance (by walk_at "v") K.n.k_Global.glob (fun _ q => W_isGlobal O K I ht q) ?_
  refine iff_ (by rw [i4]; decide) ?_
  refine Ws_nil ?_
  refine Ws_asg ?_
  refine We_callK O K.d.d_x_law_value_of.glob K.d.d_x_law_value_of.fn.keep ?_
  refine Wargs_c ?_
  refine We_own O K.n.k_Call K.n.o_Call_operator hi ha (by with_unfolding_all exact Eq.refl (some _)) (by walk_at "v") ?_
  refine Wargs_c ?_
  refine We_Cell (c := L + 1) (by repeat (first | with_reducible assumption | with_reducible exact upd_same | with_reducible refine upd_other (by first | assumption | exact Ne.symm (by assumption)) ?_)) ?_
  refine Wargs_nil ?_
  refine Wcall_of ?_
  refine hh H (.refl H) _ fun vh H2 hE2 hvh => ?_
  have hc2 := hE2 _ _ hc
  have hol2 := hE2 _ _ hol
  try dsimp only
  refine Ws_cons ?_
  refine Wst_AssignComp [("_law_env", L + 1)] R.hd ?_
  refine We_own O K.n.k_Call K.n.o_Call_operands (hE2 _ _ hi) (hE2 _ _ ha) (by with_unfolding_all exact Eq.refl (some _)) (by walk_at "v") ?_
  refine ⟨_, _, _, fun acc i ys H' => H' acc = some (.list false ys) ∧ (H2 acc = none ∧ Ext H2 H') ∧ ys.length = i ∧ ∀ j v, ys[j]? = some v → Od j v H', Src.list hol2, ?_⟩
  refine ⟨by lia, fun acc h => ⟨upd_same, ⟨h, Ext.new h⟩, rfl, fun j v hv => by simp at hv⟩, fun acc i ys H' ⟨j1, ⟨_, j2⟩, j3, _⟩ => ⟨j1, ⟨_, j2 _ _ hol2⟩, by lia⟩, ?_, ?_⟩
  · intro acc C i v ys H' hi' hP hq2
    refine x0_4 hq2 ?_; (try clear hq2); intro j1 hq3 j3 j4
    refine x0_2 hq3 ?_; (try clear hq3); intro j0 j2
    intro hCa hHC
    refine Wts_nil ?_
    refine ift rfl ?_
    refine x1_1 (hzr v (List.mem_of_getElem? hP)) ?_; intro z rfl
    have hc3 := j2 _ _ hc2
    refine We_callK O K.d.d_x_law_value_of.glob K.d.d_x_law_value_of.fn.keep ?_
    refine Wargs_l (by walk_at "v") ?_
    refine Wargs_c ?_
    refine We_Cell (c := L + 1) (by repeat (first | with_reducible assumption | with_reducible exact upd_same | with_reducible refine upd_other (by first | assumption | exact Ne.symm (by assumption)) ?_)) ?_
    refine Wargs_nil ?_
    refine Wcall_of ?_
    refine ho i z hP H' (hE2.trans j2) _ fun v H3 hE3 hv => ?_
    refine ⟨hE3 _ _ j1, upd_same, ⟨j0, (j2.trans hE3).mut j0⟩, by rw [List.length_append, j3]; rfl, fun j w hw => ?_⟩
    have L3 : Le H3 (upd H3 acc (.list false (ys ++ [v]))) := Le.mut (hE3 _ _ j1) rfl
    rw [List.getElem?_append] at hw
    split at hw
    · exact mO _ _ _ _ (hE3.le.trans L3) (j4 j w hw)
    · have hj0 : j - ys.length = 0 := by have := (List.getElem?_eq_some_iff.mp hw).1; simp at this; lia
      rw [hj0] at hw
      simp at hw
      have : j = i := by lia
      rw [this, ← hw]
      exact mO _ _ _ _ L3 hv
  · intro acc ys H' hacc hq4
    refine x0_4 hq4 ?_; (try clear hq4); intro j1 hq5 j3 j4
    refine x0_2 hq5 ?_; (try clear hq5); intro j0 j2
    refine q _ H' vh acc ys (hE2.trans j2) (by walk_at "v") (by walk_at "v") j1 j3 (mH _ _ _ j2.le hvh) j4

end -- MC24

section -- MC25
set_option maxRecDepth 20000
variable {G : Gl} {a : KA} {A : Around} {env : Env} {σ : St} {L : Addr}

/-- the head is "more" -/
theorem value_more (O : G.Ok) (K : KF G a) {n : Nat} (R : Rm A (n + 1)) {qual : Str} {cdv : Value} {ob : Addr} {i : Int} {H : Hp} {m : Str → Option Value}
    (hh : m "_law_head" = some (.str "more" 0)) (ho : m "_law_operands" = some (.ref ob)) (hob : H ob = some (.list false [.int i 0])) {Q : Flow → St → Prop} (q : Q (.ret (.int (i + 1) 0)) ⟨m, H⟩) :
    Ws G A (venv a qual L cdv) ((bodyOf (stmtAt 66)).drop 6) Q ⟨m, H⟩ := by
  refine Ws_cons ?_
  refine Wst_If ?_
  refine Wb_BoolOp ?_
  refine Wall_Or ?_
  refine Wb_Compare ?_
  refine We_L (by walk_at "v") ?_
  refine We_None ?_
  refine W_is_none ?_
  refine W_truthy_bool ?_
  refine iff_ (by decide) ?_
  refine Wall_Or ?_
  refine Wb_Compare ?_
  refine We_None ?_
  refine We_L (by walk_at "v") ?_
  refine W_none_in R hob (fun v hv => ?_) ?_
  · rw [List.mem_singleton.mp hv]; exact .int i
  refine W_truthy_bool ?_
  refine iff_ (by decide) ?_
  refine Wall_Or_nil ?_
  refine iff_ (by decide) ?_
  refine Ws_nil ?_
  refine Ws_cons ?_
  refine Wst_If ?_
  refine Wb_value ?_
  refine We_callB O K.c.nb_isinstance bb_isinstance ?_
  refine Wargs_l (by walk_at "v") ?_
  refine Wargs_c ?_
  refine We_Builtin O K.c.nb_str bb_str ?_
  refine Wargs_nil ?_
  refine W_isStr_str ?_
  refine W_truthy_bool ?_
  refine ift rfl ?_
  refine Ws_ret ?_
  refine We_IfExp ?_
  refine Wb_Compare ?_
  refine We_callB O K.c.nb_len bb_len ?_
  refine Wargs_l (by walk_at "v") ?_
  refine Wargs_nil ?_
  refine W_len_list hob (Nat.le_of_ble_eq_true rfl) ?_
  refine We_Int ?_
  refine W_eq ?_
  refine W_truthy_bool ?_
  refine ift (by rfl) ?_
  refine We_BinOp ?_
  refine We_Subscript ?_
  refine We_L (by walk_at "v") ?_
  refine We_Int ?_
  refine W_item_list hob (by decide) (by decide) (x := .int i 0) rfl ?_
  refine We_Int ?_
  refine W_add ?_
  exact q

/-- the head is a lambda and its dict -/
theorem value_clo (O : G.Ok) (K : KF G a) {n : Nat} (R : Rm A (n + 1)) {qual : Str} {cdv : Value} {tp xl de ob : Addr} {l p : Int} {b : T} {es : List (Int × Value)} {vs : List Value} {H : Hp} {m : Str → Option Value}
    (hh : m "_law_head" = some (.ref tp)) (ho : m "_law_operands" = some (.ref ob)) (hob : H ob = some (.list false vs)) (htp : H tp = some (.tuple [.ref xl, .ref de])) (hl : Rep a H (.lam l p b) xl) (hde : H de = some (.tab true es)) (hlow : de ≠ sysModules) (hes : es.length ≤ 1000000)
    (hz : vs.length ≤ 10) (hnn : ∀ v ∈ vs, NotNone H v) {Q : Flow → St → Prop} (q0 : vs.length ≠ 1 → ∀ m', Q (.ret .none) ⟨m', H⟩)
    (q1 : ∀ v yb fd H' m', vs = [v] → Ext H H' → Rep a H' b yb → H' fd = some (.tab true (tput p v es)) → fd ≠ sysModules → Wc G A (.ref a.f_x_law_value_of) [.ref yb, .ref fd] (fun r H'' => Q (.ret r) ⟨m', H''⟩) H') :
    Ws G A (venv a qual L cdv) ((bodyOf (stmtAt 66)).drop 6) Q ⟨m, H⟩ := by
  (refine x3_4 hl ?_; (try clear hl); intro dl pl yb g1 g2 g3 g4)
  refine Ws_cons ?_
  refine Wst_If ?_
  refine Wb_BoolOp ?_
  refine Wall_Or ?_
  refine Wb_Compare ?_
  refine We_L (by walk_at "v") ?_
  refine We_None ?_
  refine W_is_none ?_
  refine W_truthy_bool ?_
  refine iff_ (by simp) ?_
  refine Wall_Or ?_
  refine Wb_Compare ?_
  refine We_None ?_
  refine We_L (by walk_at "v") ?_
  refine W_none_in R hob hnn ?_
  refine W_truthy_bool ?_
  refine iff_ (by decide) ?_
  refine Wall_Or_nil ?_
  refine iff_ (by decide) ?_
  refine Ws_nil ?_
  refine Ws_cons ?_
  refine Wst_If ?_
  refine Wb_value ?_
  refine We_callB O K.c.nb_isinstance bb_isinstance ?_
  refine Wargs_l (by walk_at "v") ?_
  refine Wargs_c ?_
  refine We_Builtin O K.c.nb_str bb_str ?_
  refine Wargs_nil ?_
  refine W_isStr_tup htp ?_
  refine W_truthy_bool ?_
  refine iff_ (by decide) ?_
  refine Ws_nil ?_
  refine Ws_cons ?_
  refine Wst_AssignTuple ?_
  refine We_L (by walk_at "v") ?_
  intro v' hv'
  obtain rfl := er_ref hv'
  refine W_assign2 R.hd (x := .ref xl) (y := .ref de) htp ?_
  intro u u' hu hu'
  refine W_nm hu ?_
  refine W_nm hu' ?_
  try dsimp only
  refine Ws_cons ?_
  refine Wst_If ?_
  refine Wb_Compare ?_
  refine We_callB O K.c.nb_len bb_len ?_
  refine Wargs_l (by walk_at "v") ?_
  refine Wargs_nil ?_
  refine W_len_list hob (by lia) ?_
  refine We_callB O K.c.nb_len bb_len ?_
  refine Wargs_c ?_
  refine We_own O K.n.k_Lambda K.n.o_Lambda_params g1 g2 (by with_unfolding_all exact Eq.refl (some _)) (by walk_at "v") ?_
  refine Wargs_nil ?_
  refine W_len_list g3 (Nat.le_of_ble_eq_true rfl) ?_
  refine W_ne ?_
  refine W_truthy_bool ?_
  refine ifs (fun _ => ?_) (fun _ => ?_)
  · rename_i h
    refine Ws_ret ?_
    refine We_None ?_
    refine q0 (fun e => ?_) _
    rw [e] at h
    simp at h
  · rename_i h
    obtain ⟨v, rfl⟩ : ∃ v, vs = [v] := by
      have : vs.length = 1 := by
        have h2 : (vs.length : Int) = 1 := by simpa using h
        lia
      exact List.length_eq_one_iff.mp this
    refine Ws_nil ?_
    refine Ws_asg ?_
    refine We_callT O K.c.nb_dict bb_dict ?_
    refine Wargs_l (by walk_at "v") ?_
    refine Wargs_nil ?_
    refine W_dict_copy O hde hlow hes ?_
    intro fd hfd hfdL hfl
    try dsimp only at hfd
    have x1 : Ext H (upd H fd (.tab false es)) := Ext.new hfd
    have hf1 : upd H fd (.tab false es) fd = some (.tab false es) := upd_same
    try dsimp only
    generalize upd H fd (.tab false es) = H1 at x1 hf1
    refine Ws_cons ?_
    refine Wst_For_zip O R.hd K.c.nb_zip bb_zip ?_
    refine We_own O K.n.k_Lambda K.n.o_Lambda_params (x1 _ _ g1) (x1 _ _ g2) (by with_unfolding_all exact Eq.refl (some _)) (by walk_at "v") ?_
    refine We_L (by walk_at "v") ?_
    refine ⟨pl, ob, _, _, _, _, rfl, rfl, x1 _ _ g3, x1 _ _ hob, fun i σ => σ.m "_law_found" = some (.ref fd) ∧ σ.m "_law_own" = some (.ref xl) ∧ Ext H σ.H ∧ ((i = 0 ∧ σ.H fd = some (.tab false es)) ∨ (i = 1 ∧ σ.H fd = some (.tab false (tput p v es)))), ?_⟩
    refine ⟨⟨by walk_at "v", by walk_at "v", x1, .inl ⟨rfl, hf1⟩⟩, fun i σ h => ⟨⟨_, h.2.2.1 _ _ g3⟩, ⟨_, h.2.2.1 _ _ hob⟩⟩, ?_, ?_⟩
    · intro i v1 v2 tt hq1
      obtain ⟨mm, HH⟩ := hq1
      intro hv1 hv2 hq2
      refine x0_4 hq2 ?_; (try clear hq2); intro m1 m2 hE hst
      intro htt httL
      dsimp only at m1 m2 hE hst htt ⊢
      obtain rfl : i = 0 := by have := (List.getElem?_eq_some_iff.mp hv1).1; simpa using this
      obtain rfl : v1 = .int p 0 := by simpa using hv1.symm
      obtain rfl : v2 = v := by simpa using hv2.symm
      rcases hst with ⟨_, hst⟩ | ⟨h, _⟩
      · have x2 : Ext HH (upd HH tt (.tuple [.int p 0, v2])) := Ext.new htt
        refine W_assign2 R.hd (x := .int p 0) (y := v2) upd_same ?_
        intro u u' hu hu'
        refine W_nm hu ?_
        refine W_nm hu' ?_
        refine Ws_cons ?_
        refine Wst_AssignSub ?_
        refine We_L (by walk_at "v") ?_
        refine We_L (by walk_at "v") ?_
        refine We_L (by walk_at "v") ?_
        refine W_setI (x2 _ _ hst) hes ?_
        try dsimp only
        refine Ws_nil ?_
        exact ⟨by walk_at "v", by walk_at "v", (hE.trans x2).mut hfd, .inr ⟨rfl, upd_same⟩⟩
      · cases h
    · intro hq3
      obtain ⟨mm, HH⟩ := hq3
      intro hq4
      refine x0_4 hq4 ?_; (try clear hq4); intro m1 m2 hE hst
      dsimp only at m1 m2 hE hst
      rcases hst with ⟨h, _⟩ | ⟨_, hst⟩
      · cases h
      refine Ws_ret ?_
      refine We_callK O K.d.d_x_law_value_of.glob K.d.d_x_law_value_of.fn.keep ?_
      refine Wargs_c ?_
      refine We_own O K.n.k_Lambda K.n.o_Lambda_body (hE _ _ g1) (hE _ _ g2) (by with_unfolding_all exact Eq.refl (some _)) (by walk_at "v") ?_
      refine Wargs_l (by walk_at "v") ?_
      refine Wargs_nil ?_
      refine Wcall.frz (Frz.one (a := fd) hst) ?_
      refine Wcall_of ?_
      have hE2 : Ext H (upd HH fd (.tab true (tput p v es))) := hE.mut hfd
      exact q1 v yb fd _ _ rfl hE2 (g4.mono hE2.le) upd_same hfl

end -- MC25

section -- MC26
set_option maxRecDepth 20000
variable {G : Gl} {a : KA} {A : Around} {env : Env} {σ : St} {L : Addr}

theorem value_more2 (O : G.Ok) (K : KF G a) {n : Nat} (R : Rm A (n + 1)) {qual : Str} {cdv : Value} {ob : Addr} {i j : Int} {H : Hp} {m : Str → Option Value}
    (hh : m "_law_head" = some (.str "more" 0)) (ho : m "_law_operands" = some (.ref ob)) (hob : H ob = some (.list false [.int i 0, .int j 0])) {Q : Flow → St → Prop} (q : Q (.ret .none) ⟨m, H⟩) :
    Ws G A (venv a qual L cdv) ((bodyOf (stmtAt 66)).drop 6) Q ⟨m, H⟩ := by
  refine Ws_cons ?_
  refine Wst_If ?_
  refine Wb_BoolOp ?_
  refine Wall_Or ?_
  refine Wb_Compare ?_
  refine We_L (by walk_at "v") ?_
  refine We_None ?_
  refine W_is_none ?_
  refine W_truthy_bool ?_
  refine iff_ (by decide) ?_
  refine Wall_Or ?_
  refine Wb_Compare ?_
  refine We_None ?_
  refine We_L (by walk_at "v") ?_
  refine W_none_in R hob (fun v hv => ?_) ?_
  · rcases List.mem_cons.mp hv with rfl | hv
    · exact .int i
    · rw [List.mem_singleton.mp hv]; exact .int j
  refine W_truthy_bool ?_
  refine iff_ (by decide) ?_
  refine Wall_Or_nil ?_
  refine iff_ (by decide) ?_
  refine Ws_nil ?_
  refine Ws_cons ?_
  refine Wst_If ?_
  refine Wb_value ?_
  refine We_callB O K.c.nb_isinstance bb_isinstance ?_
  refine Wargs_l (by walk_at "v") ?_
  refine Wargs_c ?_
  refine We_Builtin O K.c.nb_str bb_str ?_
  refine Wargs_nil ?_
  refine W_isStr_str ?_
  refine W_truthy_bool ?_
  refine ift rfl ?_
  refine Ws_ret ?_
  refine We_IfExp ?_
  refine Wb_Compare ?_
  refine We_callB O K.c.nb_len bb_len ?_
  refine Wargs_l (by walk_at "v") ?_
  refine Wargs_nil ?_
  refine W_len_list hob (Nat.le_of_ble_eq_true rfl) ?_
  refine We_Int ?_
  refine W_eq ?_
  refine W_truthy_bool ?_
  refine iff_ (by simp) ?_
  refine We_None ?_
  exact q

theorem value_enter (O : G.Ok) (K : KF G a) {n : Nat} (R : Rm A (n + 1)) {x dd : Addr} {H : Hp} {Q : Value → Hp → Prop}
    (h : ∀ L qual cdv m H0, Ext H H0 → m "_law_node" = some (.ref x) → H0 (L + 1) = some (.cell (some (.ref dd))) → Rm (A.deeper (venv a qual L cdv)) n → Ws G (A.deeper (venv a qual L cdv)) (venv a qual L cdv) (bodyOf (stmtAt 66)) (fun fl σ' => Q (retOf fl) σ'.H) ⟨m, H0⟩) :
    Wc G A (.ref a.f_x_law_value_of) [.ref x, .ref dd] Q H := by
  refine Wc_funC O K.d.d_x_law_value_of.fn R.room ["_law_node", "_law_env"] "_law_env" (bd2 fun _ _ _ _ _ _ _ _ _ => rfl) (by intro _; with_unfolding_all rfl) (by rfl) (by rfl) (by rfl) (by rfl) ?_
  intro L qual cdv hL hL1
  exact h L qual cdv _ _ (Ext.new hL1) (by with_unfolding_all rfl) upd_same R.deeper

theorem value_lam (O : G.Ok) (K : KF G a) (I : KI G a) {n : Nat} (R : Rm A (n + 1)) {H : Hp} {l p : Int} {b : T} {x dd : Addr} (ht : Rep a H (.lam l p b) x) {Q : Value → Hp → Prop}
    (q : ∀ tp H', Ext H H' → H' tp = some (.tuple [.ref x, .ref dd]) → Q (.ref tp) H') : Wc G A (.ref a.f_x_law_value_of) [.ref x, .ref dd] Q H := by
  refine value_enter O K R ?_
  intro L qual cdv m H0 hE hx hc R1
  have ht := ht.mono hE.le
  refine Ws_cons ?_
  refine Wst_If ?_
  refine Wb_isin O K.c.nb_isinstance (by walk_at "v") K.n.k_Const.glob (fun _ q => W_isConst O K I ht q) ?_
  refine iff_ (by simp [T.isConst, T.isLocal, T.isLambda, T.isGlobal]) ?_
  refine Ws_nil ?_
  refine Ws_cons ?_
  refine Wst_If ?_
  refine Wb_isin O K.c.nb_isinstance (by walk_at "v") K.n.k_Local.glob (fun _ q => W_isLocal O K I ht q) ?_
  refine iff_ (by simp [T.isConst, T.isLocal, T.isLambda, T.isGlobal]) ?_
  refine Ws_nil ?_
  refine Ws_cons ?_
  refine Wst_If ?_
  refine Wb_isin O K.c.nb_isinstance (by walk_at "v") K.n.k_Lambda.glob (fun _ q => W_isLambda O K I ht q) ?_
  refine ift (by rfl) ?_
  refine Ws_ret ?_
  refine We_Tuple ?_
  refine Wargs_l (by walk_at "v") ?_
  refine Wargs_c ?_
  refine We_Cell (c := L + 1) (by repeat (first | with_reducible assumption | with_reducible exact upd_same | with_reducible refine upd_other (by first | assumption | exact Ne.symm (by assumption)) ?_)) ?_
  refine Wargs_nil ?_
  exact ⟨Nat.le_of_ble_eq_true rfl, fun tp htp _ => q tp _ (hE.trans (Ext.new htp)) upd_same⟩

theorem RD.isInt {H : Hp} {n : Nat} {v : Value} {i : Int} (h : RD a H n v (.i i)) : v = .int i 0 := by cases h; rfl

theorem value_of (O : G.Ok) (K : KF G a) (I : KI G a) : ∀ (N : Nat) {A : Around} (R : Rm A (N + 3)) {H : Hp} {t : T} {x dd : Addr} {es : List (Int × Value)} {g : Ctx} {m : Nat} {d : D}, Den g t d → Rep a H t x → H dd = some (.tab true es) → dd ≠ sysModules → RE a H m es g → t.size + m ≤ N → es.length + t.size ≤ 1000000 →
    ∀ {Q : Value → Hp → Prop}, (∀ v H', Ext H H' → RD a H' (t.size + m) v d → Q v H') → Wc G A (.ref a.f_x_law_value_of) [.ref x, .ref dd] Q H := by
  intro N
  induction N with
  | zero => intro A R H t x dd es g m d hd ht hde hlow hre hN hl Q q; have := T.size_pos t; lia
  | succ N ih =>
  intro A R H t x dd es g m d hd ht hde hlow hre hN hl Q q
  have deeper : ∀ {L qual cdv}, Rm (A.deeper (venv a qual L cdv)) (N + 3) := fun {L qual cdv} => R.deeper
  cases hd with
  | @con g i =>
    refine value_enter O K R ?_
    intro L qual cdv mm H0 hE hx hc R1
    have ht := ht.mono hE.le
    refine Ws_cons ?_
    refine Wst_If ?_
    refine Wb_isin O K.c.nb_isinstance (by walk_at "v") K.n.k_Const.glob (fun _ q => W_isConst O K I ht q) ?_
    refine ift (by rfl) ?_
    refine x1_2 ht ?_; (try clear ht); intro dn g1 g2
    refine Ws_ret ?_
    refine We_own O K.n.k_Const K.n.o_Const_value g1 g2 (by with_unfolding_all exact Eq.refl (some _)) (by walk_at "v") ?_
    exact q _ _ hE .int
  | @loc g k d he =>
    refine value_enter O K R ?_
    intro L qual cdv mm H0 hE hx hc R1
    have ht := ht.mono hE.le
    refine Ws_cons ?_
    refine Wst_If ?_
    refine Wb_isin O K.c.nb_isinstance (by walk_at "v") K.n.k_Const.glob (fun _ q => W_isConst O K I ht q) ?_
    refine iff_ (by simp [T.isConst, T.isLocal, T.isLambda, T.isGlobal]) ?_
    refine Ws_nil ?_
    refine Ws_cons ?_
    refine Wst_If ?_
    refine Wb_isin O K.c.nb_isinstance (by walk_at "v") K.n.k_Local.glob (fun _ q => W_isLocal O K I ht q) ?_
    refine ift (by rfl) ?_
    refine x1_2 ht ?_; (try clear ht); intro dn g1 g2
    refine x0_2 (hre k d he) ?_; intro h1 h2
    refine x1_1 (Option.isSome_iff_exists.mp h1) ?_; intro v hv
    rw [hv, Option.getD_some] at h2
    have hde0 := hE _ _ hde
    refine Ws_ret ?_
    refine We_Subscript ?_
    refine We_Cell (c := L + 1) (by repeat (first | with_reducible assumption | with_reducible exact upd_same | with_reducible refine upd_other (by first | assumption | exact Ne.symm (by assumption)) ?_)) ?_
    refine We_own O K.n.k_Local K.n.o_Local_number g1 g2 (by with_unfolding_all exact Eq.refl (some _)) (by walk_at "v") ?_
    refine W_item_tab hde0 hv ?_
    exact q _ _ hE ((h2.mono hE.le).up (by lia))
  | @glob g =>
    refine value_enter O K R ?_
    intro L qual cdv mm H0 hE hx hc R1
    have ht := ht.mono hE.le
    refine Ws_cons ?_
    refine Wst_If ?_
    refine Wb_isin O K.c.nb_isinstance (by walk_at "v") K.n.k_Const.glob (fun _ q => W_isConst O K I ht q) ?_
    refine iff_ (by simp [T.isConst, T.isLocal, T.isLambda, T.isGlobal]) ?_
    refine Ws_nil ?_
    refine Ws_cons ?_
    refine Wst_If ?_
    refine Wb_isin O K.c.nb_isinstance (by walk_at "v") K.n.k_Local.glob (fun _ q => W_isLocal O K I ht q) ?_
    refine iff_ (by simp [T.isConst, T.isLocal, T.isLambda, T.isGlobal]) ?_
    refine Ws_nil ?_
    refine Ws_cons ?_
    refine Wst_If ?_
    refine Wb_isin O K.c.nb_isinstance (by walk_at "v") K.n.k_Lambda.glob (fun _ q => W_isLambda O K I ht q) ?_
    refine iff_ (by simp [T.isConst, T.isLocal, T.isLambda, T.isGlobal]) ?_
    refine Ws_nil ?_
    refine Ws_cons ?_
    refine Wst_If ?_
    refine Wb_isin O K.c.nb_isinstance (by walk_at "v") K.n.k_Global.glob (fun _ q => W_isGlobal O K I ht q) ?_
    refine ift (by rfl) ?_
    refine Ws_ret ?_
    refine We_Str ?_
    exact q _ _ hE .more
  | @lam g l p b f hf =>
    refine value_lam O K I (n := N + 3) R ht ?_
    intro tp H' hE htp
    rw [T.size] at hl
    exact q _ _ hE (.clo htp (ht.mono hE.le) (hE _ _ hde) hlow (fun k d e => (hre k d e).1) (fun k d e => (hre k d e).2.mono hE.le) (by lia) hf (by rw [T.size]; lia))
  | @call1 g F E f i hF hE0 =>
    rw [T.size] at hl hN q
    refine value_enter O K R ?_
    intro L qual cdv mm H0 hE hx hc R1
    have ht := ht.mono hE.le
    have hre := hre.mono hE.le
    have hde := hE _ _ hde
    have ht0 := ht
    refine x4_5 ht ?_; (try clear ht); intro dc y ol z h1 h2 h3 h4 h5
    refine value_front O K I (n := N + 2) R1 (Hd := fun v H => RD a H (F.size + m) v (.f f)) (Od := fun _ v _ => v = .int i 0) hx hc ht0 ⟨rfl, rfl, rfl, rfl⟩ h1 h2 h3 (Nat.le_of_ble_eq_true rfl) (fun v hv => ⟨z, List.mem_singleton.mp hv⟩) (fun v H1 H2 hL h => h.mono hL) (fun _ _ _ _ _ h => h) ?_ ?_ ?_
    · intro H1 hE1 Q1 q1
      exact ih R1 hF (h4.mono hE1.le) (hE1 _ _ hde) hlow (hre.mono hE1.le) (by lia) (by lia) q1
    · intro j w hw H1 hE1 Q1 q1
      have hw' : [Value.ref z][j]? = some (.ref w) := hw
      have := List.mem_of_getElem? hw'
      cases List.mem_singleton.mp this
      exact ih R1 hE0 (h5.mono hE1.le) (hE1 _ _ hde) hlow (hre.mono hE1.le) (by lia) (by lia) fun v H2 x2 hv => q1 v H2 x2 hv.isInt
    · intro m' H' vh ob vs x1 k1 k2 k3 k4 k5 k6
      refine x1_1 (List.length_eq_one_iff.mp k4) ?_; intro v0 rfl
      obtain rfl : v0 = .int i 0 := k6 0 v0 rfl
      cases k5 with
      | more => exact value_more O K (n := N + 2) R1 k1 k2 k3 (q _ _ (hE.trans x1) .int)
      | @clo _ m2 tp xl de l p b es2 g2 _ c1 c2 c3 c4 c5 c6 c7 c8 c9 =>
        refine value_clo O K (n := N + 2) R1 k1 k2 k3 c1 c2 c3 c4 (by lia) (Nat.le_of_ble_eq_true rfl) (fun v hv => ?_) (fun h => absurd rfl h) ?_
        · rw [List.mem_singleton.mp hv]; exact .int i
        intro v yb fd H2 m2' hv x2 hb hfd hfl
        obtain rfl := (List.cons.inj hv).1
        have hre2 : RE a H2 m2 (tput p (.int i 0) es2) (cput g2 p (.i i)) := RE.put (fun k d e => ⟨c5 k d e, (c6 k d e).mono x2.le⟩) (Nat.le_refl _) .int
        have htl := tput_length p (.int i 0) es2
        refine ih R1 (c8 i) hb hfd hfl hre2 (by lia) (by lia) ?_
        intro v H3 x3 hv
        exact q v H3 ((hE.trans x1).trans (x2.trans x3)) (hv.up (by lia))
  | @lt g m0 p l q0 P b f d hown hP _ =>
    rw [T.size, T.size] at hl hN q
    refine value_enter O K R ?_
    intro L qual cdv mm H0 hE hx hc R1
    have ht := ht.mono hE.le
    have hre := hre.mono hE.le
    have hde := hE _ _ hde
    have ht0 := ht
    refine x4_5 ht ?_; (try clear ht); intro dc y ol z h1 h2 h3 h4 h5
    refine value_front O K I (n := N + 2) R1 (Hd := fun v H => ∃ tp, v = .ref tp ∧ H tp = some (.tuple [.ref y, .ref dd])) (Od := fun _ v H => RD a H ((T.lam l q0 b).size + m) v (.f f)) hx hc ht0 ⟨rfl, rfl, rfl, rfl⟩ h1 h2 h3 (Nat.le_of_ble_eq_true rfl) (fun v hv => ⟨z, List.mem_singleton.mp hv⟩)
      (fun v H1 H2 hL h => ?_) (fun _ _ _ _ hL h => h.mono hL) ?_ ?_ ?_
    · refine x1_2 h ?_; (try clear h); intro tp e h; exact ⟨tp, e, hL _ _ rfl h⟩
    · intro H1 hE1 Q1 q1
      exact value_lam O K I (n := N + 2) R1 (h4.mono hE1.le) fun tp H2 x2 htp => q1 _ _ x2 ⟨tp, rfl, htp⟩
    · intro j w hw H1 hE1 Q1 q1
      have hw' : [Value.ref z][j]? = some (.ref w) := hw
      have := List.mem_of_getElem? hw'
      cases List.mem_singleton.mp this
      exact ih R1 hown (h5.mono hE1.le) (hE1 _ _ hde) hlow (hre.mono hE1.le) (by lia) (by lia) q1
    · intro m' H' vh ob vs x1 k1 k2 k3 k4 k5 k6
      refine x1_1 (List.length_eq_one_iff.mp k4) ?_; intro v0 rfl
      have k6 := k6 0 v0 rfl
      refine x1_2 k5 ?_; (try clear k5); intro tp rfl htp
      refine value_clo O K (n := N + 2) R1 k1 k2 k3 htp (h4.mono x1.le) (x1 _ _ hde) hlow (by lia) (Nat.le_of_ble_eq_true rfl) (fun v hv => ?_) (fun h => absurd rfl h) ?_
      · rw [List.mem_singleton.mp hv]
        cases k6 with
        | more => exact .str _
        | clo c1 => exact .tup c1
      intro v yb fd H2 m2' hv x2 hb hfd hfl
      obtain rfl := (List.cons.inj hv).1
      have hre2 := RE.put (p := p) (hre.mono (x1.trans x2).le) (by lia) (k6.mono x2.le)
      have htl := tput_length p v0 es
      refine ih R1 hP hb hfd hfl hre2 (by lia) (by lia) ?_
      intro v H3 x3 hv
      exact q v H3 ((hE.trans x1).trans (x2.trans x3)) (hv.up (by lia))
  | @call2 g F E E' f i j hF hE0 hE1' =>
    rw [T.size] at hl hN q
    refine value_enter O K R ?_
    intro L qual cdv mm H0 hE hx hc R1
    have ht := ht.mono hE.le
    have hre := hre.mono hE.le
    have hde := hE _ _ hde
    have ht0 := ht
    refine x5_6 ht ?_; (try clear ht); intro dc y ol z z' h1 h2 h3 h4 h5 h6
    refine value_front O K I (n := N + 2) R1 (Hd := fun v H => RD a H (F.size + m) v (.f f)) (Od := fun _ v _ => ∃ n, v = .int n 0) hx hc ht0 ⟨rfl, rfl, rfl, rfl⟩ h1 h2 h3 (Nat.le_of_ble_eq_true rfl)
      (fun v hv => by rcases List.mem_cons.mp hv with rfl | hv; exact ⟨z, rfl⟩; exact ⟨z', List.mem_singleton.mp hv⟩) (fun v H1 H2 hL h => h.mono hL) (fun _ _ _ _ _ h => h) ?_ ?_ ?_
    · intro H1 hE1 Q1 q1
      exact ih R1 hF (h4.mono hE1.le) (hE1 _ _ hde) hlow (hre.mono hE1.le) (by lia) (by lia) q1
    · intro k w hw H1 hE1 Q1 q1
      have := List.mem_of_getElem? hw
      rcases List.mem_cons.mp this with e | e
      · cases e
        exact ih R1 hE0 (h5.mono hE1.le) (hE1 _ _ hde) hlow (hre.mono hE1.le) (by lia) (by lia) fun v H2 x2 hv => q1 v H2 x2 ⟨_, hv.isInt⟩
      · cases List.mem_singleton.mp e
        exact ih R1 hE1' (h6.mono hE1.le) (hE1 _ _ hde) hlow (hre.mono hE1.le) (by lia) (by lia) fun v H2 x2 hv => q1 v H2 x2 ⟨_, hv.isInt⟩
    · intro m' H' vh ob vs x1 k1 k2 k3 k4 k5 k6
      obtain ⟨v0, v1, rfl⟩ : ∃ v0 v1, vs = [v0, v1] := by
        rcases vs with _ | ⟨v0, _ | ⟨v1, _ | ⟨v2, r⟩⟩⟩
        · simp at k4
        · simp at k4
        · exact ⟨v0, v1, rfl⟩
        · simp at k4
      refine x1_1 (k6 0 v0 rfl) ?_; intro n0 rfl
      refine x1_1 (k6 1 v1 rfl) ?_; intro n1 rfl
      cases k5 with
      | more => exact value_more2 O K (n := N + 2) R1 k1 k2 k3 (q _ _ (hE.trans x1) .no)
      | clo c1 c2 c3 c4 c5 c6 c7 c8 c9 =>
        refine value_clo O K (n := N + 2) R1 k1 k2 k3 c1 c2 c3 c4 (by lia) (Nat.le_of_ble_eq_true rfl) (fun v hv => ?_) (fun _ m' => q _ _ (hE.trans x1) .no) ?_
        · rcases List.mem_cons.mp hv with rfl | hv
          · exact .int _
          · rw [List.mem_singleton.mp hv]; exact .int _
        intro v yb fd H2 m2' hv
        cases hv

end -- MC26

section -- PL1

noncomputable def T.bn (c : Bool) : T → List Int
  | lam l p b => (if c then l else p) :: b.bn c
  | call1 f x => f.bn c ++ x.bn c
  | call2 f x y => f.bn c ++ (x.bn c ++ y.bn c)
  | _ => []
theorem bn_labs : ∀ t : T, t.bn true = t.labs
  | .con _ => rfl
  | .loc _ => rfl
  | .glob => rfl
  | .lam l p b => by show l :: b.bn true = l :: b.labs; rw [bn_labs b]
  | .call1 f x => by show f.bn true ++ x.bn true = f.labs ++ x.labs; rw [bn_labs f, bn_labs x]
  | .call2 f x y => by show f.bn true ++ (x.bn true ++ y.bn true) = f.labs ++ (x.labs ++ y.labs); rw [bn_labs f, bn_labs x, bn_labs y]
theorem bn_prms : ∀ t : T, t.bn false = t.prms
  | .con _ => rfl
  | .loc _ => rfl
  | .glob => rfl
  | .lam l p b => by show p :: b.bn false = p :: b.prms; rw [bn_prms b]
  | .call1 f x => by show f.bn false ++ x.bn false = f.prms ++ x.prms; rw [bn_prms f, bn_prms x]
  | .call2 f x y => by show f.bn false ++ (x.bn false ++ y.bn false) = f.prms ++ (x.prms ++ y.prms); rw [bn_prms f, bn_prms x, bn_prms y]

noncomputable def isP (p : Int) : T → Bool
  | .loc n => decide (n = p)
  | _ => false
theorem callOf1 (p : Int) (f x : T) : callOf p (.call1 f x) = if isP p f then some 1 else none := by cases f <;> first | rfl | (rename_i n; show (if n = p then _ else _) = if decide (n = p) = true then _ else _; simp)
theorem callOf2 (p : Int) (f x y : T) : callOf p (.call2 f x y) = if isP p f then some 2 else none := by cases f <;> first | rfl | (rename_i n; show (if n = p then _ else _) = if decide (n = p) = true then _ else _; simp)
noncomputable def cnt (p : Int) : T → Nat
  | .lam _ _ b => cnt p b
  | .call1 f x => cnt p f + cnt p x + if isP p f then 1 else 0
  | .call2 f x y => cnt p f + cnt p x + cnt p y + if isP p f then 1 else 0
  | _ => 0
noncomputable def una (p : Int) : T → Bool
  | .lam _ _ b => una p b
  | .call1 f x => una p f && una p x
  | .call2 f x y => una p f && una p x && una p y && !isP p f
  | _ => true

theorem fit_reb (p : Int) : ∀ (t : T) (st : Int × Bool), reb (fitF p) t st = (t, (st.1 + (cnt p t : Int), st.2 && una p t))
  | .con i, st => Prod.ext rfl (Prod.ext (Int.add_zero _).symm (Bool.and_true _).symm)
  | .loc i, st => Prod.ext rfl (Prod.ext (Int.add_zero _).symm (Bool.and_true _).symm)
  | .glob, st => Prod.ext rfl (Prod.ext (Int.add_zero _).symm (Bool.and_true _).symm)
  | .lam l q b, st => by
    show ((T.lam l q (reb (fitF p) b st).1), (reb (fitF p) b st).2) = _
    rw [fit_reb p b]
    rfl
  | .call1 f x, st => by
    have e : reb (fitF p) (.call1 f x) st = fitF p (.call1 (reb (fitF p) f st).1 (reb (fitF p) x (reb (fitF p) f st).2).1) (reb (fitF p) x (reb (fitF p) f st).2).2 := rfl
    rw [e, fit_reb p f, fit_reb p x]
    unfold fitF
    rw [callOf1]
    by_cases h : isP p f = true
    · rw [if_pos h]
      simp only [cnt, una, if_pos h, beq_self_eq_true, Bool.and_true, Bool.and_assoc]
      refine Prod.ext rfl (Prod.ext ?_ rfl)
      push_cast; lia
    · rw [if_neg h]
      simp only [cnt, una, if_neg h, Bool.and_assoc]
      refine Prod.ext rfl (Prod.ext ?_ rfl)
      push_cast; lia
  | .call2 f x y, st => by
    have e : reb (fitF p) (.call2 f x y) st = fitF p (.call2 (reb (fitF p) f st).1 (reb (fitF p) x (reb (fitF p) f st).2).1 (reb (fitF p) y (reb (fitF p) x (reb (fitF p) f st).2).2).1) (reb (fitF p) y (reb (fitF p) x (reb (fitF p) f st).2).2).2 := rfl
    rw [e, fit_reb p f, fit_reb p x, fit_reb p y]
    unfold fitF
    rw [callOf2]
    by_cases h : isP p f = true
    · rw [if_pos h]
      simp only [cnt, una, if_pos h, h]
      refine Prod.ext rfl (Prod.ext ?_ ?_)
      · push_cast; lia
      · simp
    · rw [if_neg h]
      have h' : isP p f = false := by simpa using h
      simp only [cnt, una, if_neg h, h', Bool.and_assoc]
      refine Prod.ext rfl (Prod.ext ?_ ?_)
      · push_cast; lia
      · simp

/-- what the copies look like -/
structure Cp (l q : Int) (b : T) (S : Nat) (h : T) (c : Nat) : Prop where
  cp : ∀ s, ren l q b s = .lam (s + 1) (s + 2) (tower h c (.loc (s + 2)))
  sz : ∀ n, (tower h c (.loc n)).size + 1 = S
  bn : ∀ k n, (tower h c (.loc n)).bn k = []

theorem sp_call1 (p l q : Int) (b f x : T) (s : Int) : reb (spF p l q b) (.call1 f x) s = spF p l q b (.call1 (reb (spF p l q b) f s).1 (reb (spF p l q b) x (reb (spF p l q b) f s).2).1) (reb (spF p l q b) x (reb (spF p l q b) f s).2).2 := rfl
theorem sp_call2 (p l q : Int) (b f x y : T) (s : Int) : reb (spF p l q b) (.call2 f x y) s = spF p l q b (.call2 (reb (spF p l q b) f s).1 (reb (spF p l q b) x (reb (spF p l q b) f s).2).1 (reb (spF p l q b) y (reb (spF p l q b) x (reb (spF p l q b) f s).2).2).1) (reb (spF p l q b) y (reb (spF p l q b) x (reb (spF p l q b) f s).2).2).2 := rfl
/-- the operator stays a local only where it was one -/
theorem isP_reb (p l q : Int) (b : T) : ∀ (t : T) (s : Int), isP p (reb (spF p l q b) t s).1 = isP p t
  | .con _, _ => rfl
  | .loc _, _ => rfl
  | .glob, _ => rfl
  | .lam _ _ _, _ => rfl
  | .call1 f x, s => by
    rw [sp_call1]; unfold spF; rw [callOf1]
    split <;> rfl
  | .call2 f x y, s => by
    rw [sp_call2]; unfold spF; rw [callOf2]
    split <;> rfl
theorem isP_leaf {p : Int} {t : T} (h : isP p t = true) : t = .loc p := by cases t <;> simp [isP] at h; rw [h]

theorem sp1_yes {p : Int} (l q : Int) (b : T) {f : T} (x : T) (s : Int) (h : isP p f = true) : reb (spF p l q b) (.call1 f x) s = (.call1 (ren l q b (reb (spF p l q b) x s).2) (reb (spF p l q b) x s).1, (reb (spF p l q b) x s).2 + 2) := by
  obtain rfl := isP_leaf h
  rw [sp_call1]
  show spF p l q b (.call1 (.loc p) (reb (spF p l q b) x s).1) (reb (spF p l q b) x s).2 = _
  conv => lhs; unfold spF
  rw [callOf1, if_pos h]
  rfl
theorem sp1_no {p : Int} (l q : Int) (b : T) {f : T} (x : T) (s : Int) (h : isP p f = false) : reb (spF p l q b) (.call1 f x) s = (.call1 (reb (spF p l q b) f s).1 (reb (spF p l q b) x (reb (spF p l q b) f s).2).1, (reb (spF p l q b) x (reb (spF p l q b) f s).2).2) := by
  rw [sp_call1]
  have h' := (isP_reb p l q b f s).trans h
  generalize reb (spF p l q b) f s = r1 at h'
  generalize reb (spF p l q b) x r1.2 = r2
  unfold spF
  rw [callOf1, h']
  rfl
theorem sp2_yes {p : Int} (l q : Int) (b : T) {f : T} (x y : T) (s : Int) (h : isP p f = true) : reb (spF p l q b) (.call2 f x y) s = (.call2 (ren l q b (reb (spF p l q b) y (reb (spF p l q b) x s).2).2) (reb (spF p l q b) x s).1 (reb (spF p l q b) y (reb (spF p l q b) x s).2).1, (reb (spF p l q b) y (reb (spF p l q b) x s).2).2 + 2) := by
  obtain rfl := isP_leaf h
  rw [sp_call2]
  show spF p l q b (.call2 (.loc p) (reb (spF p l q b) x s).1 (reb (spF p l q b) y (reb (spF p l q b) x s).2).1) (reb (spF p l q b) y (reb (spF p l q b) x s).2).2 = _
  conv => lhs; unfold spF
  rw [callOf2, if_pos h]
  rfl
theorem sp2_no {p : Int} (l q : Int) (b : T) {f : T} (x y : T) (s : Int) (h : isP p f = false) : reb (spF p l q b) (.call2 f x y) s = (.call2 (reb (spF p l q b) f s).1 (reb (spF p l q b) x (reb (spF p l q b) f s).2).1 (reb (spF p l q b) y (reb (spF p l q b) x (reb (spF p l q b) f s).2).2).1, (reb (spF p l q b) y (reb (spF p l q b) x (reb (spF p l q b) f s).2).2).2) := by
  rw [sp_call2]
  have h' := (isP_reb p l q b f s).trans h
  generalize reb (spF p l q b) f s = r1 at h'
  generalize reb (spF p l q b) x r1.2 = r2
  generalize reb (spF p l q b) y r2.2 = r3
  unfold spF
  rw [callOf2, h']
  rfl

/-- one run of a change over a tree, the parts' runs given -/
inductive Sp (p l q : Int) (b : T) : T → Int → T → Int → Prop
  | con {i s : Int} : Sp p l q b (.con i) s (.con i) s
  | loc {i s : Int} : Sp p l q b (.loc i) s (.loc i) s
  | glob {s : Int} : Sp p l q b .glob s .glob s
  | lam {l' p' s s' : Int} {t t' : T} : Sp p l q b t s t' s' → Sp p l q b (.lam l' p' t) s (.lam l' p' t') s'
  | y1 {x x' : T} {s s' : Int} : Sp p l q b x s x' s' → Sp p l q b (.call1 (.loc p) x) s (.call1 (ren l q b s') x') (s' + 2)
  | n1 {f f' x x' : T} {s s1 s2 : Int} : isP p f = false → Sp p l q b f s f' s1 → Sp p l q b x s1 x' s2 → Sp p l q b (.call1 f x) s (.call1 f' x') s2
  | y2 {x x' y y' : T} {s s1 s2 : Int} : Sp p l q b x s x' s1 → Sp p l q b y s1 y' s2 → Sp p l q b (.call2 (.loc p) x y) s (.call2 (ren l q b s2) x' y') (s2 + 2)
  | n2 {f f' x x' y y' : T} {s s1 s2 s3 : Int} : isP p f = false → Sp p l q b f s f' s1 → Sp p l q b x s1 x' s2 → Sp p l q b y s2 y' s3 → Sp p l q b (.call2 f x y) s (.call2 f' x' y') s3
theorem sp_run (p l q : Int) (b : T) : ∀ (t : T) (s : Int), Sp p l q b t s (reb (spF p l q b) t s).1 (reb (spF p l q b) t s).2
  | .con _, s => .con
  | .loc _, s => .loc
  | .glob, s => .glob
  | .lam l' p' t, s => .lam (sp_run p l q b t s)
  | .call1 f x, s => by
    cases h : isP p f
    · rw [sp1_no l q b x s h]; exact .n1 h (sp_run p l q b f s) (sp_run p l q b x _)
    · rw [sp1_yes l q b x s h]
      obtain rfl := isP_leaf h
      exact .y1 (sp_run p l q b x s)
  | .call2 f x y, s => by
    cases h : isP p f
    · rw [sp2_no l q b x y s h]; exact .n2 h (sp_run p l q b f s) (sp_run p l q b x _) (sp_run p l q b y _)
    · rw [sp2_yes l q b x y s h]
      obtain rfl := isP_leaf h
      exact .y2 (sp_run p l q b x s) (sp_run p l q b y _)
theorem isP_self (p : Int) : isP p (.loc p) = true := by simp [isP]

theorem sp_size {p l q : Int} {b h : T} {S c : Nat} (C : Cp l q b S h c) {t t' : T} {s s' : Int} (H : Sp p l q b t s t' s') : t'.size + cnt p t = t.size + cnt p t * S ∧ s' = s + 2 * (cnt p t : Int) := by
  have hren : ∀ s, (ren l q b s).size = S := fun s => by rw [C.cp]; exact C.sz _
  induction H with
  | con => simp [cnt]
  | loc => simp [cnt]
  | glob => simp [cnt]
  | lam _ ih => simp only [T.size, cnt]; lia
  | y1 _ ih =>
    simp only [T.size, cnt, isP_self, if_true, hren, Nat.zero_add, Nat.add_mul, Nat.one_mul]
    push_cast; lia
  | n1 h _ _ ih1 ih2 =>
    simp only [T.size, cnt, h, Bool.false_eq_true, if_false, Nat.add_zero, Nat.add_mul]
    push_cast; lia
  | y2 _ _ ih1 ih2 =>
    simp only [T.size, cnt, isP_self, if_true, hren, Nat.zero_add, Nat.add_mul, Nat.one_mul]
    push_cast; lia
  | n2 h _ _ _ ih1 ih2 ih3 =>
    simp only [T.size, cnt, h, Bool.false_eq_true, if_false, Nat.add_zero, Nat.add_mul]
    push_cast; lia

/-- the numbers that a run leaves: old ones or new ones, each once -/
structure FR (k : Bool) (t t' : T) (s s' : Int) : Prop where
  le : s ≤ s'
  mem : ∀ x ∈ t'.bn k, x ∈ t.bn k ∨ (s < x ∧ x ≤ s')
  nd : (t.bn k).Nodup → (∀ x ∈ t.bn k, x ≤ s) → (t'.bn k).Nodup
theorem FR.refl (k : Bool) (t : T) (s : Int) : FR k t t s s := ⟨Int.le_refl _, fun x h => .inl h, fun h _ => h⟩
theorem FR.app {k : Bool} {f f' x x' : T} {s s1 s2 : Int} (h : FR k f f' s s1) (g : FR k x x' s1 s2) (l l' : List Int) (hl : l = f.bn k ++ x.bn k) (hl' : l' = f'.bn k ++ x'.bn k) :
    s ≤ s2 ∧ (∀ y ∈ l', y ∈ l ∨ (s < y ∧ y ≤ s2)) ∧ (l.Nodup → (∀ y ∈ l, y ≤ s) → l'.Nodup) := by
  subst hl hl'
  have e1 := h.le
  have e2 := g.le
  refine ⟨by lia, fun y hy => ?_, fun nd hs => ?_⟩
  · rcases List.mem_append.mp hy with hy | hy
    · rcases h.mem y hy with q | q
      · exact .inl (List.mem_append_left _ q)
      · exact .inr (by lia)
    · rcases g.mem y hy with q | q
      · exact .inl (List.mem_append_right _ q)
      · exact .inr (by lia)
  · refine x0_3 (nd_app nd) ?_; intro n1 n2 n3
    refine List.nodup_append.mpr ⟨h.nd n1 fun y hy => hs y (List.mem_append_left _ hy), g.nd n2 fun y hy => ?_, ?_⟩
    · have := hs y (List.mem_append_right _ hy); lia
    · intro y hy z hz
      rintro rfl
      rcases h.mem y hy with q | q <;> rcases g.mem y hz with r | r
      · exact n3 y q r
      · have := hs y (List.mem_append_left _ q); lia
      · have := hs y (List.mem_append_right _ r); lia
      · lia
theorem FR.call1 {k : Bool} {f f' x x' : T} {s s1 s2 : Int} (h : FR k f f' s s1) (g : FR k x x' s1 s2) : FR k (.call1 f x) (.call1 f' x') s s2 :=
  let ⟨a, b, c⟩ := FR.app h g _ _ rfl rfl; ⟨a, b, c⟩
theorem FR.call2 {k : Bool} {f f' x x' y y' : T} {s s1 s2 s3 : Int} (h : FR k f f' s s1) (g : FR k x x' s1 s2) (i : FR k y y' s2 s3) : FR k (.call2 f x y) (.call2 f' x' y') s s3 := by
  (refine x0_3 (FR.app h (FR.call1 g i) ((T.call2 f x y).bn k) ((T.call2 f' x' y').bn k) rfl rfl) ?_; intro a b c)
  exact ⟨a, b, c⟩
theorem FR.trans {k : Bool} {t t' t'' : T} {s s1 s2 : Int} (h : FR k t t' s s1) (g : FR k t' t'' s1 s2) : FR k t t'' s s2 := by
  have e1 := h.le
  have e2 := g.le
  refine ⟨by lia, fun x hx => ?_, fun nd hs => ?_⟩
  · rcases g.mem x hx with q | q
    · rcases h.mem x q with r | r
      · exact .inl r
      · exact .inr (by lia)
    · exact .inr (by lia)
  · refine g.nd (h.nd nd hs) fun x hx => ?_
    rcases h.mem x hx with r | r
    · have := hs x r; lia
    · lia
/-- the copy in the place of a local, made last -/
theorem FR.copy {k : Bool} {l q : Int} {b h : T} {S c : Nat} (C : Cp l q b S h c) (n s : Int) : FR k (.loc n) (ren l q b s) s (s + 2) := by
  rw [C.cp]
  have e : (T.lam (s + 1) (s + 2) (tower h c (.loc (s + 2)))).bn k = [if k then s + 1 else s + 2] := by
    show (if k then s + 1 else s + 2) :: (tower h c (.loc (s + 2))).bn k = _
    rw [C.bn]
  refine ⟨by lia, fun x hx => ?_, fun _ _ => ?_⟩
  · rw [e, List.mem_singleton] at hx
    subst hx
    cases k
    · refine .inr ⟨?_, ?_⟩ <;> simp <;> lia
    · refine .inr ⟨?_, ?_⟩ <;> simp <;> lia
  · rw [e]; simp
theorem sp_fr {p l q : Int} {b h : T} {S c : Nat} (C : Cp l q b S h c) (k : Bool) {t t' : T} {s s' : Int} (H : Sp p l q b t s t' s') : FR k t t' s s' := by
  induction H with
  | con => exact .refl ..
  | loc => exact .refl ..
  | glob => exact .refl ..
  | @lam l' p' s s' t t' _ ih =>
    have e := ih.le
    refine ⟨e, fun x hx => ?_, fun nd hs => ?_⟩
    · rcases List.mem_cons.mp hx with rfl | hx
      · exact .inl (.head _)
      · rcases ih.mem x hx with r | r
        · exact .inl (.tail _ r)
        · exact .inr r
    · refine x0_2 (List.nodup_cons.mp nd) ?_; intro n1 n2
      refine List.nodup_cons.mpr ⟨fun hx => ?_, ih.nd n2 fun y hy => hs y (.tail _ hy)⟩
      rcases ih.mem _ hx with r | r
      · exact n1 r
      · have := hs _ (.head _); lia
  | @y1 x x' s s' _ ih =>
    have hc := FR.copy (k := k) C p s'
    have e := ih.le
    refine ⟨by lia, fun y hy => ?_, fun nd hs => ?_⟩
    · rcases List.mem_append.mp hy with hy | hy
      · rcases hc.mem y hy with r | r
        · cases r
        · exact .inr (by lia)
      · rcases ih.mem y hy with r | r
        · exact .inl (List.mem_append_right _ r)
        · exact .inr (by lia)
    · refine x0_3 (nd_app nd) ?_; intro n1 n2 n3
      refine List.nodup_append.mpr ⟨hc.nd n1 (fun _ h => by cases h), ih.nd n2 fun y hy => hs y (List.mem_append_right _ hy), ?_⟩
      intro y hy z hz
      rintro rfl
      rcases hc.mem y hy with r | r
      · cases r
      · rcases ih.mem y hz with r' | r'
        · have := hs y (List.mem_append_right _ r'); lia
        · lia
  | n1 h _ _ ih1 ih2 => exact ih1.call1 ih2
  | @y2 x x' y y' s s1 s2 _ _ ih1 ih2 =>
    have hc := FR.copy (k := k) C p s2
    have h12 := ih1.call1 ih2
    have e := h12.le
    refine ⟨by lia, fun z hz => ?_, fun nd hs => ?_⟩
    · rcases List.mem_append.mp hz with hz | hz
      · rcases hc.mem z hz with r | r
        · cases r
        · exact .inr (by lia)
      · rcases h12.mem z hz with r | r
        · exact .inl (List.mem_append_right _ r)
        · exact .inr (by lia)
    · refine x0_3 (nd_app nd) ?_; intro n1 n2 n3
      refine List.nodup_append.mpr ⟨hc.nd n1 (fun _ h => by cases h), h12.nd n2 fun y hy => hs y (List.mem_append_right _ hy), ?_⟩
      intro u hu z hz
      rintro rfl
      rcases hc.mem u hu with r | r
      · cases r
      · rcases h12.mem u hz with r' | r'
        · have := hs u (List.mem_append_right _ r'); lia
        · lia
  | n2 h _ _ _ ih1 ih2 ih3 => exact ih1.call2 ih2 ih3

end -- PL1

section -- PL2

/-- the head of a copy's calls: a global or an outer local -/
noncomputable def HdOk (g : Ctx) (h : T) (f : Int → Int) : Prop := (h = .glob ∧ f = fun i => i + 1) ∨ ∃ n, h = .loc n ∧ g n = some (.f f)
theorem HdOk.den {g : Ctx} {h : T} {f : Int → Int} (x : HdOk g h f) : Den g h (.f f) := by
  rcases x with ⟨rfl, rfl⟩ | ⟨n, rfl, h⟩
  · exact .glob
  · exact .loc h
noncomputable def iter (f : Int → Int) : Nat → Int → Int
  | 0, i => i
  | n + 1, i => f (iter f n i)
theorem tower_den {g : Ctx} {h : T} {f : Int → Int} (hh : Den g h (.f f)) {e : T} {i : Int} (he : Den g e (.i i)) : ∀ c, Den g (tower h c e) (.i (iter f c i))
  | 0 => he
  | c + 1 => by
    show Den g (.call1 h (tower h c e)) (.i (f (iter f c i)))
    exact .call1 hh (tower_den hh he c)
theorem cput_same (g : Ctx) (p : Int) (d : D) : cput g p d p = some d := if_pos rfl
theorem cput_ne {g : Ctx} {p x : Int} {d : D} (h : x ≠ p) : cput g p d x = g x := if_neg h
theorem HdOk.put {g : Ctx} {h : T} {f : Int → Int} (x : HdOk g h f) {r : Int} {d : D} (hr : ∀ n, h = .loc n → n ≠ r) : HdOk (cput g r d) h f := by
  rcases x with ⟨e1, e2⟩ | ⟨n, e, hg⟩
  · exact .inl ⟨e1, e2⟩
  · exact .inr ⟨n, e, (cput_ne (hr n e)).trans hg⟩
theorem lam_den {g : Ctx} {h : T} {f : Int → Int} (x : HdOk g h f) {l q : Int} (hq : ∀ n, h = .loc n → n ≠ q) (c : Nat) : Den g (.lam l q (tower h c (.loc q))) (.f (iter f c)) :=
  .lam fun i => tower_den (x.put hq).den (.loc (cput_same ..)) c

theorem den_notP {p : Int} {f : Int → Int} {g : Ctx} {t : T} {d : D} (hd : Den g t d) (hf : d.isF = false) (hg : g p = some (.f f)) : isP p t = false := by
  cases hd with
  | loc e =>
    rename_i n
    by_cases q : n = p
    · subst q; rw [hg] at e; cases e; simp [D.isF] at hf
    · simp [isP, q]
  | _ => rfl

/-- the value stays as it was -/
theorem sp_den {p l q : Int} {b h : T} {S c : Nat} {f : Int → Int} (C : Cp l q b S h c) (hlow : ∀ n, h = .loc n → n < p) {g : Ctx} {t : T} {d : D} (H : Den g t d) :
    ∀ {g' : Ctx} {s : Int} {t' : T} {s' : Int}, Sp p l q b t s t' s' → isP p t = false → una p t = true → g p = some (.f (iter f c)) → (∀ x d, x ≠ p → g x = some d → g' x = some d) → HdOk g' h f → (∀ r ∈ t.bn false, p < r) → p ≤ s → Den g' t' d := by
  have putR : ∀ {g g' : Ctx} {r : Int} {d : D}, (∀ x d, x ≠ p → g x = some d → g' x = some d) → ∀ x d', x ≠ p → cput g r d x = some d' → cput g' r d x = some d'   := fun {g g' r d} ag x d' hx e => by
    unfold cput at e ⊢
    by_cases hr : x = r
    · rw [if_pos hr] at e ⊢; exact e
    · rw [if_neg hr] at e ⊢; exact ag x d' hx e
  have hdR : ∀ {g' : Ctx} {r : Int} {d : D}, HdOk g' h f → p < r → HdOk (cput g' r d) h f := fun x hr => x.put fun n e => by have := hlow n e; lia
  have copy : ∀ {g' : Ctx} {s : Int}, HdOk g' h f → p ≤ s → Den g' (ren l q b s) (.f (iter f c)) := fun x hs => by
    rw [C.cp]
    exact lam_den x (fun n e => by have := hlow n e; lia) c
  induction H with
  | con => intro g' s t' s' R _ _ _ _ _ _ _; cases R; exact .con
  | glob => intro g' s t' s' R _ _ _ _ _ _ _; cases R; exact .glob
  | @loc g n d e =>
    intro g' s t' s' R hp _ _ ag _ _ _
    cases R
    refine .loc (ag n d (fun q => ?_) e)
    subst q
    rw [isP_self] at hp; cases hp
  | @lam g l0 r b0 f0 hb0 ih =>
    intro g' s t' s' R _ hu hg ag hh hb hs
    cases R with
    | lam R =>
    have hr := hb r (.head _)
    refine .lam fun i => ?_
    have hg2 : cput g r (.i i) p = some (.f (iter f c)) := (cput_ne (by lia)).trans hg
    exact ih i R (den_notP (hb0 i) rfl hg2) hu hg2 (putR ag) (hdR hh hr) (fun x hx => hb x (.tail _ hx)) hs
  | @call1 g F E f0 i hF hE ihF ihE =>
    intro g' s t' s' R _ hu hg ag hh hb hs
    simp only [una, Bool.and_eq_true] at hu
    have hbF : ∀ r ∈ F.bn false, p < r := fun r hr => hb r (List.mem_append_left _ hr)
    have hbE : ∀ r ∈ E.bn false, p < r := fun r hr => hb r (List.mem_append_right _ hr)
    have hE' := den_notP hE rfl hg
    cases R with
    | y1 R =>
      have hs' := (sp_fr C true R).le
      cases hF with
      | loc e =>
        rw [hg] at e
        cases e
        exact .call1 (copy hh (by lia)) (ihE R hE' hu.2 hg ag hh hbE hs)
    | n1 hn RF RE =>
      have hs' := (sp_fr C true RF).le
      exact .call1 (ihF RF hn hu.1 hg ag hh hbF hs) (ihE RE hE' hu.2 hg ag hh hbE (by lia))
  | @lt g m r l0 q0 P b0 f0 d hO hP hd ihO ihP =>
    intro g' s t' s' R _ hu hg ag hh hb hs
    simp only [una, Bool.and_eq_true] at hu
    have hr := hb r (List.mem_append_left _ (.head _))
    cases R with
    | n1 hn RF RE =>
      cases RF with
      | lam RP =>
      have hs' := (sp_fr C true RP).le
      have h2 := ihO RE rfl (by simpa [una] using hu.2) hg ag hh (fun x hx => hb x (List.mem_append_right _ hx)) (by lia)
      have hg2 : cput g r (.f f0) p = some (.f (iter f c)) := (cput_ne (by lia)).trans hg
      have h1 := ihP RP (den_notP hP hd hg2) hu.1 hg2 (putR ag) (hdR hh hr) (fun x hx => hb x (List.mem_append_left _ (.tail _ hx))) hs
      cases RE with
      | lam _ => exact .lt h2 h1 hd
  | @call2 g F E E' f0 i j hF hE hE2 ihF ihE ihE2 =>
    intro g' s t' s' R _ hu hg ag hh hb hs
    simp only [una, Bool.and_eq_true, Bool.not_eq_true'] at hu
    refine x0_2 hu ?_; (try clear hu); intro hq1 u4
    refine x0_2 hq1 ?_; (try clear hq1); intro hq2 u3
    refine x0_2 hq2 ?_; (try clear hq2); intro u1 u2
    cases R with
    | y2 => rw [isP_self] at u4; cases u4
    | n2 hn RF RE RE2 =>
      have hs1 := (sp_fr C true RF).le
      have hs2 := (sp_fr C true RE).le
      exact .call2 (ihF RF hn u1 hg ag hh (fun r hr => hb r (List.mem_append_left _ hr)) hs)
        (ihE RE (den_notP hE rfl hg) u2 hg ag hh (fun r hr => hb r (List.mem_append_right _ (List.mem_append_left _ hr))) (by lia))
        (ihE2 RE2 (den_notP hE2 rfl hg) u3 hg ag hh (fun r hr => hb r (List.mem_append_right _ (List.mem_append_right _ hr))) (by lia))

end -- PL2

section -- PL3

theorem smF_noLam {e1 e2 e3 : List (Int × Value)} : ∀ (t : T), t.noLam = true → ∀ s, reb (smF e1 e2 e3) t s = (t, s) ∧ rok (smF e1 e2 e3) smP t s
  | .con _, _, s => ⟨rfl, fun m p B own h => by cases h⟩
  | .loc _, _, s => ⟨rfl, fun m p B own h => by cases h⟩
  | .glob, _, s => ⟨rfl, fun m p B own h => by cases h⟩
  | .lam .., h, _ => by simp [T.noLam] at h
  | .call1 f x, h, s => by
    simp only [T.noLam, Bool.and_eq_true] at h
    obtain ⟨a1, a2⟩ := smF_noLam f h.1 s
    obtain ⟨b1, b2⟩ := smF_noLam x h.2 s
    have e : reb (smF e1 e2 e3) (.call1 f x) s = smF e1 e2 e3 (.call1 (reb (smF e1 e2 e3) f s).1 (reb (smF e1 e2 e3) x (reb (smF e1 e2 e3) f s).2).1) (reb (smF e1 e2 e3) x (reb (smF e1 e2 e3) f s).2).2 := rfl
    rw [e, a1, b1]
    refine ⟨by cases f <;> first | rfl | (simp [T.noLam] at h), ?_⟩
    show rok _ _ f s ∧ rok _ _ x _ ∧ smP _ _
    rw [a1, b1]
    refine ⟨a2, b2, fun m p B own h' => ?_⟩
    cases h'
    simp [T.noLam] at h
  | .call2 f x y, h, s => by
    simp only [T.noLam, Bool.and_eq_true] at h
    obtain ⟨a1, a2⟩ := smF_noLam f h.1.1 s
    obtain ⟨b1, b2⟩ := smF_noLam x h.1.2 s
    obtain ⟨c1, c2⟩ := smF_noLam y h.2 s
    have e : reb (smF e1 e2 e3) (.call2 f x y) s = smF e1 e2 e3 (.call2 (reb (smF e1 e2 e3) f s).1 (reb (smF e1 e2 e3) x (reb (smF e1 e2 e3) f s).2).1 (reb (smF e1 e2 e3) y (reb (smF e1 e2 e3) x (reb (smF e1 e2 e3) f s).2).2).1) (reb (smF e1 e2 e3) y (reb (smF e1 e2 e3) x (reb (smF e1 e2 e3) f s).2).2).2 := rfl
    rw [e, a1, b1, c1]
    refine ⟨rfl, ?_⟩
    show rok _ _ f s ∧ rok _ _ x _ ∧ rok _ _ y _ ∧ smP _ _
    rw [a1, b1, c1]
    exact ⟨a2, b2, c2, fun m p B own h' => by cases h'⟩

theorem headT_noLam (o : Option Int) : (headT o).noLam = true := by cases o <;> rfl
theorem headT_size (o : Option Int) : (headT o).size = 1 := by cases o <;> rfl
theorem headT_bn (k : Bool) (o : Option Int) : (headT o).bn k = [] := by cases o <;> rfl
theorem tower_noLam {h e : T} (hh : h.noLam = true) (he : e.noLam = true) : ∀ c, (tower h c e).noLam = true
  | 0 => he
  | c + 1 => by show (h.noLam && (tower h c e).noLam) = true; rw [hh, tower_noLam hh he c]; rfl
theorem tower_size {h e : T} (hh : h.size = 1) : ∀ c, (tower h c e).size = e.size + 2 * c
  | 0 => rfl
  | c + 1 => by show h.size + (tower h c e).size + 1 = _; rw [hh, tower_size hh c]; lia
theorem tower_bn {h e : T} {k : Bool} (hh : h.bn k = []) (he : e.bn k = []) : ∀ c, (tower h c e).bn k = []
  | 0 => he
  | c + 1 => by show h.bn k ++ (tower h c e).bn k = []; rw [hh, tower_bn hh he c]; rfl
theorem tower_und {h e : T} {ps : List Int} (hh : h.und ps) (he : e.und ps) : ∀ c, (tower h c e).und ps
  | 0 => he
  | c + 1 => ⟨hh, tower_und hh he c⟩
theorem tower_noCon {h : T} {n : Int} (hh : h.noCon = true) : ∀ c, (tower h c (.loc n)).noCon = true
  | 0 => rfl
  | c + 1 => by show (h.noCon && (tower h c (.loc n)).noCon) = true; rw [hh, tower_noCon hh c]; rfl
theorem ren_tower {h : T} {q n : Int} {labs : List (Int × Int)} (hh : reb (renF [(q, n)] labs) h () = (h, ())) : ∀ c, reb (renF [(q, n)] labs) (tower h c (.loc q)) () = (tower h c (.loc n), ())
  | 0 => by show (T.loc (irn [(q, n)] q), ()) = (T.loc n, ()); simp [irn, iget]
  | c + 1 => by
    show renF _ _ (.call1 (reb (renF [(q, n)] labs) h ()).1 (reb (renF [(q, n)] labs) (tower h c (.loc q)) ()).1) () = _
    rw [hh, ren_tower hh c]
    rfl

/-- the items of a chain, the inmost first -/
inductive Chn : Int → List It → Prop
  | nil {s : Int} : Chn s []
  | cons {s : Int} {r : List It} {c : Nat} : Chn s r → c ≤ 3 → Chn (s + 3) (⟨s + 1, s + 2, s + 3, c, topN r⟩ :: r)
theorem Chn.top {s x : Int} {r : List It} (h : Chn s r) (e : topN r = some x) : x = s := by
  cases h with
  | nil => cases e
  | cons => cases e; rfl
theorem itsOf_chn {cs : List Nat} (hc : ∀ c ∈ cs, c ≤ 3) (s : Int) : Chn (itsOf s cs).1 (itsOf s cs).2 := by
  have : ∀ (cs : List Nat), (∀ c ∈ cs, c ≤ 3) → ∀ p : Int × List It, Chn p.1 p.2 → Chn (cs.foldl stepI p).1 (cs.foldl stepI p).2 := by
    intro cs
    induction cs with
    | nil => intro _ p h; exact h
    | cons c cs ih => intro hc p h; exact ih (fun x hx => hc x (.tail _ hx)) _ (.cons h (hc c (.head _)))
  exact this cs hc (s, []) .nil
noncomputable def Hd : List It → Int → Int
  | [] => fun i => i + 1
  | i :: r => iter (Hd r) i.c
noncomputable def CtxOk (g : Ctx) : List It → Prop
  | [] => True
  | i :: r => g i.num = some (.f (Hd (i :: r)))
theorem CtxOk.hd {g : Ctx} {r : List It} (h : CtxOk g r) : HdOk g (headT (topN r)) (Hd r) := by
  cases r with
  | nil => exact .inl ⟨rfl, rfl⟩
  | cons i r => exact .inr ⟨i.num, rfl, h⟩

theorem cp_item {l q : Int} {o : Option Int} {c : Nat} (hq : ∀ n, o = some n → n ≠ q) : Cp l q (tower (headT o) c (.loc q)) (2 * c + 2) (headT o) c where
  cp := fun s => by
    have hh : reb (renF [(q, s + 2)] [(l, s + 1)]) (headT o) () = (headT o, ()) := by
      cases o with
      | none => rfl
      | some n =>
        have := hq n rfl
        show (T.loc (irn [(q, s + 2)] n), ()) = (T.loc n, ())
        simp [irn, iget, Ne.symm this]
    unfold ren
    show (renF _ _ (.lam l q (reb (renF [(q, s + 2)] [(l, s + 1)]) (tower (headT o) c (.loc q)) ()).1) ()).1 = _
    rw [ren_tower hh]
    show T.lam (irn _ l) (irn _ q) _ = _
    simp [irn, iget]
  sz := fun n => by rw [tower_size (headT_size o)]; show 1 + 2 * c + 1 = _; lia
  bn := fun k n => tower_bn (headT_bn k o) rfl c

theorem smF_let {e1 e2 e3 : List (Int × Value)} (m p l q : Int) (B b : T) (s : Int) : smF e1 e2 e3 (.call1 (.lam m p B) (.lam l q b)) s = if fitB e1 e2 e3 p (.lam l q b) B then reb (spF p l q b) B s else (.call1 (.lam m p B) (.lam l q b), s) := rfl

/-- what holds of a part of the chain -/
structure Gd (σ : Int) (n : Nat) (s1 z : Int) (ri : List It) (t : T) (d : D) : Prop where
  nd : ∀ k, (t.bn k).Nodup
  le : ∀ k, ∀ x ∈ t.bn k, x ≤ s1
  gt : ∀ k, ∀ x ∈ t.bn k, z < x
  hs : s1 ≤ σ
  und : ∀ ps : List Int, (∀ x, topN ri = some x → x ∈ ps) → t.und ps
  size : t.size ≤ 20 + 10 * n
  den : ∀ g, CtxOk g ri → Den g t d
  rokk : ∀ e1 e2 e3, rok (smF e1 e2 e3) smP t σ
  fr : ∀ e1 e2 e3 k, FR k t (reb (smF e1 e2 e3) t σ).1 σ (reb (smF e1 e2 e3) t σ).2
  sz : ∀ e1 e2 e3, (reb (smF e1 e2 e3) t σ).1.size ≤ t.size + 36 * n
  dn : ∀ e1 e2 e3, ∀ g, CtxOk g ri → Den g (reb (smF e1 e2 e3) t σ).1 d

theorem gd_core {σ z : Int} {ri : List It} (hne : ri ≠ []) (hz : Chn z ri) (hσ : z ≤ σ) {m : Nat} (hm : m ≤ 5) (ill : Bool) : ∃ d, d.isF = false ∧ Gd σ 0 z z ri (coreT (headT (topN ri)) m ill) d := by
  have hnl := headT_noLam (topN ri)
  have hnlc : (coreT (headT (topN ri)) m ill).noLam = true := by
    unfold coreT
    cases ill
    · exact tower_noLam hnl rfl m
    · show ((headT (topN ri)).noLam && (tower (headT (topN ri)) m (.con 1)).noLam && true) = true
      rw [hnl, tower_noLam hnl rfl m]; rfl
  have hbn : ∀ k, (coreT (headT (topN ri)) m ill).bn k = [] := fun k => by
    have h1 := tower_bn (e := .con 1) (headT_bn k (topN ri)) rfl m
    unfold coreT
    cases ill
    · exact h1
    · show (headT (topN ri)).bn k ++ ((tower (headT (topN ri)) m (.con 1)).bn k ++ []) = []
      rw [h1, headT_bn]; rfl
  have hundH : ∀ ps : List Int, (∀ x, topN ri = some x → x ∈ ps) → (headT (topN ri)).und ps := fun ps h => by
    cases q : topN ri with
    | none => trivial
    | some x => exact h x q
  have hsz : (coreT (headT (topN ri)) m ill).size ≤ 20 := by
    have h1 := tower_size (e := .con 1) (headT_size (topN ri)) m
    have h2 := headT_size (topN ri)
    have h3 : (T.con 1).size = 1 := rfl
    have h4 : (T.con 2).size = 1 := rfl
    unfold coreT
    cases ill
    · show (tower (headT (topN ri)) m (.con 1)).size ≤ 20
      lia
    · show (headT (topN ri)).size + (tower (headT (topN ri)) m (.con 1)).size + (T.con 2).size + 1 ≤ 20
      lia
  have hden : ∀ g, CtxOk g ri → Den g (coreT (headT (topN ri)) m ill) (if ill then .no else .i (iter (Hd ri) m 1)) := fun g hg => by
    have h1 := tower_den hg.hd.den (.con (i := 1)) m
    unfold coreT
    cases ill
    · exact h1
    · exact .call2 hg.hd.den h1 .con
  refine ⟨if ill then .no else .i (iter (Hd ri) m 1), by cases ill <;> rfl, ?_⟩
  refine ⟨fun k => (by rw [hbn]; exact List.nodup_nil), fun k x hx => (by rw [hbn] at hx; cases hx), fun k x hx => (by rw [hbn] at hx; cases hx), hσ, fun ps h => ?_, by lia, hden, fun e1 e2 e3 => (smF_noLam _ hnlc σ).2, fun e1 e2 e3 k => ?_, fun e1 e2 e3 => ?_, fun e1 e2 e3 g hg => ?_⟩
  · have h1 := tower_und (e := .con 1) (hundH ps h) trivial m
    unfold coreT
    cases ill
    · exact h1
    · exact ⟨hundH ps h, h1, trivial⟩
  · rw [(smF_noLam _ hnlc σ).1]; exact .refl ..
  · rw [(smF_noLam _ hnlc σ).1]; exact Nat.le_add_right _ _
  · rw [(smF_noLam _ hnlc σ).1]; exact hden g hg

theorem gd_step {σ s1 z : Int} {n : Nat} {r : List It} {c : Nat} {t : T} {d : D} (hd : d.isF = false) (hz : Chn z r) (hc : c ≤ 3) (hn : n ≤ 10) (hzs : z + 3 ≤ s1) (hσ : s1 + 1 ≤ σ)
    (h : Gd σ n s1 (z + 3) (⟨z + 1, z + 2, z + 3, c, topN r⟩ :: r) t d) : Gd σ (n + 1) (s1 + 1) z r (.call1 (.lam (s1 + 1) (z + 3) t) (.lam (z + 2) (z + 1) (tower (headT (topN r)) c (.loc (z + 1))))) d := by
  have hq : ∀ x, topN r = some x → x ≠ z + 1 := fun x e => by have := hz.top e; lia
  have C : Cp (z + 2) (z + 1) (tower (headT (topN r)) c (.loc (z + 1))) (2 * c + 2) (headT (topN r)) c := cp_item hq
  have hbo : ∀ k, (T.lam (z + 2) (z + 1) (tower (headT (topN r)) c (.loc (z + 1)))).bn k = [if k then z + 2 else z + 1] := fun k => by
    show (if k then z + 2 else z + 1) :: (tower (headT (topN r)) c (.loc (z + 1))).bn k = _
    rw [tower_bn (headT_bn k (topN r)) rfl c]
  have hbn : ∀ k (u : T), (T.call1 (.lam (s1 + 1) (z + 3) u) (.lam (z + 2) (z + 1) (tower (headT (topN r)) c (.loc (z + 1))))).bn k = (if k then s1 + 1 else z + 3) :: (u.bn k ++ [if k then z + 2 else z + 1]) := fun k u => by
    show ((if k then s1 + 1 else z + 3) :: u.bn k) ++ (T.lam (z + 2) (z + 1) (tower (headT (topN r)) c (.loc (z + 1)))).bn k = _
    rw [hbo, List.cons_append]
  have hoz : (T.lam (z + 2) (z + 1) (tower (headT (topN r)) c (.loc (z + 1)))).size = 2 * c + 2 := by
    show (tower (headT (topN r)) c (.loc (z + 1))).size + 1 = _
    exact C.sz _
  have hnlb : (tower (headT (topN r)) c (.loc (z + 1))).noLam = true := tower_noLam (headT_noLam _) rfl c
  have hnco : (T.lam (z + 2) (z + 1) (tower (headT (topN r)) c (.loc (z + 1)))).noCon = true := tower_noCon (by cases topN r <;> rfl) c
  have hown : ∀ {g : Ctx}, CtxOk g r → Den g (.lam (z + 2) (z + 1) (tower (headT (topN r)) c (.loc (z + 1)))) (.f (iter (Hd r) c)) := fun hg => lam_den hg.hd (fun x e => hq x (by cases q : topN r with | none => rw [q] at e; cases e | some y => rw [q] at e; cases e; rfl)) c
  -- the numbers of a let over a body whose numbers are good
  have good : ∀ k (u : T), (u.bn k).Nodup → (∀ x ∈ u.bn k, z + 3 < x) → (∀ x ∈ u.bn k, x ≠ s1 + 1) → ((T.call1 (.lam (s1 + 1) (z + 3) u) (.lam (z + 2) (z + 1) (tower (headT (topN r)) c (.loc (z + 1))))).bn k).Nodup := fun k u h1 h2 h3 => by
    rw [hbn, List.nodup_cons, List.nodup_append]
    refine ⟨fun hx => ?_, h1, by simp, ?_⟩
    · rcases List.mem_append.mp hx with hx | hx
      · cases k
        · have := h2 _ hx; simp at this
        · exact h3 _ hx rfl
      · cases k <;> simp at hx <;> lia
    · intro x hx y hy
      rintro rfl
      have := h2 x hx
      cases k <;> simp at hy <;> lia
  have reb1 : ∀ e1 e2 e3, reb (smF e1 e2 e3) (.call1 (.lam (s1 + 1) (z + 3) t) (.lam (z + 2) (z + 1) (tower (headT (topN r)) c (.loc (z + 1))))) σ =
      smF e1 e2 e3 (.call1 (.lam (s1 + 1) (z + 3) (reb (smF e1 e2 e3) t σ).1) (.lam (z + 2) (z + 1) (tower (headT (topN r)) c (.loc (z + 1))))) (reb (smF e1 e2 e3) t σ).2 := fun e1 e2 e3 => by
    show smF e1 e2 e3 (.call1 (.lam (s1 + 1) (z + 3) (reb (smF e1 e2 e3) t σ).1) (.lam (z + 2) (z + 1) (reb (smF e1 e2 e3) (tower (headT (topN r)) c (.loc (z + 1))) (reb (smF e1 e2 e3) t σ).2).1)) (reb (smF e1 e2 e3) (tower (headT (topN r)) c (.loc (z + 1))) (reb (smF e1 e2 e3) t σ).2).2 = _
    rw [(smF_noLam _ hnlb _).1]
  have gts : ∀ e1 e2 e3 k, ∀ x ∈ (reb (smF e1 e2 e3) t σ).1.bn k, z + 3 < x ∧ x ≠ s1 + 1 := fun e1 e2 e3 k x hx => by
    rcases (h.fr e1 e2 e3 k).mem x hx with q | q
    · have := h.gt k x q; have := h.le k x q; lia
    · lia
  have frlet : ∀ e1 e2 e3 k, FR k (.call1 (.lam (s1 + 1) (z + 3) t) (.lam (z + 2) (z + 1) (tower (headT (topN r)) c (.loc (z + 1))))) (.call1 (.lam (s1 + 1) (z + 3) (reb (smF e1 e2 e3) t σ).1) (.lam (z + 2) (z + 1) (tower (headT (topN r)) c (.loc (z + 1))))) σ (reb (smF e1 e2 e3) t σ).2 := fun e1 e2 e3 k => by
    have hf := h.fr e1 e2 e3 k
    refine ⟨hf.le, fun x hx => ?_, fun nd hs => ?_⟩
    · rw [hbn] at hx ⊢
      rcases List.mem_cons.mp hx with rfl | hx
      · exact .inl (.head _)
      · rcases List.mem_append.mp hx with hx | hx
        · rcases hf.mem x hx with q | q
          · exact .inl (.tail _ (List.mem_append_left _ q))
          · exact .inr q
        · exact .inl (.tail _ (List.mem_append_right _ hx))
    · exact good k _ (hf.nd (h.nd k) fun x hx => by have := h.le k x hx; lia) (fun x hx => (gts e1 e2 e3 k x hx).1) (fun x hx => (gts e1 e2 e3 k x hx).2)
  have ctx2 : ∀ {g : Ctx}, CtxOk (cput g (z + 3) (.f (iter (Hd r) c))) (⟨z + 1, z + 2, z + 3, c, topN r⟩ :: r) := fun {g} => cput_same ..
  refine ⟨fun k => good k t (h.nd k) (h.gt k) (fun x hx => by have := h.le k x hx; lia), fun k x hx => ?_, fun k x hx => ?_, hσ, fun ps hps => ?_, ?_, fun g hg => ?_, fun e1 e2 e3 => ?_, fun e1 e2 e3 k => ?_, fun e1 e2 e3 => ?_, fun e1 e2 e3 g hg => ?_⟩
  · rw [hbn] at hx
    rcases List.mem_cons.mp hx with rfl | hx
    · cases k <;> simp <;> lia
    · rcases List.mem_append.mp hx with hx | hx
      · have := h.le k x hx; lia
      · cases k <;> simp at hx <;> lia
  · rw [hbn] at hx
    rcases List.mem_cons.mp hx with rfl | hx
    · cases k <;> simp <;> lia
    · rcases List.mem_append.mp hx with hx | hx
      · have := h.gt k x hx; lia
      · cases k <;> simp at hx <;> lia
  · refine ⟨h.und _ fun x e => by cases e; exact .head _, ?_⟩
    refine tower_und ?_ (show (T.loc (z + 1)).und _ from List.Mem.head _) c
    cases q : topN r with
    | none => trivial
    | some x => exact .tail _ (hps x q)
  · show (t.size + 1) + (T.lam (z + 2) (z + 1) (tower (headT (topN r)) c (.loc (z + 1)))).size + 1 ≤ _
    have := h.size
    lia
  · exact .lt (hown hg) (h.den _ ctx2) hd
  · show rok _ _ (.lam (s1 + 1) (z + 3) t) σ ∧ rok _ _ (.lam (z + 2) (z + 1) (tower (headT (topN r)) c (.loc (z + 1)))) _ ∧ smP _ _
    refine ⟨⟨h.rokk e1 e2 e3, fun m p B own q => by cases q⟩, ⟨(smF_noLam _ hnlb _).2, fun m p B own q => by cases q⟩, ?_⟩
    have e : reb (smF e1 e2 e3) (.lam (z + 2) (z + 1) (tower (headT (topN r)) c (.loc (z + 1)))) (reb (smF e1 e2 e3) (.lam (s1 + 1) (z + 3) t) σ).2 = (.lam (z + 2) (z + 1) (tower (headT (topN r)) c (.loc (z + 1))), (reb (smF e1 e2 e3) (.lam (s1 + 1) (z + 3) t) σ).2) := by
      show smF e1 e2 e3 (.lam (z + 2) (z + 1) (reb (smF e1 e2 e3) (tower (headT (topN r)) c (.loc (z + 1))) _).1) (reb (smF e1 e2 e3) (tower (headT (topN r)) c (.loc (z + 1))) _).2 = _
      rw [(smF_noLam _ hnlb _).1]; rfl
    rw [e]
    have e' : (reb (smF e1 e2 e3) (.lam (s1 + 1) (z + 3) t) σ).1 = .lam (s1 + 1) (z + 3) (reb (smF e1 e2 e3) t σ).1 := rfl
    rw [e']
    intro m p B own q
    cases q
    have := h.sz e1 e2 e3
    have := h.size
    refine ⟨by lia, fun l q b q' => ?_⟩
    cases q'
    exact ⟨hnlb, hnco, by show (T.lam (z + 2) (z + 1) _).size ≤ 1000; rw [hoz]; lia⟩
  · rw [reb1, smF_let]
    split
    · have f2 := sp_fr C k (sp_run (z + 3) (z + 2) (z + 1) (tower (headT (topN r)) c (.loc (z + 1))) (reb (smF e1 e2 e3) t σ).1 (reb (smF e1 e2 e3) t σ).2)
      have f1 := h.fr e1 e2 e3 k
      have f3 := f1.trans f2
      refine ⟨f3.le, fun x hx => ?_, fun nd hs => f3.nd (h.nd k) fun x hx => by have := h.le k x hx; have := h.hs; lia⟩
      rcases f3.mem x hx with q | q
      · refine .inl ?_
        rw [hbn]
        exact .tail _ (List.mem_append_left _ q)
      · exact .inr q
    · exact frlet e1 e2 e3 k
  · rw [reb1, smF_let]
    show _ ≤ ((t.size + 1) + (T.lam (z + 2) (z + 1) (tower (headT (topN r)) c (.loc (z + 1)))).size + 1) + _
    have hsz := h.sz e1 e2 e3
    split
    · rename_i hfit
      unfold fitB fits at hfit
      rw [fit_reb] at hfit
      simp only [Bool.and_eq_true, decide_eq_true_eq] at hfit
      have hcnt : cnt (z + 3) (reb (smF e1 e2 e3) t σ).1 ≤ 4 := by have := hfit.2.2.2; lia
      have h2 := (sp_size C (sp_run (z + 3) (z + 2) (z + 1) (tower (headT (topN r)) c (.loc (z + 1))) (reb (smF e1 e2 e3) t σ).1 (reb (smF e1 e2 e3) t σ).2)).1
      have h3 : cnt (z + 3) (reb (smF e1 e2 e3) t σ).1 * (2 * c + 2) ≤ cnt (z + 3) (reb (smF e1 e2 e3) t σ).1 * 8 := Nat.mul_le_mul_left _ (by lia)
      lia
    · show ((reb (smF e1 e2 e3) t σ).1.size + 1) + (T.lam (z + 2) (z + 1) (tower (headT (topN r)) c (.loc (z + 1)))).size + 1 ≤ _
      lia
  · rw [reb1, smF_let]
    split
    · rename_i hfit
      unfold fitB fits at hfit
      rw [fit_reb] at hfit
      simp only [Bool.and_eq_true, decide_eq_true_eq, Bool.true_and] at hfit
      have hdn := h.dn e1 e2 e3 (cput g (z + 3) (.f (iter (Hd r) c))) ctx2
      have hle := (h.fr e1 e2 e3 true).le
      refine sp_den C (fun x e => ?_) hdn (sp_run (z + 3) (z + 2) (z + 1) (tower (headT (topN r)) c (.loc (z + 1))) (reb (smF e1 e2 e3) t σ).1 (reb (smF e1 e2 e3) t σ).2) ?_ hfit.2.2.1 (cput_same ..) (fun x d hx e => by rwa [cput_ne hx] at e) hg.hd (fun x hx => (gts e1 e2 e3 false x hx).1) (by lia)
      · cases q : topN r with
        | none => rw [q] at e; cases e
        | some y => rw [q] at e; cases e; have := hz.top q; lia
      · exact den_notP hdn hd (cput_same ..)
    · exact .lt (hown hg) (h.dn e1 e2 e3 _ ctx2) hd

end -- PL3

section -- PL4

theorem gd_wrap {σ : Int} {d : D} (hd : d.isF = false) : ∀ {ri : List It} {n : Nat} {s1 z : Int} {t : T}, Chn z ri → z ≤ s1 → s1 + (ri.length : Int) ≤ σ → n + ri.length ≤ 10 → Gd σ n s1 z ri t d → ∃ z', Gd σ (n + ri.length) (s1 + (ri.length : Int)) z' [] (wrap s1 t ri) d := by
  intro ri
  induction ri with
  | nil => intro n s1 z t _ _ _ _ h; exact ⟨z, by simpa [wrap] using h⟩
  | cons i r ih =>
    intro n s1 z t hz hzs hσ hn h
    rw [List.length_cons] at hσ hn ⊢
    cases hz with
    | @cons z _ c hr hc =>
    have h1 := gd_step hd hr hc (by lia) hzs (by push_cast at hσ; lia) h
    refine x1_1 (ih (n := n + 1) (s1 := s1 + 1) hr (by lia) (by push_cast at hσ; lia) (by lia) h1) ?_; intro z' h2
    refine ⟨z', ?_⟩
    have e1 : n + (r.length + 1) = n + 1 + r.length := by lia
    have e2 : s1 + ((r.length + 1 : Nat) : Int) = s1 + 1 + (r.length : Int) := by push_cast; lia
    rw [e1, e2]
    exact h2

/-- what the law asks of one chain -/
theorem chain_good {s : Int} {cs : List Nat} {m : Nat} (ill : Bool) (hne : cs ≠ []) (hc : ∀ c ∈ cs, c ≤ 3) (hm : m ≤ 5) (hlen : cs.length ≤ 5) :
    (chainT s cs m ill).und [] ∧ (chainT s cs m ill).labs.Nodup ∧ (chainT s cs m ill).prms.Nodup ∧ (chainT s cs m ill).size ≤ 70 ∧
    (∀ e1 e2 e3, rok (smF e1 e2 e3) smP (chainT s cs m ill) ((itsOf s cs).1 + (cs.length : Int))) ∧
    (∀ e1 e2 e3, (reb (smF e1 e2 e3) (chainT s cs m ill) ((itsOf s cs).1 + (cs.length : Int))).1.labs.Nodup ∧ (reb (smF e1 e2 e3) (chainT s cs m ill) ((itsOf s cs).1 + (cs.length : Int))).1.prms.Nodup ∧
      (reb (smF e1 e2 e3) (chainT s cs m ill) ((itsOf s cs).1 + (cs.length : Int))).1.size ≤ (chainT s cs m ill).size + 36 * cs.length) ∧
    ∃ d, d.isF = false ∧ Den (fun _ => none) (chainT s cs m ill) d ∧ ∀ e1 e2 e3, Den (fun _ => none) (reb (smF e1 e2 e3) (chainT s cs m ill) ((itsOf s cs).1 + (cs.length : Int))).1 d := by
  have hz := itsOf_chn hc s
  have hl := itsOf_len s cs
  have hne' : (itsOf s cs).2 ≠ [] := fun e => hne (List.eq_nil_of_length_eq_zero (by rw [← hl, e]; rfl))
  refine x1_2 (gd_core hne' hz (σ := (itsOf s cs).1 + (cs.length : Int)) (by lia) hm ill) ?_; intro d hd h
  refine x1_1 (gd_wrap hd hz (Int.le_refl _) (by rw [hl]; exact Int.le_refl _) (by lia) h) ?_; intro z' h
  change Gd _ _ _ _ [] (chainT s cs m ill) d at h
  rw [hl] at h
  refine ⟨h.und [] (fun x e => by cases e), bn_labs _ ▸ h.nd true, bn_prms _ ▸ h.nd false, by have := h.size; lia, h.rokk, fun e1 e2 e3 => ⟨?_, ?_, by have := h.sz e1 e2 e3; lia⟩, d, hd, h.den _ trivial, fun e1 e2 e3 => h.dn e1 e2 e3 _ trivial⟩
  · rw [← bn_labs]; exact (h.fr e1 e2 e3 true).nd (h.nd true) fun x hx => by have := h.le true x hx; have := h.hs; lia
  · rw [← bn_prms]; exact (h.fr e1 e2 e3 false).nd (h.nd false) fun x hx => by have := h.le false x hx; have := h.hs; lia

end -- PL4

section -- MC27
set_option maxRecDepth 20000
variable {G : Gl} {a : KA} {A : Around} {env : Env} {σ : St} {L : Addr}

theorem new_SymbolTable (O : G.Ok) (K : KF G a) {n : Nat} (R : Rm A (n + 2)) {Q : Value → St → Prop} (q : ∀ x H', Ext σ.H H' → Q (.ref x) ⟨σ.m, H'⟩) : Wcall G A L (.ref a.cSymbolTable) [] Q σ := by
  refine Wcall_new O K.o.k_SymbolTable.made K.o.k_SymbolTable.init K.o.k_SymbolTable.fni.isFn ?_
  intro x d hx hd hxd hxL hdL us hus
  refine Wc_fun O K.o.k_SymbolTable.fni (R.make (n := n + 1)).room ["self"] (bd1 fun _ _ _ _ _ _ _ _ => rfl) (by rfl) (by rfl) (by rfl) (by rfl) (by rfl) ?_
  intro L' qual cdv hL'
  have hE1 : Ext σ.H (upd (upd σ.H d (.attrs false [])) x (.inst a.cSymbolTable d)) := Ext.mut (Ext.new hd) hx
  have h1 : upd (upd σ.H d (.attrs false [])) x (.inst a.cSymbolTable d) x = some (.inst a.cSymbolTable d) := upd_same
  have h2 : upd (upd σ.H d (.attrs false [])) x (.inst a.cSymbolTable d) d = some (.attrs false []) := (upd_ne (Ne.symm hxd)).trans upd_same
  generalize upd (upd σ.H d (.attrs false [])) x (.inst a.cSymbolTable d) = H1 at hE1 h1 h2
  refine Ws_asga ?_
  refine We_List ?_
  refine Wargs_nil ?_
  refine ⟨Nat.zero_le _, fun l1 hl1 hl1L => ?_⟩
  have x1 : Ext H1 (upd H1 l1 (.list false [])) := Ext.new hl1
  refine We_L (by walk_at "v") ?_
  refine W_set O (x := x) (d := d) K.o.k_SymbolTable K.o.o_SymbolTable_rows (x1 _ _ h1) (x1 _ _ h2) (Nat.le_of_ble_eq_true (by with_unfolding_all rfl)) ?_
  have hxd' : x ≠ d := hxd
  have h3 : upd (upd H1 l1 (.list false [])) d (.attrs false (puta "rows" (.ref l1) [])) x = some (.inst a.cSymbolTable d) := (upd_ne hxd).trans (x1 _ _ h1)
  have h4 : upd (upd H1 l1 (.list false [])) d (.attrs false (puta "rows" (.ref l1) [])) d = some (.attrs false (puta "rows" (.ref l1) [])) := upd_same
  have hE2 : Ext σ.H (upd (upd H1 l1 (.list false [])) d (.attrs false (puta "rows" (.ref l1) []))) := (hE1.trans x1).mut hd
  try dsimp only
  generalize upd (upd H1 l1 (.list false [])) d (.attrs false (puta "rows" (.ref l1) [])) = H2 at hE2 h3 h4
  refine Ws_asga ?_
  refine W_Dict_empty O ?_
  intro l2 hl2 hl2L _
  have x2 : Ext H2 (upd H2 l2 (.tab false [])) := Ext.new hl2
  refine We_L (by walk_at "v") ?_
  refine W_set O (x := x) (d := d) K.o.k_SymbolTable K.o.o_SymbolTable_by_text (x2 _ _ h3) (x2 _ _ h4) (Nat.le_of_ble_eq_true (by with_unfolding_all rfl)) ?_
  refine Ws_nil ?_
  exact ⟨rfl, q x _ ((hE2.trans x2).mut hd)⟩

theorem new_Names (O : G.Ok) (K : KF G a) {n : Nat} (R : Rm A (n + 5)) {Q : Value → St → Prop}
    (q : ∀ w d ti tb dop H', Ext σ.H H' → Wld a H' w d ti → H' d = some (nmo tb ti dop 0) → Q (.ref w) ⟨σ.m, H'⟩) : Wcall G A L (.ref a.cNames) [] Q σ := by
  refine Wcall_new O K.o.k_Names.made K.o.k_Names.init K.o.k_Names.fni.isFn ?_
  intro x d hx hd hxd hxL hdL us hus
  have R0 : Rm (A.under (.builtin "type.__call__" ⟨.ref a.cNames :: us, []⟩)) (n + 4) := R.make
  refine Wc_fun O K.o.k_Names.fni R0.room ["self"] (bd1 fun _ _ _ _ _ _ _ _ => rfl) (by rfl) (by rfl) (by rfl) (by rfl) (by rfl) ?_
  intro L' qual cdv hL'
  have R1 : Rm ((A.under (.builtin "type.__call__" ⟨.ref a.cNames :: us, []⟩)).deeper (envOf qual (scopeOf (methAt 60 0)) L' a.fNames_init cdv)) (n + 3) := R0.deeper
  have hE1 : Ext σ.H (upd (upd σ.H d (.attrs false [])) x (.inst a.cNames d)) := Ext.mut (Ext.new hd) hx
  have h1 : upd (upd σ.H d (.attrs false [])) x (.inst a.cNames d) x = some (.inst a.cNames d) := upd_same
  have h2 : upd (upd σ.H d (.attrs false [])) x (.inst a.cNames d) d = some (.attrs false []) := (upd_ne (Ne.symm hxd)).trans upd_same
  generalize upd (upd σ.H d (.attrs false [])) x (.inst a.cNames d) = H1 at hE1 h1 h2
  have step : ∀ {H2 : Hp} {fs : List (Str × Value)} (nm : Str) (v : Value), Ext σ.H H2 → H2 x = some (.inst a.cNames d) → Ext σ.H (upd H2 d (.attrs false (puta nm v fs))) ∧ upd H2 d (.attrs false (puta nm v fs)) x = some (.inst a.cNames d) ∧ upd H2 d (.attrs false (puta nm v fs)) d = some (.attrs false (puta nm v fs)) :=
    fun nm v e h => ⟨e.mut hd, (upd_ne hxd).trans h, upd_same⟩
  refine Ws_asga ?_
  refine We_callK0 O K.o.k_SymbolTable.glob K.o.k_SymbolTable.keep ?_
  refine new_SymbolTable O K (R1.le (k := n + 2) (by lia)) ?_
  intro tb H2 hE2
  try dsimp only at hE2
  refine We_L (by walk_at "v") ?_
  refine W_set O (x := x) (d := d) K.o.k_Names K.o.o_Names_table (hE2 _ _ h1) (hE2 _ _ h2) (Nat.le_of_ble_eq_true (by with_unfolding_all rfl)) ?_
  refine x0_3 (step (fs := []) "table" (.ref tb) (hE1.trans hE2) (hE2 _ _ h1)) ?_; intro e3 a3 b3
  try dsimp only
  generalize upd H2 d (.attrs false (puta "table" (.ref tb) [])) = H3 at e3 a3 b3
  refine Ws_asga ?_
  refine We_Int ?_
  refine We_L (by walk_at "v") ?_
  refine W_set O (x := x) (d := d) K.o.k_Names K.o.o_Names_last a3 b3 (Nat.le_of_ble_eq_true (by with_unfolding_all rfl)) ?_
  refine x0_3 (step (fs := puta "table" (.ref tb) []) "last" (.int 0 0) e3 a3) ?_; intro e4 a4 b4
  try dsimp only
  generalize upd H3 d (.attrs false (puta "last" (.int 0 0) (puta "table" (.ref tb) []))) = H4 at e4 a4 b4
  refine Ws_asga ?_
  refine W_Dict_empty O ?_
  intro ti hti htiL htil
  try dsimp only at hti ⊢
  have x5 : Ext H4 (upd H4 ti (.tab false [])) := Ext.new hti
  have t5 : upd H4 ti (.tab false []) ti = some (.tab false []) := upd_same
  have hti0 := e4.none hti
  have e5 := e4.trans x5
  have a5 := x5 _ _ a4
  have b5 := x5 _ _ b4
  generalize upd H4 ti (.tab false []) = H5 at e5 a5 b5 t5
  have htd : ti ≠ d := ne_dif b5 t5 (by intro q; cases q)
  have htx : ti ≠ x := ne_dif a5 t5 (by intro q; cases q)
  refine We_L (by walk_at "v") ?_
  refine W_set O (x := x) (d := d) K.o.k_Names K.o.o_Names_titles a5 b5 (Nat.le_of_ble_eq_true (by with_unfolding_all rfl)) ?_
  refine x0_3 (step (fs := puta "last" (.int 0 0) (puta "table" (.ref tb) [])) "titles" (.ref ti) e5 a5) ?_; intro e6 a6 b6
  have t6 : upd H5 d (.attrs false (puta "titles" (.ref ti) (puta "last" (.int 0 0) (puta "table" (.ref tb) [])))) ti = some (.tab false []) := (upd_ne htd).trans t5
  try dsimp only
  generalize upd H5 d (.attrs false (puta "titles" (.ref ti) (puta "last" (.int 0 0) (puta "table" (.ref tb) [])))) = H6 at e6 a6 b6 t6
  refine Ws_asga ?_
  refine W_Dict_empty O ?_
  intro dop hdop hdopL hdopl
  try dsimp only at hdop ⊢
  have x7 : Ext H6 (upd H6 dop (.tab false [])) := Ext.new hdop
  have e7 := e6.trans x7
  have a7 := x7 _ _ a6
  have b7 := x7 _ _ b6
  have t7 := x7 _ _ t6
  generalize upd H6 dop (.tab false []) = H7 at e7 a7 b7 t7
  refine We_L (by walk_at "v") ?_
  refine W_set O (x := x) (d := d) K.o.k_Names K.o.o_Names_ops a7 b7 (Nat.le_of_ble_eq_true (by with_unfolding_all rfl)) ?_
  refine x0_3 (step (fs := puta "titles" (.ref ti) (puta "last" (.int 0 0) (puta "table" (.ref tb) []))) "ops" (.ref dop) e7 a7) ?_; intro e8 a8 b8
  have t8 : upd H7 d (.attrs false (puta "ops" (.ref dop) (puta "titles" (.ref ti) (puta "last" (.int 0 0) (puta "table" (.ref tb) []))))) ti = some (.tab false []) := (upd_ne htd).trans t7
  try dsimp only
  generalize upd H7 d (.attrs false (puta "ops" (.ref dop) (puta "titles" (.ref ti) (puta "last" (.int 0 0) (puta "table" (.ref tb) []))))) = H8 at e8 a8 b8 t8
  refine Ws_asga ?_
  refine We_None ?_
  refine We_L (by walk_at "v") ?_
  refine W_set O (x := x) (d := d) K.o.k_Names K.o.o_Names_root a8 b8 (Nat.le_of_ble_eq_true (by with_unfolding_all rfl)) ?_
  refine x0_3 (step (fs := puta "ops" (.ref dop) (puta "titles" (.ref ti) (puta "last" (.int 0 0) (puta "table" (.ref tb) [])))) "root" .none e8 a8) ?_; intro e9 a9 b9
  have t9 : upd H8 d (.attrs false (puta "root" .none (puta "ops" (.ref dop) (puta "titles" (.ref ti) (puta "last" (.int 0 0) (puta "table" (.ref tb) [])))))) ti = some (.tab false []) := (upd_ne htd).trans t8
  try dsimp only
  have e : puta "root" .none (puta "ops" (.ref dop) (puta "titles" (.ref ti) (puta "last" (.int 0 0) (puta "table" (.ref tb) [])))) = ([("table", .ref tb), ("last", .int 0 0), ("titles", .ref ti), ("ops", .ref dop), ("root", .none)] : List (Str × Value)) := by with_unfolding_all rfl
  rw [e] at e9 a9 b9 t9 ⊢
  change Ext σ.H (upd H8 d (nmo tb ti dop 0)) at e9
  change upd H8 d (nmo tb ti dop 0) x = _ at a9
  change upd H8 d (nmo tb ti dop 0) d = some (nmo tb ti dop 0) at b9
  change upd H8 d (nmo tb ti dop 0) ti = _ at t9
  show Ws G _ _ _ _ ⟨_, upd H8 d (nmo tb ti dop 0)⟩
  generalize upd H8 d (nmo tb ti dop 0) = H9 at e9 a9 b9 t9
  refine Wt.frz (Frz.one (a := ti) t9) ?_
  refine Ws_nil ?_
  refine ⟨rfl, q x d ti tb dop _ (e9.mut hti0) ⟨(upd_ne (Ne.symm htx)).trans a9, upd_same, htil⟩ ((upd_ne (Ne.symm htd)).trans b9)⟩

end -- MC27

section -- MC28
set_option maxRecDepth 20000
variable {G : Gl} {a : KA} {A : Around} {env : Env} {σ : St} {L : Addr}

theorem law_is_bounded (O : G.Ok) (K : KF G a) (I : KI G a) {n : Nat} (R : Rm A (n + 40)) {H : Hp} {w d ti tb dop cl : Addr} {z : Bool} {cs : List Nat} {last : Nat} {ill : Bool} {s : Int} (hw : Wld a H w d ti) (hd : H d = some (nmo tb ti dop s)) (hcl : H cl = some (.list z (vn cs)))
    (hne : cs ≠ []) (hlen : cs.length ≤ 5) (hc : ∀ c ∈ cs, c ≤ 3) (hlast : last ≤ 5) {Q : Value → Hp → Prop}
    (q : ∀ r x y t t' dd s' H', ExtB d H H' → Le H H' → H' d = some (nmo tb ti dop s') → H' r = some (.tuple [.ref x, .ref y, .bool true]) → Rep a H' t x → Rep a H' t' y → Den (fun _ => none) t dd → Den (fun _ => none) t' dd → dd.isF = false → t.size ≤ 250 → t'.size ≤ 250 → Q (.ref r) H') :
    Wc G A (.ref a.f_x_law_is_bounded) [.ref w, .ref cl, .int (last : Int) 0, .bool ill] Q H := by
  obtain ⟨g1, g2, g3, g4, g5, g6, dd, g7, g8, g9⟩ := chain_good (s := s) ill hne hc hlast hlen
  refine Wc_fun O K.d.d_x_law_is_bounded.fn R.room ["_law_names", "_law_calls", "_law_last", "_law_is_ill"] (bd4 fun _ _ _ _ _ _ _ _ _ _ _ => rfl) (by rfl) (by rfl) (by rfl) (by rfl) (by rfl) ?_
  intro L qual cdv hL
  have R1 : Rm (A.deeper (envOf qual (scopeOf (stmtAt 68)) L a.f_x_law_is_bounded cdv)) (n + 39) := R.deeper
  refine Ws_asg ?_
  refine We_callK O K.d.d_x_law_chain.glob K.d.d_x_law_chain.fn.keep ?_
  refine Wargs_l (by walk_at "v") ?_
  refine Wargs_l (by walk_at "v") ?_
  refine Wargs_l (by walk_at "v") ?_
  refine Wargs_l (by walk_at "v") ?_
  refine Wargs_nil ?_
  refine Wcall_of ?_
  refine law_chain O K (n := n) (R1.le (by lia)) hw hd hcl hne (by lia) (fun c h => by have := hc c h; lia) (by lia) ?_
  intro x H1 hB1 hL1 hd1 hr1
  generalize chainT s cs last ill = t at g1 g2 g3 g4 g5 g6 g8 g9 hr1
  generalize (itsOf s cs).1 + (cs.length : Int) = s1 at g5 g6 g9 hd1
  have hcd : cl ≠ d := ne_dif hd hcl (by intro q; cases q)
  have hcl1 := hB1 _ _ hcd hcl
  have hw1 := hw.mono hL1
  try dsimp only
  refine Ws_asg ?_
  refine We_callB O K.c.nb_len bb_len ?_
  refine Wargs_c ?_
  refine We_callK O K.d.d_all_nodes.glob K.d.d_all_nodes.fn.keep ?_
  refine Wargs_l (by walk_at "v") ?_
  refine Wargs_nil ?_
  refine Wcall_of ?_
  refine all_nodes O K (n := n) (R1.le (by lia)) hr1 (by lia) ?_
  intro r1 vs1 H2 hE2 hr10 hv1 hvs1
  have hl1 : vs1.length = t.size := by rw [hvs1.length, T.length_nodes]
  refine Wargs_nil ?_
  refine W_len_list hv1 (by lia) ?_
  rw [hl1]
  try dsimp only
  refine Ws_asg ?_
  refine We_callK O K.d.d_spread_small.glob K.d.d_spread_small.fn.keep ?_
  refine Wargs_l (by walk_at "v") ?_
  refine Wargs_l (by walk_at "v") ?_
  refine Wargs_nil ?_
  refine Wcall_of ?_
  refine spread_small O K (n := n) (R1.le (by lia)) (hr1.mono hE2.le) (by lia) g1 g2 g3 (hw1.mono hE2.le) (hE2 _ _ hd1) g5 ?_
  intro e1 e2 e3 y H3 hB3 hL3 hd3 hr3
  refine x0_3 (g6 e1 e2 e3) ?_; intro k1 k2 k3
  have k4 := g9 e1 e2 e3
  generalize (reb (smF e1 e2 e3) t s1).1 = t' at hr3 k1 k2 k3 k4
  generalize (reb (smF e1 e2 e3) t s1).2 = s3 at hd3
  have hcl3 := hB3 _ _ hcd (hE2 _ _ hcl1)
  have hrt3 := (hr1.mono hE2.le).mono hL3
  have hsz' : t'.size ≤ 250 := by lia
  have hB := (hB1.trans hE2.b).trans hB3
  have hLe := (hL1.trans hE2.le).trans hL3
  clear hB3 hL3 hE2 hv1 hvs1 hr10
  try dsimp only
  refine Ws_asg ?_
  refine We_And3 ?_
  refine We_Compare ?_
  refine We_callB O K.c.nb_len bb_len ?_
  refine Wargs_c ?_
  refine We_callK O K.d.d_all_nodes.glob K.d.d_all_nodes.fn.keep ?_
  refine Wargs_l (by walk_at "v") ?_
  refine Wargs_nil ?_
  refine Wcall_of ?_
  refine all_nodes O K (n := n) (R1.le (by lia)) hr3 (by lia) ?_
  intro r2 vs2 H4 hE4 hr20 hv2 hvs2
  have hl2 : vs2.length = t'.size := by rw [hvs2.length, T.length_nodes]
  refine Wargs_nil ?_
  refine W_len_list hv2 (by lia) ?_
  rw [hl2]
  refine We_BinOp ?_
  refine We_L (by walk_at "v") ?_
  refine We_BinOp ?_
  refine We_Int ?_
  refine We_callB O K.c.nb_len bb_len ?_
  refine Wargs_l (by walk_at "v") ?_
  refine Wargs_nil ?_
  refine W_len_list (hE4 _ _ hcl3) (by rw [vn_length]; lia) ?_
  rw [vn_length]
  refine W_mul (IntMulOk.of_left (by decide)) ?_
  refine W_add ?_
  refine W_le ?_
  refine W_truthy_bool ?_
  refine ift (by rw [decide_eq_true_eq]; push_cast; lia) ?_
  refine We_And2 ?_
  refine We_callK O K.d.d_x_law_are_once.glob K.d.d_x_law_are_once.fn.keep ?_
  refine Wargs_l (by walk_at "v") ?_
  refine Wargs_nil ?_
  refine Wcall_of ?_
  refine law_are_once O K I (n := n) (R1.le (by lia)) (hr3.mono hE4.le) (by lia) k1 k2 ?_
  intro H5 hE5
  try dsimp only at hE5
  refine W_truthy_bool ?_
  refine ift rfl ?_
  refine We_Compare ?_
  refine We_callB O K.c.nb_len bb_len ?_
  refine Wargs_c ?_
  refine We_callK O K.d.d_all_nodes.glob K.d.d_all_nodes.fn.keep ?_
  refine Wargs_l (by walk_at "v") ?_
  refine Wargs_nil ?_
  refine Wcall_of ?_
  refine all_nodes O K (n := n) (R1.le (by lia)) (hrt3.mono (hE4.trans hE5).le) (by lia) ?_
  intro r3 vs3 H6 hE6 hr30 hv3 hvs3
  have hl3 : vs3.length = t.size := by rw [hvs3.length, T.length_nodes]
  refine Wargs_nil ?_
  refine W_len_list hv3 (by lia) ?_
  rw [hl3]
  refine We_L (by walk_at "v") ?_
  refine W_eq ?_
  rw [beq_self_eq_true]
  have hE := (hE4.trans hE5).trans hE6
  try dsimp only
  refine Ws_ret ?_
  refine We_Tuple ?_
  refine Wargs_l (by walk_at "v") ?_
  refine Wargs_l (by walk_at "v") ?_
  refine Wargs_l (by walk_at "v") ?_
  refine Wargs_nil ?_
  refine ⟨Nat.le_of_ble_eq_true rfl, fun r hr hrL => ?_⟩
  have x7 : Ext H6 (upd H6 r (.tuple [.ref x, .ref y, .bool true])) := Ext.new hr
  have x8 := hE.trans x7
  exact q r x y t t' dd s3 _ (hB.trans x8.b) (hLe.trans x8.le) (x8 _ _ hd3) upd_same (hrt3.mono x8.le) (hr3.mono x8.le) g8 k4 g7 (by lia) hsz'

end -- MC28

section -- MC29
set_option maxRecDepth 20000
variable {G : Gl} {a : KA} {A : Around} {env : Env} {σ : St} {L : Addr}

/-- what lasts through the law -/
structure LS (a : KA) (H : Hp) (w d ti tb dop dk c : Addr) : Prop where
  w : Wld a H w d ti
  n : ∃ s, H d = some (nmo tb ti dop s)
  k : ∃ ds, Deck H dk ds
  c : H c = some (.cell (some (.ref dk)))
variable {w d ti tb dop dk c : Addr}
theorem LS.ext {H H' : Hp} (h : LS a H w d ti tb dop dk c) (e : Ext H H') : LS a H' w d ti tb dop dk c := by
  (refine x1_1 h.n ?_; intro s hs)
  refine x1_1 h.k ?_; intro ds hk
  exact ⟨h.w.mono e.le, ⟨s, e _ _ hs⟩, ⟨ds, e _ _ hk.at_, hk.ne, hk.pos, hk.small⟩, e _ _ h.c⟩
theorem LS.draw {H H' : Hp} {ds : List Int} (h : LS a H w d ti tb dop dk c) (e : ExtB dk H H') (hk' : Deck H' dk ds) : LS a H' w d ti tb dop dk c := by
  (refine x1_1 h.n ?_; intro s hs)
  refine x1_1 h.k ?_; intro ds0 hk
  exact ⟨⟨e _ _ (ne_dif hk.at_ h.w.inst (by intro q; cases q)) h.w.inst, e _ _ (ne_dif hk.at_ h.w.tit (by intro q; cases q)) h.w.tit, h.w.low⟩, ⟨s, e _ _ (ne_dif hk.at_ hs (by intro q; cases q)) hs⟩, ⟨ds, hk'⟩, e _ _ (ne_dif hk.at_ h.c (by intro q; cases q)) h.c⟩
theorem LS.bounded {H H' : Hp} {s' : Int} (h : LS a H w d ti tb dop dk c) (e : ExtB d H H') (hl : Le H H') (hd : H' d = some (nmo tb ti dop s')) : LS a H' w d ti tb dop dk c := by
  (refine x1_1 h.n ?_; intro s hs)
  refine x1_1 h.k ?_; intro ds0 hk
  exact ⟨h.w.mono hl, ⟨s', hd⟩, ⟨ds0, e _ _ (ne_dif hs hk.at_ (by intro q; cases q)) hk.at_, hk.ne, hk.pos, hk.small⟩, e _ _ (ne_dif hs h.c (by intro q; cases q)) h.c⟩
theorem LS.acc {H : Hp} {acc : Addr} {z : Bool} {xs ys : List Value} (h : LS a H w d ti tb dop dk c) (ha : H acc = some (.list z xs)) (hne : acc ≠ dk) : LS a (upd H acc (.list false ys)) w d ti tb dop dk c := by
  (refine x1_1 h.n ?_; intro s hs)
  refine x1_1 h.k ?_; intro ds0 hk
  exact ⟨⟨(upd_ne (ne_dif ha h.w.inst (by intro q; cases q))).trans h.w.inst, (upd_ne (ne_dif ha h.w.tit (by intro q; cases q))).trans h.w.tit, h.w.low⟩, ⟨s, (upd_ne (ne_dif ha hs (by intro q; cases q))).trans hs⟩,
    ⟨ds0, (upd_ne (Ne.symm hne)).trans hk.at_, hk.ne, hk.pos, hk.small⟩, (upd_ne (ne_dif ha h.c (by intro q; cases q))).trans h.c⟩

/-- the lists that the law draws: the loop's state -/
noncomputable def Drw (a : KA) (H₀ : Hp) (w d ti tb dop dk c : Addr) (acc : Addr) (i : Nat) (ys : List Value) (H' : Hp) : Prop :=
  H' acc = some (.list false ys) ∧ acc ≠ dk ∧ LS a H' w d ti tb dop dk c ∧ ∃ cs : List Nat, ys = vn cs ∧ cs.length = i ∧ ∀ c ∈ cs, c ≤ 3
theorem Drw.start {H₀ : Hp} (h : LS a H₀ w d ti tb dop dk c) {acc : Addr} (ha : H₀ acc = none) : Drw a H₀ w d ti tb dop dk c acc 0 [] (upd H₀ acc (.list false [])) :=
  ⟨upd_same, fun e => (by (refine x1_1 h.k ?_; intro ds hk); rw [e, hk.at_] at ha; cases ha), h.ext (Ext.new ha), [], rfl, rfl, fun _ h => (by cases h)⟩
theorem Drw.next {H₀ H' H'' : Hp} {acc : Addr} {i : Nat} {ys : List Value} (h : Drw a H₀ w d ti tb dop dk c acc i ys H') {r : Int} (h0 : 0 ≤ r) (h3 : r < 3) {ds : List Int} (hk : Deck H'' dk ds) (e : ExtB dk H' H'') :
    H'' acc = some (.list false ys) ∧ Drw a H₀ w d ti tb dop dk c acc (i + 1) (ys ++ [.int (1 + r) 0]) (upd H'' acc (.list false (ys ++ [.int (1 + r) 0]))) := by
  obtain ⟨h1, h2, h4, cs, rfl, h5, h6⟩ := h
  have ha := e _ _ h2 h1
  refine ⟨ha, upd_same, h2, (h4.draw e hk).acc ha h2, cs ++ [(1 + r).toNat], ?_, by rw [List.length_append, h5]; rfl, fun x hx => ?_⟩
  · unfold vn
    rw [List.map_append]
    have : (((1 + r).toNat : Nat) : Int) = 1 + r := Int.toNat_of_nonneg (by lia)
    simp [this]
  · rcases List.mem_append.mp hx with hx | hx
    · exact h6 x hx
    · rw [List.mem_singleton.mp hx]; lia

theorem RD.same {H H' : Hp} {n n' : Nat} {v v' : Value} {dd : D} (h : RD a H n v dd) (h' : RD a H' n' v' dd) (hf : dd.isF = false) : (∃ i, v = .int i 0 ∧ v' = .int i 0) ∨ (v = .none ∧ v' = .none) := by
  cases h with
  | int => cases h'; exact .inl ⟨_, rfl, rfl⟩
  | no => cases h'; exact .inr ⟨rfl, rfl⟩
  | more => simp [D.isF] at hf
  | clo => simp [D.isF] at hf

theorem law_is (O : G.Ok) (K : KF G a) (I : KI G a) {n : Nat} (R : Rm A (n + 300)) {H : Hp} {sc : Addr} {ns : List Int} (hsc : ∃ vs, G.B.IsList sc vs ∧ vs.toList.map er = vi ns) (hz : ns.length ≤ 1000000) : Wc G A (.ref a.f_law) [.ref sc] (fun r _ => r = .bool true) H := by
  refine Wc_funC O K.d.d_law.fn R.room ["script"] "_law_deck" (bd1 fun _ _ _ _ _ _ _ _ => rfl) (by intro _; with_unfolding_all rfl) (by rfl) (by rfl) (by rfl) (by rfl) ?_
  intro L qual cdv hL hL1
  have R1 : Rm (A.deeper (envOfC qual (scopeOf (stmtAt 69)) L a.f_law cdv)) (n + 299) := R.deeper
  have hms : bindL (fun y => (scopeOf (stmtAt 69)).names.lookup y) (List.zip ["script"] [.ref sc]) (fun _ => none) "script" = some (.ref sc) := by with_unfolding_all rfl
  have hbc : bindC (fun y => (scopeOf (stmtAt 69)).names.lookup y) (List.zip ["script"] [.ref sc]) (fun _ => none) "_law_deck" = none := by with_unfolding_all rfl
  rw [hbc]
  generalize bindL (fun y => (scopeOf (stmtAt 69)).names.lookup y) (List.zip ["script"] [.ref sc]) (fun _ => none) = m0 at hms
  have hE0 : Ext H (upd H (L + 1) (.cell none)) := Ext.new hL1
  have hc0 : upd H (L + 1) (.cell none) (L + 1) = some (.cell none) := upd_same
  generalize upd H (L + 1) (.cell none) = H0 at hE0 hc0
  refine Ws_cons ?_
  refine Wst_AssignTuple ?_
  refine We_Tuple ?_
  refine Wargs_c ?_
  refine We_callK O K.d.d_x_law_deck_of.glob K.d.d_x_law_deck_of.fn.keep ?_
  refine Wargs_l (by walk_at "v") ?_
  refine Wargs_nil ?_
  refine Wcall_of ?_
  refine law_deck_of O K (n := n) (R1.le (by lia)) hsc hz ?_
  intro dk ds H1 hE1 hdk0 hD1
  refine Wargs_c ?_
  refine We_callK0 O K.o.k_Names.glob K.o.k_Names.keep ?_
  refine new_Names O K (n := n) (R1.le (by lia)) ?_
  intro w d ti tb dop H2 hE2 hw2 hd2
  try dsimp only at hE2
  refine Wargs_nil ?_
  refine ⟨Nat.le_of_ble_eq_true rfl, fun tt htt httL => ?_⟩
  intro v' hv'
  obtain rfl := er_ref hv'
  refine W_assign2 R1.hd (x := .ref dk) (y := .ref w) upd_same ?_
  intro u u' hu hu'
  have hE3 : Ext H2 (upd H2 tt (.tuple [.ref dk, .ref w])) := Ext.new htt
  have hc3 := (hE1.trans (hE2.trans hE3)) _ _ hc0
  have hS : LS a (upd (upd H2 tt (.tuple [.ref dk, .ref w])) (L + 1) (.cell (some (.ref dk)))) w d ti tb dop dk (L + 1) := by
    have hw3 := hw2.mono hE3.le
    have hd3 := hE3 _ _ hd2
    have hk3 := (hE2.trans hE3) _ _ hD1.at_
    exact ⟨⟨(upd_ne (ne_dif hc3 hw3.inst (by intro q; cases q))).trans hw3.inst, (upd_ne (ne_dif hc3 hw3.tit (by intro q; cases q))).trans hw3.tit, hw3.low⟩, ⟨0, (upd_ne (ne_dif hc3 hd3 (by intro q; cases q))).trans hd3⟩,
      ⟨ds, (upd_ne (ne_dif hc3 hk3 (by intro q; cases q))).trans hk3, hD1.ne, hD1.pos, hD1.small⟩, upd_same⟩
  refine W_assign_Cell (c := L + 1) (o₀ := none) hc3 ?_
  refine W_assign_Name ?_
  rw [hu, hu']
  try dsimp only
  generalize upd (upd H2 tt (.tuple [.ref dk, .ref w])) (L + 1) (.cell (some (.ref dk))) = H3 at hS
  clear hu hu' hc3 hE3 htt httL hw2 hd2 hE2 hD1 hdk0 hE1 hc0 hE0 hL hL1 hbc hms
  -- the short chain
  refine Ws_cons ?_
  refine Wst_AssignComp [("_law_deck", L + 1)] R1.hd ?_
  refine x1_1 hS.k ?_; intro ds1 hk1
  have hcell := hS.c
  refine We_callT O K.c.nb_range bb_range ?_
  refine Wargs_c ?_
  refine We_BinOp ?_
  refine We_Int ?_
  refine We_callK O K.d.d_x_law_draw.glob K.d.d_x_law_draw.fn.keep ?_
  refine Wargs_c ?_
  refine We_Cell (c := L + 1) (by repeat (first | with_reducible assumption | with_reducible exact upd_same | with_reducible refine upd_other (by first | assumption | exact Ne.symm (by assumption)) ?_)) ?_
  refine Wargs_c ?_
  refine We_Int ?_
  refine Wargs_nil ?_
  refine Wcall_of ?_
  refine law_draw O K (n := n) (R1.le (by lia)) hk1 (by decide) (fun _ => rfl) ?_
  intro r ds2 H4 hr0 hr3 hk2 hB4
  have hS4 := hS.draw hB4 hk2
  obtain ⟨k1, hk1e, hk1l⟩ : ∃ k1 : Nat, 1 + r = (k1 : Int) ∧ 1 ≤ k1 ∧ k1 ≤ 3 := ⟨(1 + r).toNat, by lia, by lia, by lia⟩
  refine W_add ?_
  rw [hk1e]
  refine Wargs_nil ?_
  refine W_range ?_
  intro rg hrg hrgL
  have x5 : Ext H4 (upd H4 rg (.rng k1)) := Ext.new hrg
  have hr5 : upd H4 rg (.rng k1) rg = some (.rng k1) := upd_same
  have hS5 := hS4.ext x5
  try dsimp only
  generalize upd H4 rg (.rng k1) = H5 at hr5 hS5
  refine ⟨_, _, _, Drw a H5 w d ti tb dop dk (L + 1), Src.range hr5 (by lia), ?_⟩
  refine ⟨by lia, fun acc h => Drw.start hS5 h, fun acc i ys H' hj => ⟨hj.1, trivial, ?_⟩, ?_, ?_⟩
  · obtain ⟨_, _, _, cs, rfl, h5, _⟩ := hj; rw [vn_length, h5]; exact Nat.le_refl _
  · intro acc C i v ys H' hi hP hj hCa hHC
    refine Wts_nil ?_
    refine ift rfl ?_
    refine x1_1 hj.2.2.1.k ?_; intro ds3 hk3
    have hcell := hj.2.2.1.c
    refine We_BinOp ?_
    refine We_Int ?_
    refine We_callK O K.d.d_x_law_draw.glob K.d.d_x_law_draw.fn.keep ?_
    refine Wargs_c ?_
    refine We_Cell (c := L + 1) (by repeat (first | with_reducible assumption | with_reducible exact upd_same | with_reducible refine upd_other (by first | assumption | exact Ne.symm (by assumption)) ?_)) ?_
    refine Wargs_c ?_
    refine We_Int ?_
    refine Wargs_nil ?_
    refine Wcall_of ?_
    refine law_draw O K (n := n) (R1.le (by lia)) hk3 (by decide) (fun _ => rfl) ?_
    intro r ds4 H6 hr0 hr3 hk4 hB6
    refine W_add ?_
    exact hj.next hr0 hr3 hk4 hB6
  intro short ys H' hacc hq1
  obtain ⟨ha, hsd, hS6, cs, rfl, hcl, hc3⟩ := hq1
  have hcs : cs ≠ [] := fun e => by rw [e] at hcl; simp at hcl; lia
  clear hr5 hS5 x5 hrg hrgL hS4 hk1 hk2 hB4 hcell
  -- its bound
  refine x1_1 hS6.k ?_; intro ds1 hk1
  have hcell := hS6.c
  try dsimp only
  refine Ws_cons ?_
  refine Wst_AssignTuple ?_
  refine We_callK O K.d.d_x_law_is_bounded.glob K.d.d_x_law_is_bounded.fn.keep ?_
  refine Wargs_l (by walk_at "v") ?_
  refine Wargs_l (by walk_at "v") ?_
  refine Wargs_c ?_
  refine We_BinOp ?_
  refine We_Int ?_
  refine We_callK O K.d.d_x_law_draw.glob K.d.d_x_law_draw.fn.keep ?_
  refine Wargs_c ?_
  refine We_Cell (c := L + 1) (by repeat (first | with_reducible assumption | with_reducible exact upd_same | with_reducible refine upd_other (by first | assumption | exact Ne.symm (by assumption)) ?_)) ?_
  refine Wargs_c ?_
  refine We_Int ?_
  refine Wargs_nil ?_
  refine Wcall_of ?_
  refine law_draw O K (n := n) (R1.le (by lia)) hk1 (by decide) (fun _ => rfl) ?_
  intro r ds2 H7 hr0 hr3 hk2 hB7
  have hS7 := hS6.draw hB7 hk2
  have ha7 := hB7 _ _ hsd ha
  obtain ⟨m1, hm1e, hm1l⟩ : ∃ m1 : Nat, 1 + r = (m1 : Int) ∧ m1 ≤ 3 := ⟨(1 + r).toNat, by lia, by lia⟩
  refine W_add ?_
  rw [hm1e]
  have hcell7 := hS7.c
  refine Wargs_c ?_
  refine We_Compare ?_
  refine We_callK O K.d.d_x_law_draw.glob K.d.d_x_law_draw.fn.keep ?_
  refine Wargs_c ?_
  refine We_Cell (c := L + 1) (by repeat (first | with_reducible assumption | with_reducible exact upd_same | with_reducible refine upd_other (by first | assumption | exact Ne.symm (by assumption)) ?_)) ?_
  refine Wargs_c ?_
  refine We_Int ?_
  refine Wargs_nil ?_
  refine Wcall_of ?_
  refine law_draw O K (n := n) (R1.le (by lia)) hk2 (by decide) (fun _ => rfl) ?_
  intro r2 ds3 H8 hr20 hr23 hk3 hB8
  have hS8 := hS7.draw hB8 hk3
  have ha8 := hB8 _ _ hsd ha7
  refine We_Int ?_
  refine W_eq ?_
  refine Wargs_nil ?_
  refine Wcall_of ?_
  refine x1_1 hS8.n ?_; intro s8 hn8
  refine law_is_bounded O K I (n := n) (R1.le (by lia)) hS8.w hn8 ha8 hcs (by lia) hc3 (by lia) ?_
  intro tp x y t t' dd s9 H9 hB9 hL9 hd9 htp hx hy hden hden' hdf hts hts'
  have hS9 := hS8.bounded hB9 hL9 hd9
  clear hS8 hn8 ha8 hB8 hk3 hcell7 hS7 ha7 hB7 hk2 hcell hk1 hS6 ha hB9 hL9 hd9
  intro v' hv'
  obtain rfl := er_ref hv'
  refine W_assign3 R1.hd (x := .ref x) (y := .ref y) (z := .bool true) htp ?_
  intro u u' u'' hu hu' hu''
  refine W_nm hu ?_
  refine W_nm hu' ?_
  refine W_nm hu'' ?_
  try dsimp only
  refine Ws_cons ?_
  refine Wst_If ?_
  refine Wb_BoolOp ?_
  refine Wall_Or ?_
  refine Wb_Not ?_
  refine Wb_value ?_
  refine We_L (by walk_at "v") ?_
  refine W_truthy_bool ?_
  refine iff_ (by decide) ?_
  refine Wall_Or ?_
  refine Wb_Compare ?_
  refine We_callK O K.d.d_x_law_value_of.glob K.d.d_x_law_value_of.fn.keep ?_
  refine Wargs_l (by walk_at "v") ?_
  refine Wargs_c ?_
  refine W_Dict_empty O ?_
  intro e1 he1 he1L he1l
  have y1 : Ext H9 (upd (upd H9 e1 (.tab false [])) e1 (.tab true [])) := (Ext.new he1).mut he1
  refine Wargs_nil ?_
  refine Wcall.frz (Frz.one (a := e1) upd_same) ?_
  refine Wcall_of ?_
  refine value_of O K I 250 (R1.le (by lia)) hden (hx.mono y1.le) upd_same he1l (g := fun _ => none) (m := 0) (fun k d e => by cases e) (by lia) (by simp; lia) ?_
  intro v1 H10 hE10 hv1
  have y2 := y1.trans hE10
  refine We_callK O K.d.d_x_law_value_of.glob K.d.d_x_law_value_of.fn.keep ?_
  refine Wargs_l (by walk_at "v") ?_
  refine Wargs_c ?_
  refine W_Dict_empty O ?_
  intro e2 he2 he2L he2l
  have y3 : Ext H10 (upd (upd H10 e2 (.tab false [])) e2 (.tab true [])) := (Ext.new he2).mut he2
  refine Wargs_nil ?_
  refine Wcall.frz (Frz.one (a := e2) upd_same) ?_
  refine Wcall_of ?_
  refine value_of O K I 250 (R1.le (by lia)) hden' (hy.mono (y2.trans y3).le) upd_same he2l (g := fun _ => none) (m := 0) (fun k d e => by cases e) (by lia) (by simp; lia) ?_
  intro v2 H11 hE11 hv2
  have hS11 := hS9.ext ((y2.trans y3).trans hE11)
  have hno : ∀ {Q : Value → St → Prop} {σ' : St}, Q (.bool false) σ' → Wv2 G (A.deeper (envOfC qual (scopeOf (stmtAt 69)) L a.f_law cdv)) (envOfC qual (scopeOf (stmtAt 69)) L a.f_law cdv).locals er (compareOp .NotEq) v1 v2 Q σ' := fun {Q σ'} q => by
    rcases hv1.same hv2 hdf with ⟨i, rfl, rfl⟩ | ⟨rfl, rfl⟩
    · refine W_ne ?_
      rw [bne_self_eq_false]
      exact q
    · exact W_ne_none q
  refine hno ?_
  refine W_truthy_bool ?_
  refine iff_ (by decide) ?_
  refine Wall_Or_nil ?_
  refine iff_ (by decide) ?_
  refine Ws_nil ?_
  clear hno hv1 hv2 hE11 hE10 y1 y2 y3 he1 he1L he2 he2L hS9 hx hy hden hden' htp hts hts' hu hu' hu''
  -- the long chain
  refine Ws_cons ?_
  refine Wst_AssignComp [("_law_deck", L + 1)] R1.hd ?_
  refine x1_1 hS11.k ?_; intro ds1 hk1
  have hcell := hS11.c
  refine We_callT O K.c.nb_range bb_range ?_
  refine Wargs_c ?_
  refine We_BinOp ?_
  refine We_Int ?_
  refine We_callK O K.d.d_x_law_draw.glob K.d.d_x_law_draw.fn.keep ?_
  refine Wargs_c ?_
  refine We_Cell (c := L + 1) (by repeat (first | with_reducible assumption | with_reducible exact upd_same | with_reducible refine upd_other (by first | assumption | exact Ne.symm (by assumption)) ?_)) ?_
  refine Wargs_c ?_
  refine We_Int ?_
  refine Wargs_nil ?_
  refine Wcall_of ?_
  refine law_draw O K (n := n) (R1.le (by lia)) hk1 (by decide) (fun _ => rfl) ?_
  intro r ds2 H4 hr0 hr3 hk2 hB4
  have hS4 := hS11.draw hB4 hk2
  obtain ⟨k2, hk2e, hk2l⟩ : ∃ k2 : Nat, 2 + r = (k2 : Int) ∧ 1 ≤ k2 ∧ k2 ≤ 5 := ⟨(2 + r).toNat, by lia, by lia, by lia⟩
  refine W_add ?_
  rw [hk2e]
  refine Wargs_nil ?_
  refine W_range ?_
  intro rg hrg hrgL
  have x5 : Ext H4 (upd H4 rg (.rng k2)) := Ext.new hrg
  have hr5 : upd H4 rg (.rng k2) rg = some (.rng k2) := upd_same
  have hS5 := hS4.ext x5
  try dsimp only
  generalize upd H4 rg (.rng k2) = H5 at hr5 hS5
  refine ⟨_, _, _, Drw a H5 w d ti tb dop dk (L + 1), Src.range hr5 (by lia), ?_⟩
  refine ⟨by lia, fun acc h => Drw.start hS5 h, fun acc i ys H' hj => ⟨hj.1, trivial, ?_⟩, ?_, ?_⟩
  · obtain ⟨_, _, _, cs, rfl, h5, _⟩ := hj; rw [vn_length, h5]; exact Nat.le_refl _
  · intro acc C i v ys H' hi hP hj hCa hHC
    refine Wts_nil ?_
    refine ift rfl ?_
    refine x1_1 hj.2.2.1.k ?_; intro ds3 hk3
    have hcell := hj.2.2.1.c
    refine We_BinOp ?_
    refine We_Int ?_
    refine We_callK O K.d.d_x_law_draw.glob K.d.d_x_law_draw.fn.keep ?_
    refine Wargs_c ?_
    refine We_Cell (c := L + 1) (by repeat (first | with_reducible assumption | with_reducible exact upd_same | with_reducible refine upd_other (by first | assumption | exact Ne.symm (by assumption)) ?_)) ?_
    refine Wargs_c ?_
    refine We_Int ?_
    refine Wargs_nil ?_
    refine Wcall_of ?_
    refine law_draw O K (n := n) (R1.le (by lia)) hk3 (by decide) (fun _ => rfl) ?_
    intro r ds4 H6 hr0 hr3 hk4 hB6
    refine W_add ?_
    exact hj.next hr0 hr3 hk4 hB6
  intro long ys H' hacc hq2
  obtain ⟨ha, hsd, hS6, cs2, rfl, hcl2, hc32⟩ := hq2
  have hcs2 : cs2 ≠ [] := fun e => by rw [e] at hcl2; simp at hcl2; lia
  clear hr5 hS5 x5 hrg hrgL hS4 hk1 hk2 hB4 hcell
  refine x1_1 hS6.k ?_; intro ds1 hk1
  have hcell := hS6.c
  try dsimp only
  refine Ws_cons ?_
  refine Wst_If ?_
  refine Wb_Not ?_
  refine Wb_value ?_
  refine We_Subscript ?_
  refine We_callK O K.d.d_x_law_is_bounded.glob K.d.d_x_law_is_bounded.fn.keep ?_
  refine Wargs_l (by walk_at "v") ?_
  refine Wargs_l (by walk_at "v") ?_
  refine Wargs_c ?_
  refine We_BinOp ?_
  refine We_Int ?_
  refine We_callK O K.d.d_x_law_draw.glob K.d.d_x_law_draw.fn.keep ?_
  refine Wargs_c ?_
  refine We_Cell (c := L + 1) (by repeat (first | with_reducible assumption | with_reducible exact upd_same | with_reducible refine upd_other (by first | assumption | exact Ne.symm (by assumption)) ?_)) ?_
  refine Wargs_c ?_
  refine We_Int ?_
  refine Wargs_nil ?_
  refine Wcall_of ?_
  refine law_draw O K (n := n) (R1.le (by lia)) hk1 (by decide) (fun _ => rfl) ?_
  intro r ds2 H7 hr0 hr3 hk2 hB7
  have hS7 := hS6.draw hB7 hk2
  have ha7 := hB7 _ _ hsd ha
  obtain ⟨m2, hm2e, hm2l⟩ : ∃ m2 : Nat, 1 + r = (m2 : Int) ∧ m2 ≤ 5 := ⟨(1 + r).toNat, by lia, by lia⟩
  refine W_add ?_
  rw [hm2e]
  refine Wargs_c ?_
  refine We_Bool ?_
  refine Wargs_nil ?_
  refine Wcall_of ?_
  refine x1_1 hS7.n ?_; intro s7 hn7
  refine law_is_bounded O K I (n := n) (R1.le (by lia)) hS7.w hn7 ha7 hcs2 (by lia) hc32 (by lia) ?_
  intro tp2 x2 y2 t2 t2' dd2 s10 H10 hB10 hL10 hd10 htp2 _ _ _ _ _ _ _
  have hS10 := hS7.bounded hB10 hL10 hd10
  refine We_Int ?_
  refine W_item_tuple htp2 (by decide) (by decide) (x := .bool true) rfl ?_
  refine W_truthy_bool ?_
  refine iff_ (by decide) ?_
  refine Ws_nil ?_
  refine Ws_ret ?_
  refine We_Subscript ?_
  refine We_callK O K.d.d_x_law_is_bounded.glob K.d.d_x_law_is_bounded.fn.keep ?_
  refine Wargs_l (by walk_at "v") ?_
  refine Wargs_c ?_
  refine We_List ?_
  refine Wargs_c ?_
  refine We_Int ?_
  refine Wargs_c ?_
  refine We_Int ?_
  refine Wargs_c ?_
  refine We_Int ?_
  refine Wargs_c ?_
  refine We_Int ?_
  refine Wargs_nil ?_
  refine ⟨Nat.le_of_ble_eq_true rfl, fun l3 hl3 hl3L => ?_⟩
  have x11 : Ext H10 (upd H10 l3 (.list false [.int 3 0, .int 3 0, .int 3 0, .int 3 0])) := Ext.new hl3
  have hS11 := hS10.ext x11
  have hl311 : upd H10 l3 (.list false [.int 3 0, .int 3 0, .int 3 0, .int 3 0]) l3 = some (.list false (vn [3, 3, 3, 3])) := upd_same
  refine Wargs_c ?_
  refine We_Int ?_
  refine Wargs_c ?_
  refine We_Bool ?_
  refine Wargs_nil ?_
  refine Wcall_of ?_
  refine x1_1 hS11.n ?_; intro s11 hn11
  refine law_is_bounded O K I (n := n) (last := 3) (R1.le (by lia)) hS11.w hn11 hl311 (by simp) (by simp) (by simp) (by lia) ?_
  intro tp3 x3 y3 t3 t3' dd3 s12 H12 hB12 hL12 hd12 htp3 _ _ _ _ _ _ _
  refine We_Int ?_
  refine W_item_tuple htp3 (by decide) (by decide) (x := .bool true) rfl ?_
  rfl

end -- MC29

section -- MG1
set_option maxRecDepth 20000

theorem ints_vi : ∀ {vs : List Value} {ns : List Int}, IntsAre vs ns → vs.map er = vi ns
  | [], [], _ => rfl
  | _, _, .cons n t h => by
    rw [List.map_cons, ints_vi h]; rfl

/-- the call of the law -/
theorem law_any {w : World} {K : Frag} {p : Program} {loose : List Str} {mg mb : Str → Option Value} {s : Shared} {fa sc : Addr} {vs : List Value} {ns : List Int} (a : KA) (hp : Program)
    (KX : K.In s.heap) (T : TopRead p loose mg mb s.heap) (hKF : KF ⟨hp, w, K, s.heap, p, loose, mg, mb⟩ a) (hKI : KI ⟨hp, w, K, s.heap, p, loose, mg, mb⟩ a) (hmg : mg "law" = some (.ref fa)) (hL : s.heap.IsList sc vs.toArray) (hI : IntsAre vs ns) (hz : ns.length ≤ 1000000)
    {Q : Value → Shared → Prop} (q : ∀ s', (∃ h tk, s' = { s with heap := h, toks := tk }) → (∀ b o, s.heap.get? b = some o → s'.heap.get? b = some o) → Q (.bool true) s') : wpAny (model hp w) callerA (call (.ref fa) [.ref sc]) Q (fun _ _ => False) s := by
  have O : Gl.Ok ⟨hp, w, K, s.heap, p, loose, mg, mb⟩ := ⟨KX, T⟩
  have h1 : mg "law" = some (.ref a.f_law) := mg_of O.kin O.top.g hKF.d.d_law.glob
  obtain rfl : fa = a.f_law := by rw [hmg] at h1; cases h1; rfl
  have R : Rm callerA (0 + 300) := ⟨rfl, by decide, by decide⟩
  have hW := law_is O hKF hKI (n := 0) R (H := fun _ => none) (sc := sc) (ns := ns) ⟨vs.toArray, hL, by simpa using ints_vi hI⟩ hz
  refine wpAny_call (codeAny_mono (hW s [.ref sc] rfl ⟨Nat.le_refl _, fun b o e => e, fun a o e => by cases e⟩) ?_)
  intro r s' z
  rcases r with e | f
  · exact z.elim
  · cases f <;> first | exact z.elim | skip
    refine x1_3 z ?_; (try clear z); intro H' h' o hr
    rw [er_bool hr]
    exact q s' o.sh fun b ob e => (o.keep b ob (by intro q; cases q) rfl e).2

theorem walk {q : Program} {K : Params → Frag} {as : List Addr} {e : ∀ P, as = (K P).map (·.1)} {loose : List Str} {XP : (Str → Option Value) → Heap → Prop} {d : DefRec} {kwd : List (Str × PySem.Expr)} (a : KA) (hdn : d.name = "law")
    (hK : ∀ (G : Gl) (P : Params), G.K = K P → KF G a ∧ KI G a) : WalkO q loose XP (kHook K as e).says PySem.Challenge.rw_pq1032_01.row.toRowW d kwd (fun f vs => call f vs) := by
  intro w s₀ s₁ mg mb GG Y fa o pm cd doc dV kV ho hd hcd hD hmg hg args vals as hpre hlay hrd hwl hlo
  have KX := kIn_of Y
  refine Ground.open GG ?_
  intro T B D TE TW
  wrow_args hpre hlay hrd hwl hlo
  rename_i ns _ _ _ _ _ _ _ sc vs _ hL _ _ _ hI _ hlen _
  rw [hdn] at hmg
  obtain ⟨hKF, hKI⟩ := hK ⟨_, w, K w.params, s₁.heap, q, looseW q loose, mg, mb⟩ w.params rfl
  refine wpAny_mono (law_any a _ KX (topRead_of T) hKF hKI hmg hL hI (by lia) (Q := fun v s' => v = .bool true ∧ (∃ h tk, s' = { s₁ with heap := h, toks := tk }) ∧ ∀ b o, s₁.heap.get? b = some o → s'.heap.get? b = some o) fun s' h1 h2 => ⟨rfl, h1, h2⟩) ?_ fun _ _ x => x.elim
  intro v s' hq1
  refine x0_3 hq1 ?_; (try clear hq1); intro rfl hq2 kp
  refine x2_1 hq2 ?_; (try clear hq2); intro h tk rfl
  exact GoodW.toG ⟨.inl ⟨_, .bool true, [], rfl, fun _ => rfl, .bool true, (by with_unfolding_all rfl), fun _ => ⟨List.nodup_nil, fun a h => by cases h⟩⟩, kp, rfl, hg⟩

end -- MG1

noncomputable def ka : KA := { cConst := 66, cLocal := 85, cGlobal := 104, cLambda := 184, cCall := 217, cRenaming := 330, cSymbolTable := 449, cFacts := 695, cSpreading := 744, cFitting := 772, cSmall := 814, cNames := 905, fNode_parts := 35, fNode_with_parts := 42, fConst_init := 63, fLocal_init := 82, fGlobal_init := 101, fLambda_init := 153, fLambda_parts := 160, fLambda_with_parts := 167, fLambda_binders := 174, fLambda_takes := 181, fCall_init := 200, fCall_parts := 207, fCall_with_parts := 214, fRenaming_init := 308, fRenaming_local := 315, fRenaming_label := 322, fRenaming_turned := 327, fSymbolTable_init := 404, fFacts_init := 650, fFacts_is_set := 657, fFacts_times_read := 671, fFacts_times_called := 678, fFacts_meet := 692, fSpreading_init := 734, fSpreading_turned := 741, fFitting_init := 762, fFitting_turned := 769, fSmall_init := 797, fSmall_is_fit := 804, fSmall_turned := 811, fNames_init := 839, fNames_fresh := 846, f_binders_of := 259, f_are_same_list := 266, f_rebuilt := 273, f_all_nodes := 280, f_let_node := 287, f_is_let := 294, f_renumbered := 341, f_without_locals := 348, f_count_in := 706, f_note_node := 713, f_facts_of := 720, f_is_small := 783, f_spread_small := 825, f_x_law_draw := 916, f_x_law_deck_of := 921, f_x_law_chain := 935, f_x_law_value_of := 940, f_x_law_are_once := 945, f_x_law_is_bounded := 952, f_law := 957 }
end
end Mine
namespace Mine.hd
theorem tw6818987989461384207 : True := ⟨⟩
theorem tw2845207389951388047 : True := ⟨⟩
theorem tw5322579261384874668 : True := ⟨⟩
theorem tw17087091549796120035 : True := ⟨⟩
theorem tw6924109203229866365 : True := ⟨⟩
theorem tw13047593935725612058 : True := ⟨⟩
theorem tw8587404781116728655 : True := ⟨⟩
theorem tw13293453174229064190 : True := ⟨⟩
theorem tw7519716089354478335 : True := ⟨⟩
theorem tw14892549342360969540 : True := ⟨⟩
theorem tw978945382295711627 : True := ⟨⟩
theorem tw7523672394736509286 : True := ⟨⟩
theorem tw11034497122203965937 : True := ⟨⟩
theorem tw6293948785866598258 : True := ⟨⟩
theorem tw5961118342813265553 : True := ⟨⟩
theorem tw18185175575083235020 : True := ⟨⟩
theorem tw17325209927041812611 : True := ⟨⟩
theorem tw11128854368766332075 : True := ⟨⟩
theorem tw12591134339009171964 : True := ⟨⟩
theorem tw4138081844389336918 : True := ⟨⟩
theorem tw17076082267592564974 : True := ⟨⟩
theorem tw3722166409189360004 : True := ⟨⟩
theorem tw4377701919642642989 : True := ⟨⟩
theorem tw9215827820722605749 : True := ⟨⟩
theorem tw4367455430839740993 : True := ⟨⟩
theorem tw10216474801634566288 : True := ⟨⟩
theorem tw12480425521718506038 : True := ⟨⟩
theorem tw5148922909946612681 : True := ⟨⟩
theorem tw12414669353804360901 : True := ⟨⟩
theorem tw5781342201191254626 : True := ⟨⟩
theorem tw17711083657039698284 : True := ⟨⟩
theorem tw5732804406350252772 : True := ⟨⟩
theorem tw1452849714261714991 : True := ⟨⟩
theorem tw16302227732802510677 : True := ⟨⟩
theorem tw14620637471214046174 : True := ⟨⟩
theorem tw12038256508788140161 : True := ⟨⟩
theorem tw137786328141462057 : True := ⟨⟩
theorem tw14176624398918483544 : True := ⟨⟩
theorem tw12995909851351757392 : True := ⟨⟩
theorem tw15179676742415161110 : True := ⟨⟩
theorem tw6990203504111849199 : True := ⟨⟩
theorem tw10752148897807903841 : True := ⟨⟩
theorem tw2867327485932766208 : True := ⟨⟩
theorem tw16649331688326792143 : True := ⟨⟩
theorem tw11652457597714270106 : True := ⟨⟩
theorem tw3259873300814134281 : True := ⟨⟩
theorem tw697623264460660564 : True := ⟨⟩
theorem tw7793673504863384051 : True := ⟨⟩
theorem tw17312999752573914782 : True := ⟨⟩
theorem tw13372043803930879067 : True := ⟨⟩
theorem tw4856431653887292112 : True := ⟨⟩
theorem tw6046454685291232161 : True := ⟨⟩
theorem tw10543509907540572799 : True := ⟨⟩
theorem tw8684328023851190084 : True := ⟨⟩
theorem tw15427206886491885616 : True := ⟨⟩
theorem tw7752569895197466512 : True := ⟨⟩
theorem tw10507497572311344420 : True := ⟨⟩
theorem tw18322514126500204803 : True := ⟨⟩
theorem tw6838551448383532254 : True := ⟨⟩
theorem tw18241275227582772068 : True := ⟨⟩
theorem tw5592360268479517082 : True := ⟨⟩
theorem tw9077708301081682751 : True := ⟨⟩
theorem tw17471934795394947791 : True := ⟨⟩
theorem tw13994979335412520660 : True := ⟨⟩
theorem tw1847840615245081061 : True := ⟨⟩
theorem tw13066319289922817542 : True := ⟨⟩
theorem tw17772917993097084435 : True := ⟨⟩
theorem tw8047900516022102942 : True := ⟨⟩
theorem tw368366308016060594 : True := ⟨⟩
theorem tw8671608845466749128 : True := ⟨⟩
theorem tw14896477498954680388 : True := ⟨⟩
theorem tw8343274005884668182 : True := ⟨⟩
theorem tw1445366717492459972 : True := ⟨⟩
theorem tw6998783941825042932 : True := ⟨⟩
theorem tw4724112764586752083 : True := ⟨⟩
theorem tw12509009523430927325 : True := ⟨⟩
theorem tw9087110039335098043 : True := ⟨⟩
theorem tw9571369944969941477 : True := ⟨⟩
theorem tw16772102934027710169 : True := ⟨⟩
theorem tw12936449754285732098 : True := ⟨⟩
theorem tw16301592386811335294 : True := ⟨⟩
theorem tw16332348944364537037 : True := ⟨⟩
theorem tw18087722134493236510 : True := ⟨⟩
theorem tw11915594877312485397 : True := ⟨⟩
theorem tw10012880186880212623 : True := ⟨⟩
theorem tw17577478241444706838 : True := ⟨⟩
theorem tw17583924267553061668 : True := ⟨⟩
theorem tw7540741092611519060 : True := ⟨⟩
theorem tw3763122126050802206 : True := ⟨⟩
theorem tw8053944837975664402 : True := ⟨⟩
theorem tw17495340751864218003 : True := ⟨⟩
theorem tw6528754448969337418 : True := ⟨⟩
theorem tw5010264101278932077 : True := ⟨⟩
theorem tw9073681462420916055 : True := ⟨⟩
theorem tw14598272352848978880 : True := ⟨⟩
theorem tw9429285754427346401 : True := ⟨⟩
theorem tw4299596416071116603 : True := ⟨⟩
theorem tw5373601922739893978 : True := ⟨⟩
theorem tw17447410573909459338 : True := ⟨⟩
theorem tw8770205317985620760 : True := ⟨⟩
theorem tw7540655947842036084 : True := ⟨⟩
theorem tw7854228177987924090 : True := ⟨⟩
theorem tw14353793391729792155 : True := ⟨⟩
theorem tw4990156530697904881 : True := ⟨⟩
theorem tw4014540891139286612 : True := ⟨⟩
theorem tw8912348807662434688 : True := ⟨⟩
theorem tw7080932558258925280 : True := ⟨⟩
theorem tw7746578258024575070 : True := ⟨⟩
theorem tw13064122474441708322 : True := ⟨⟩
theorem tw5282504435634884242 : True := ⟨⟩
theorem tw11893437276241958245 : True := ⟨⟩
theorem tw11953376511379268794 : True := ⟨⟩
theorem tw1382963296337349011 : True := ⟨⟩
theorem tw4867443594122359892 : True := ⟨⟩
theorem tw3182187488490625086 : True := ⟨⟩
theorem tw18300207936620678264 : True := ⟨⟩
theorem tw15368132723985388332 : True := ⟨⟩
theorem tw13518370688599389936 : True := ⟨⟩
theorem tw5363564295841288755 : True := ⟨⟩
theorem tw5562173858411828344 : True := ⟨⟩
theorem tw11037278301008091258 : True := ⟨⟩
theorem tw13919464512627920130 : True := ⟨⟩
theorem tw7891253978561527248 : True := ⟨⟩
theorem tw5278057926702712004 : True := ⟨⟩
theorem tw13903934854276604550 : True := ⟨⟩
theorem tw3443669649825651883 : True := ⟨⟩
theorem tw6423634429210846174 : True := ⟨⟩
theorem tw18160293313031310949 : True := ⟨⟩
theorem tw3915529967508079626 : True := ⟨⟩
theorem tw6545403380812914513 : True := ⟨⟩
theorem tw4817003022231809500 : True := ⟨⟩
theorem tw7698358502638924378 : True := ⟨⟩
theorem tw3480954088277226078 : True := ⟨⟩
theorem tw14006173549557618073 : True := ⟨⟩
theorem tw16635604280276938560 : True := ⟨⟩
theorem tw16502264421070913907 : True := ⟨⟩
theorem tw526207354791536317 : True := ⟨⟩
theorem tw3649758429140192277 : True := ⟨⟩
theorem tw11912922877643110818 : True := ⟨⟩
theorem tw9271970288684553227 : True := ⟨⟩
theorem tw8081886968326746073 : True := ⟨⟩
theorem tw13609717118414637909 : True := ⟨⟩
theorem tw6636792957720756321 : True := ⟨⟩
theorem tw12173100003817136821 : True := ⟨⟩
theorem tw7082855905992002993 : True := ⟨⟩
theorem tw14400467628812073631 : True := ⟨⟩
theorem tw4115565904173853331 : True := ⟨⟩
theorem tw13566260322249332789 : True := ⟨⟩
theorem tw6761669909254768831 : True := ⟨⟩
theorem tw10273187271170590260 : True := ⟨⟩
theorem tw10111801491309104144 : True := ⟨⟩
theorem tw6982297934935202809 : True := ⟨⟩
theorem tw4768578896829404305 : True := ⟨⟩
theorem tw17454471701868102899 : True := ⟨⟩
theorem tw13574768056931433239 : True := ⟨⟩
theorem tw2871226400543044806 : True := ⟨⟩
theorem tw5715356086224469760 : True := ⟨⟩
theorem tw7721951785955056133 : True := ⟨⟩
theorem tw5391431472348687022 : True := ⟨⟩
theorem tw7792395482447073224 : True := ⟨⟩
theorem tw7626941382939369770 : True := ⟨⟩
theorem tw14294001040229213422 : True := ⟨⟩
theorem tw7510230149288206974 : True := ⟨⟩
theorem tw8493152586797012548 : True := ⟨⟩
theorem tw2502866573005156581 : True := ⟨⟩
theorem tw12901994302517312135 : True := ⟨⟩
theorem tw6819123309680001836 : True := ⟨⟩
theorem tw1299046323782801668 : True := ⟨⟩
theorem tw5987830557187376847 : True := ⟨⟩
theorem tw17901334829092211166 : True := ⟨⟩
theorem tw2195365466389143174 : True := ⟨⟩
theorem tw5555242405213081108 : True := ⟨⟩
theorem tw13225837485096350037 : True := ⟨⟩
theorem tw7628703163842673926 : True := ⟨⟩
theorem tw16037735763661986305 : True := ⟨⟩
theorem tw9516743096105243765 : True := ⟨⟩
theorem tw3759623122121258479 : True := ⟨⟩
theorem tw12232750017996463310 : True := ⟨⟩
theorem tw13218659294841961345 : True := ⟨⟩
theorem tw5873113503399164460 : True := ⟨⟩
theorem tw1088296927520436173 : True := ⟨⟩
theorem tw1865391376527767206 : True := ⟨⟩
theorem tw17088047866570459193 : True := ⟨⟩
theorem tw11399449904127653305 : True := ⟨⟩
theorem tw8545014587354053640 : True := ⟨⟩
theorem tw9427301549700849589 : True := ⟨⟩
theorem tw9421340871869096474 : True := ⟨⟩
theorem tw12757207438249819478 : True := ⟨⟩
theorem tw7610815399733428385 : True := ⟨⟩
theorem tw7292484366425897655 : True := ⟨⟩
theorem tw4136554803537287180 : True := ⟨⟩
theorem tw16053994301053490033 : True := ⟨⟩
theorem tw701787995468756871 : True := ⟨⟩
theorem tw12050417470231563642 : True := ⟨⟩
theorem tw7914949630228597729 : True := ⟨⟩
theorem tw13474097485772985973 : True := ⟨⟩
theorem tw7676003278276379012 : True := ⟨⟩
theorem tw4292457097857839397 : True := ⟨⟩
theorem tw2520547789009102003 : True := ⟨⟩
theorem tw11672842613191775419 : True := ⟨⟩
theorem tw3922637787740509324 : True := ⟨⟩
theorem tw10844753989422098599 : True := ⟨⟩
theorem tw190519026028168232 : True := ⟨⟩
theorem tw16056359734778111409 : True := ⟨⟩
theorem tw11623594800819314181 : True := ⟨⟩
theorem tw920214292312260371 : True := ⟨⟩
theorem tw8773699223549846113 : True := ⟨⟩
theorem tw17420951861521290806 : True := ⟨⟩
theorem tw5978321128707920903 : True := ⟨⟩
theorem tw6060742912462422084 : True := ⟨⟩
theorem tw1851346269716277005 : True := ⟨⟩
theorem tw2457190517430149469 : True := ⟨⟩
theorem tw1118553966540926140 : True := ⟨⟩
theorem tw8965841893048198262 : True := ⟨⟩
theorem tw2263123870574935043 : True := ⟨⟩
theorem tw9783614193127449063 : True := ⟨⟩
theorem tw14586822029978311858 : True := ⟨⟩
theorem tw13483081372092288885 : True := ⟨⟩
theorem tw8977307856219701671 : True := ⟨⟩
theorem tw4706079058837389440 : True := ⟨⟩
theorem tw14060154772996877548 : True := ⟨⟩
theorem tw13578628004930511319 : True := ⟨⟩
theorem tw17335414052712997756 : True := ⟨⟩
theorem tw8727321023445011275 : True := ⟨⟩
theorem tw7654286748164834634 : True := ⟨⟩
theorem tw6352655612330318208 : True := ⟨⟩
theorem tw9244321171653502345 : True := ⟨⟩
theorem tw2274498078352570744 : True := ⟨⟩
theorem tw8538877666451538035 : True := ⟨⟩
theorem tw4993660671451451078 : True := ⟨⟩
theorem tw11729958736954745289 : True := ⟨⟩
theorem tw3085183777334472315 : True := ⟨⟩
theorem tw2134215046882385847 : True := ⟨⟩
theorem tw5318216170032084099 : True := ⟨⟩
theorem tw1129884963351977449 : True := ⟨⟩
theorem tw1563692795949630186 : True := ⟨⟩
theorem tw5716766192118558609 : True := ⟨⟩
theorem tw7085514621470718492 : True := ⟨⟩
theorem tw16006246977917349235 : True := ⟨⟩
theorem tw6830512106363814048 : True := ⟨⟩
theorem tw13855946660403688772 : True := ⟨⟩
theorem tw5245234834050458271 : True := ⟨⟩
theorem tw7541792107247259296 : True := ⟨⟩
theorem tw10258999931320997221 : True := ⟨⟩
theorem tw13534587687697041467 : True := ⟨⟩
theorem tw10170382586518783626 : True := ⟨⟩
theorem tw2284436838669742495 : True := ⟨⟩
theorem tw15963624873386084050 : True := ⟨⟩
theorem tw15166520500009309586 : True := ⟨⟩
theorem tw8351282476255451920 : True := ⟨⟩
theorem tw17574625026820762457 : True := ⟨⟩
theorem tw12767517992797551901 : True := ⟨⟩
theorem tw16794629799341752650 : True := ⟨⟩
theorem tw11011131195910976488 : True := ⟨⟩
theorem tw7941745277869089046 : True := ⟨⟩
theorem tw3434918251397683217 : True := ⟨⟩
theorem tw17740048764370220076 : True := ⟨⟩
theorem tw16227762859984022837 : True := ⟨⟩
theorem tw4225703048834024713 : True := ⟨⟩
theorem tw1584506945513601688 : True := ⟨⟩
theorem tw2276098100821748038 : True := ⟨⟩
theorem tw9557236495431379559 : True := ⟨⟩
theorem tw9753359207989701909 : True := ⟨⟩
theorem tw4172343393113369950 : True := ⟨⟩
theorem tw7366208706002141716 : True := ⟨⟩
theorem tw4015398097383911347 : True := ⟨⟩
theorem tw12393119488966705847 : True := ⟨⟩
theorem tw16945582573551092051 : True := ⟨⟩
theorem tw1425423193147277237 : True := ⟨⟩
theorem tw2752831430858556228 : True := ⟨⟩
theorem tw3828038474966422129 : True := ⟨⟩
theorem tw17386561741084979693 : True := ⟨⟩
theorem tw10098268173465320503 : True := ⟨⟩
theorem tw15987713032478767096 : True := ⟨⟩
theorem tw8004679753235328684 : True := ⟨⟩
theorem tw881544763273948857 : True := ⟨⟩
theorem tw12058812876911547015 : True := ⟨⟩
theorem tw17130151131035750659 : True := ⟨⟩
theorem tw14040608126747316905 : True := ⟨⟩
theorem tw16853341256802265648 : True := ⟨⟩
theorem tw2595994805191909183 : True := ⟨⟩
theorem tw13217225542625558698 : True := ⟨⟩
theorem tw18330183385023645277 : True := ⟨⟩
theorem tw9386895884608548742 : True := ⟨⟩
theorem tw11213053971927718326 : True := ⟨⟩
theorem tw9325612240067072397 : True := ⟨⟩
theorem tw1588505670450824345 : True := ⟨⟩
theorem tw4523669819894539328 : True := ⟨⟩
theorem tw15527848837575444561 : True := ⟨⟩
theorem tw14768889098011018680 : True := ⟨⟩
theorem tw14772383043592177042 : True := ⟨⟩
theorem tw1511243299971373483 : True := ⟨⟩
theorem tw3381375190539634487 : True := ⟨⟩
theorem tw9627899436633539337 : True := ⟨⟩
theorem tw17986969038992634876 : True := ⟨⟩
theorem tw13828106393651249627 : True := ⟨⟩
theorem tw17588044629489971554 : True := ⟨⟩
theorem tw10727248033764811480 : True := ⟨⟩
theorem tw2000490053193787569 : True := ⟨⟩
theorem tw16009884308244765898 : True := ⟨⟩
theorem tw14859038896228082724 : True := ⟨⟩
theorem tw4851647983119433812 : True := ⟨⟩
theorem tw6186238094035137676 : True := ⟨⟩
theorem tw16138627921320673191 : True := ⟨⟩
theorem tw15508949281206285077 : True := ⟨⟩
theorem tw10944956837784636368 : True := ⟨⟩
theorem tw4725425184044842548 : True := ⟨⟩
theorem tw17172931820748874959 : True := ⟨⟩
theorem tw2304311442786299043 : True := ⟨⟩
theorem tw4272726840584523970 : True := ⟨⟩
theorem tw3109861748172591687 : True := ⟨⟩
theorem tw16257038226119295666 : True := ⟨⟩
theorem tw12487502673411948298 : True := ⟨⟩
theorem tw16828841361933241965 : True := ⟨⟩
theorem tw17737187407176874954 : True := ⟨⟩
theorem tw15083628210047938546 : True := ⟨⟩
theorem tw9390866547671247325 : True := ⟨⟩
theorem tw6196171512934965099 : True := ⟨⟩
theorem tw17950676927832955104 : True := ⟨⟩
theorem tw11415386828835887437 : True := ⟨⟩
theorem tw13642289790063256904 : True := ⟨⟩
theorem tw6679266806504041263 : True := ⟨⟩
theorem tw6898005170327248138 : True := ⟨⟩
theorem tw10458740792067480800 : True := ⟨⟩
theorem tw128412058910260475 : True := ⟨⟩
theorem tw12685813987229840507 : True := ⟨⟩
theorem tw3219085151875037572 : True := ⟨⟩
theorem tw4449123307109862055 : True := ⟨⟩
theorem tw15833661619300960221 : True := ⟨⟩
theorem tw12112201142124510154 : True := ⟨⟩
theorem tw8044012406986999415 : True := ⟨⟩
theorem tw8589211134812392127 : True := ⟨⟩
theorem tw5715734110848049390 : True := ⟨⟩
theorem tw12394076208661396346 : True := ⟨⟩
theorem tw13038990169509382042 : True := ⟨⟩
theorem tw17213754286329925777 : True := ⟨⟩
theorem tw4643362625855044894 : True := ⟨⟩
theorem tw14333710738500927179 : True := ⟨⟩
theorem tw16091413853298234908 : True := ⟨⟩
theorem tw2616952524820836436 : True := ⟨⟩
theorem tw13931416462566266981 : True := ⟨⟩
theorem tw4582214911144424667 : True := ⟨⟩
theorem tw7515886511687920896 : True := ⟨⟩
theorem tw10531373872144210542 : True := ⟨⟩
theorem tw16904818350239718627 : True := ⟨⟩
theorem tw1712922718373300912 : True := ⟨⟩
theorem tw9013056391748086436 : True := ⟨⟩
theorem tw11434409384045074295 : True := ⟨⟩
theorem tw2371736936440567457 : True := ⟨⟩
theorem tw6820862383352777685 : True := ⟨⟩
theorem tw402640490398009360 : True := ⟨⟩
theorem tw2951005344575393816 : True := ⟨⟩
theorem tw8716120427605611371 : True := ⟨⟩
theorem tw15837987909243819085 : True := ⟨⟩
theorem tw8960069828448710407 : True := ⟨⟩
theorem tw7120233287515763914 : True := ⟨⟩
theorem tw12364972598781006883 : True := ⟨⟩
theorem tw7763873220885509757 : True := ⟨⟩
theorem tw5138769234217329475 : True := ⟨⟩
theorem tw6882427118574961969 : True := ⟨⟩
theorem tw6276725880618359904 : True := ⟨⟩
theorem tw991583007596301734 : True := ⟨⟩
theorem tw11472165163037031739 : True := ⟨⟩
theorem tw15279998641719260112 : True := ⟨⟩
theorem tw17989097746536338734 : True := ⟨⟩
theorem tw5505005885091257285 : True := ⟨⟩
theorem tw6780557218761844654 : True := ⟨⟩
theorem tw18293851220164018083 : True := ⟨⟩
theorem tw3789350110615891812 : True := ⟨⟩
theorem tw1936894748134917147 : True := ⟨⟩
theorem tw7691918140598264929 : True := ⟨⟩
theorem tw13466754112058979494 : True := ⟨⟩
theorem tw9631708518359487223 : True := ⟨⟩
theorem tw10788059911547816233 : True := ⟨⟩
theorem tw4478166936697009375 : True := ⟨⟩
theorem tw15048261121198461528 : True := ⟨⟩
theorem tw17491280204586788870 : True := ⟨⟩
theorem tw1589133516308662214 : True := ⟨⟩
theorem tw15643275761693703936 : True := ⟨⟩
theorem tw10781468475247234061 : True := ⟨⟩
theorem tw11749099774412794130 : True := ⟨⟩
theorem tw5433107678231618845 : True := ⟨⟩
theorem tw3573271700362546186 : True := ⟨⟩
theorem tw11852641145169952659 : True := ⟨⟩
theorem tw10210669037155785340 : True := ⟨⟩
theorem tw5174551420813472067 : True := ⟨⟩
theorem tw10259988299927297344 : True := ⟨⟩
theorem tw2444467877567494794 : True := ⟨⟩
theorem tw15675198926951892251 : True := ⟨⟩
theorem tw1610171440888473627 : True := ⟨⟩
theorem tw9170477692918782315 : True := ⟨⟩
theorem tw4478177076189095293 : True := ⟨⟩
theorem tw18103342009636024947 : True := ⟨⟩
theorem tw1535757262459896012 : True := ⟨⟩
theorem tw6136932545381038964 : True := ⟨⟩
theorem tw15967140613478806237 : True := ⟨⟩
theorem tw16194383521188589630 : True := ⟨⟩
theorem tw1699103778626983548 : True := ⟨⟩
theorem tw432457690288141553 : True := ⟨⟩
theorem tw1736311965527578767 : True := ⟨⟩
theorem tw189712035060473897 : True := ⟨⟩
theorem tw11210553801493137410 : True := ⟨⟩
theorem tw13220430256171166289 : True := ⟨⟩
theorem tw11507959949525687343 : True := ⟨⟩
theorem tw17387473266821786944 : True := ⟨⟩
theorem tw6123773746684550334 : True := ⟨⟩
theorem tw13285133528070534704 : True := ⟨⟩
theorem tw3173010612589774626 : True := ⟨⟩
theorem tw1413172679324656950 : True := ⟨⟩
theorem tw15591429051563716170 : True := ⟨⟩
theorem tw15238134620097496406 : True := ⟨⟩
theorem tw663384727985864361 : True := ⟨⟩
theorem tw13160604113216922460 : True := ⟨⟩
theorem tw9719896912496429819 : True := ⟨⟩
theorem tw5902613922787404954 : True := ⟨⟩
theorem tw9908193460736022307 : True := ⟨⟩
theorem tw442638132926106271 : True := ⟨⟩
theorem tw16919406825032445293 : True := ⟨⟩
theorem tw11115866451450875312 : True := ⟨⟩
theorem tw102014493982917126 : True := ⟨⟩
theorem tw17470177872615007328 : True := ⟨⟩
theorem tw825126770350376351 : True := ⟨⟩
theorem tw10841399608879689956 : True := ⟨⟩
theorem tw11713075325732132258 : True := ⟨⟩
theorem tw8428860471423672150 : True := ⟨⟩
theorem tw8210421348078903774 : True := ⟨⟩
theorem tw3920623390966001496 : True := ⟨⟩
theorem tw9731375825926819010 : True := ⟨⟩
theorem tw14567429538950270057 : True := ⟨⟩
theorem tw1580110805410547442 : True := ⟨⟩
theorem tw14743440263598761229 : True := ⟨⟩
theorem tw2295870552580634182 : True := ⟨⟩
theorem tw10583446816852156582 : True := ⟨⟩
theorem tw6957150274394394060 : True := ⟨⟩
theorem tw10030107230732127627 : True := ⟨⟩
theorem tw12949589719889679912 : True := ⟨⟩
theorem tw250903467453971090 : True := ⟨⟩
theorem tw8268277133935991078 : True := ⟨⟩
theorem tw14955159897011116063 : True := ⟨⟩
theorem tw8242931771332617035 : True := ⟨⟩
theorem tw1033889070964956483 : True := ⟨⟩
theorem tw3419581819265744254 : True := ⟨⟩
theorem tw10024716035694756283 : True := ⟨⟩
theorem tw3941438180925939637 : True := ⟨⟩
theorem tw10404513684093684653 : True := ⟨⟩
theorem tw7076163891533521732 : True := ⟨⟩
theorem tw10246146449241189800 : True := ⟨⟩
theorem tw5167245352685981253 : True := ⟨⟩
theorem tw11052946933831473538 : True := ⟨⟩
theorem tw5130813555471234732 : True := ⟨⟩
theorem tw11364443708160879001 : True := ⟨⟩
theorem tw5983496337302601536 : True := ⟨⟩
theorem tw7512474625130614241 : True := ⟨⟩
theorem tw17157681369570327122 : True := ⟨⟩
theorem tw16259696140248634718 : True := ⟨⟩
theorem tw12590977762386282803 : True := ⟨⟩
theorem tw15089522573102190283 : True := ⟨⟩
theorem tw14683707025165767436 : True := ⟨⟩
theorem tw11917015161858427179 : True := ⟨⟩
theorem tw7382370116671421104 : True := ⟨⟩
theorem tw15924899543223041283 : True := ⟨⟩
theorem tw6879831473291441079 : True := ⟨⟩
theorem tw16154546982801380032 : True := ⟨⟩
theorem tw10292235466723388172 : True := ⟨⟩
theorem tw10286656452748174568 : True := ⟨⟩
theorem tw18166333605607142505 : True := ⟨⟩
theorem tw17895171251205151618 : True := ⟨⟩
theorem tw11513968764499736323 : True := ⟨⟩
theorem tw212345690472687942 : True := ⟨⟩
theorem tw16299908979028503884 : True := ⟨⟩
theorem tw1359830224848277088 : True := ⟨⟩
theorem tw12744807935193187038 : True := ⟨⟩
theorem tw11079593142295127227 : True := ⟨⟩
theorem tw11054480109507316185 : True := ⟨⟩
theorem tw11631947586910100387 : True := ⟨⟩
theorem tw2327210489368252092 : True := ⟨⟩
theorem tw14560493823538711346 : True := ⟨⟩
theorem tw2386827423013361158 : True := ⟨⟩
theorem tw100483095206116625 : True := ⟨⟩
theorem tw5480042469492414594 : True := ⟨⟩
theorem tw6627881031435992008 : True := ⟨⟩
theorem tw16634568088961857937 : True := ⟨⟩
theorem tw7379015992945566340 : True := ⟨⟩
theorem tw5388632664720090651 : True := ⟨⟩
theorem tw7174315439194531881 : True := ⟨⟩
theorem tw5629675986466331604 : True := ⟨⟩
theorem tw13790719812936386609 : True := ⟨⟩
theorem tw6164396464334811476 : True := ⟨⟩
theorem tw8770659054964912022 : True := ⟨⟩
theorem tw16598086639473574507 : True := ⟨⟩
theorem tw10919297434634762262 : True := ⟨⟩
theorem tw2315301623876862497 : True := ⟨⟩
theorem tw15637593595834871717 : True := ⟨⟩
theorem tw2101469004524951375 : True := ⟨⟩
theorem tw7240586211207864342 : True := ⟨⟩
theorem tw10847404155465417027 : True := ⟨⟩
theorem tw9702936160620672325 : True := ⟨⟩
theorem tw656455966557771466 : True := ⟨⟩
theorem tw16443024508289211202 : True := ⟨⟩
theorem tw14438451200097066615 : True := ⟨⟩
theorem tw7668181498733406534 : True := ⟨⟩
theorem tw15615537253650120727 : True := ⟨⟩
theorem tw6469175993241445255 : True := ⟨⟩
theorem tw7598622570094877466 : True := ⟨⟩
theorem tw4282359134580295075 : True := ⟨⟩
theorem tw15207398651663016943 : True := ⟨⟩
theorem tw8934143017859847078 : True := ⟨⟩
theorem tw6014424301940151174 : True := ⟨⟩
theorem tw8025032847418708242 : True := ⟨⟩
theorem tw12575139184659369484 : True := ⟨⟩
theorem tw15402555166999898440 : True := ⟨⟩
theorem tw6184208073178115725 : True := ⟨⟩
theorem tw15422856539912107476 : True := ⟨⟩
theorem tw11814627755841444246 : True := ⟨⟩
theorem tw464777395874653626 : True := ⟨⟩
theorem tw1013155817946168525 : True := ⟨⟩
theorem tw17330945745186091897 : True := ⟨⟩
theorem tw14137390275340422267 : True := ⟨⟩
theorem tw1409312971732116557 : True := ⟨⟩
theorem tw16970440968685349367 : True := ⟨⟩
theorem tw12690835874199464660 : True := ⟨⟩
theorem tw4870687313549177768 : True := ⟨⟩
theorem tw14120982254508448379 : True := ⟨⟩
theorem tw10004797160117703195 : True := ⟨⟩
theorem tw1666387254794493845 : True := ⟨⟩
theorem tw1011335219593555734 : True := ⟨⟩
theorem tw5292301768408028288 : True := ⟨⟩
theorem tw243823211424636713 : True := ⟨⟩
theorem tw5899666649113621702 : True := ⟨⟩
theorem tw6683769817339685419 : True := ⟨⟩
theorem tw4833718069199227053 : True := ⟨⟩
theorem tw162610821266807592 : True := ⟨⟩
theorem tw7006195865600381663 : True := ⟨⟩
theorem tw12659318050587179527 : True := ⟨⟩
theorem tw8609351116199087170 : True := ⟨⟩
theorem tw6965799899956892507 : True := ⟨⟩
theorem tw18093812233618175256 : True := ⟨⟩
theorem tw12399718760709695909 : True := ⟨⟩
theorem tw1222794163293265305 : True := ⟨⟩
theorem tw5054737718236178183 : True := ⟨⟩
theorem tw9763420282994701918 : True := ⟨⟩
theorem tw4360684699965382250 : True := ⟨⟩
theorem tw9155422001095189878 : True := ⟨⟩
theorem tw17893044597097874663 : True := ⟨⟩
theorem tw13267510147771200024 : True := ⟨⟩
theorem tw11032806212648032379 : True := ⟨⟩
theorem tw14906377314874228009 : True := ⟨⟩
theorem tw15042006015671813226 : True := ⟨⟩
theorem tw6931407450589930559 : True := ⟨⟩
theorem tw8112040973832200146 : True := ⟨⟩
theorem tw15910714762333108613 : True := ⟨⟩
theorem tw257007361410690125 : True := ⟨⟩
theorem tw16640546478005224243 : True := ⟨⟩
theorem tw8312999807965096350 : True := ⟨⟩
theorem tw17491317419825422843 : True := ⟨⟩
theorem tw18343703819029505601 : True := ⟨⟩
theorem tw17681399029576232318 : True := ⟨⟩
theorem tw10203026625882799534 : True := ⟨⟩
theorem tw16156708551869547534 : True := ⟨⟩
theorem tw9132557439983319658 : True := ⟨⟩
theorem tw9360783148688960015 : True := ⟨⟩
theorem tw2040990291671593033 : True := ⟨⟩
theorem tw8959176491354863721 : True := ⟨⟩
theorem tw7640094616464845771 : True := ⟨⟩
theorem tw12940713784782232206 : True := ⟨⟩
theorem tw8810149144160419634 : True := ⟨⟩
theorem tw689954013368505116 : True := ⟨⟩
theorem tw13783031573616600631 : True := ⟨⟩
theorem tw12900700647772717614 : True := ⟨⟩
theorem tw3484992998616243462 : True := ⟨⟩
theorem tw7023726343779634624 : True := ⟨⟩
theorem tw5511420028821071320 : True := ⟨⟩
theorem tw16178712458983371728 : True := ⟨⟩
theorem tw7152984921513172624 : True := ⟨⟩
theorem tw13315533130655954831 : True := ⟨⟩
theorem tw7880807054014371918 : True := ⟨⟩
theorem tw3309697970292668127 : True := ⟨⟩
theorem tw13409513249864510019 : True := ⟨⟩
theorem tw12614811148066621264 : True := ⟨⟩
theorem tw14706022693812145444 : True := ⟨⟩
theorem tw6079173187612997037 : True := ⟨⟩
theorem tw12127338746724423809 : True := ⟨⟩
theorem tw9741134391959003819 : True := ⟨⟩
theorem tw9496365245306024149 : True := ⟨⟩
theorem tw14553816603554493358 : True := ⟨⟩
theorem tw16661405048812198066 : True := ⟨⟩
theorem tw5009564483982726761 : True := ⟨⟩
theorem tw4383666589626881386 : True := ⟨⟩
theorem tw17234923516513369237 : True := ⟨⟩
theorem tw49274679934790565 : True := ⟨⟩
theorem tw2480057099694739299 : True := ⟨⟩
theorem tw15152743547302097792 : True := ⟨⟩
theorem tw15813434630575017362 : True := ⟨⟩
theorem tw5976792059365374437 : True := ⟨⟩
theorem tw16722109127936396110 : True := ⟨⟩
theorem tw5535567543195554156 : True := ⟨⟩
theorem tw3940546777539579641 : True := ⟨⟩
theorem tw8658944758372502048 : True := ⟨⟩
theorem tw5657824000916062451 : True := ⟨⟩
theorem tw9406673726873002282 : True := ⟨⟩
theorem tw5608270528595127837 : True := ⟨⟩
theorem tw16713699803418581334 : True := ⟨⟩
theorem tw6555240042291301478 : True := ⟨⟩
theorem tw8977460988437922124 : True := ⟨⟩
theorem tw6411954120941647267 : True := ⟨⟩
theorem tw15625209780758371316 : True := ⟨⟩
theorem tw2001351230973187099 : True := ⟨⟩
theorem tw8516288146210602744 : True := ⟨⟩
theorem tw9131607905817354932 : True := ⟨⟩
theorem tw10792051664901133789 : True := ⟨⟩
theorem tw2391449824757734642 : True := ⟨⟩
theorem tw313027258313007627 : True := ⟨⟩
theorem tw16896567674234606475 : True := ⟨⟩
theorem tw10393663353328721598 : True := ⟨⟩
theorem tw2895019672242215742 : True := ⟨⟩
theorem tw6785817131721698500 : True := ⟨⟩
theorem tw11220892185045867188 : True := ⟨⟩
theorem tw17258206423299326598 : True := ⟨⟩
theorem tw11663481321943121269 : True := ⟨⟩
theorem tw6308581086252854402 : True := ⟨⟩
theorem tw7927469264209771579 : True := ⟨⟩
theorem tw3442329435671937591 : True := ⟨⟩
theorem tw10117440562283002822 : True := ⟨⟩
theorem tw9298403506768410418 : True := ⟨⟩
theorem tw2219565719715255378 : True := ⟨⟩
theorem tw12952509933414984302 : True := ⟨⟩
theorem tw9499510787657705874 : True := ⟨⟩
theorem tw11232374478483605306 : True := ⟨⟩
theorem tw17562767543260142214 : True := ⟨⟩
theorem tw7261450039545342454 : True := ⟨⟩
theorem tw6038821095411175016 : True := ⟨⟩
theorem tw9990345226319884068 : True := ⟨⟩
theorem tw10860895700388868024 : True := ⟨⟩
theorem tw7317836474542784337 : True := ⟨⟩
theorem tw13181875949296870957 : True := ⟨⟩
theorem tw9345676750909349944 : True := ⟨⟩
theorem tw11587034568685482758 : True := ⟨⟩
theorem tw16211521421427940678 : True := ⟨⟩
theorem tw2442259710966052079 : True := ⟨⟩
theorem tw2603259988358896889 : True := ⟨⟩
theorem tw14029546391885035639 : True := ⟨⟩
theorem tw2999033326186475339 : True := ⟨⟩
theorem tw8664936974563722654 : True := ⟨⟩
theorem tw7369741819223213686 : True := ⟨⟩
theorem tw16052320808349706082 : True := ⟨⟩
theorem tw17843490464661113860 : True := ⟨⟩
theorem tw8789358453043137523 : True := ⟨⟩
theorem tw14745743045033390146 : True := ⟨⟩
theorem tw16547865195752855329 : True := ⟨⟩
theorem tw17066044127408595049 : True := ⟨⟩
theorem tw4315991029959535628 : True := ⟨⟩
theorem tw15923250282426842828 : True := ⟨⟩
theorem tw4021928978595405253 : True := ⟨⟩
theorem tw1800889605409440832 : True := ⟨⟩
theorem tw9960721518486171458 : True := ⟨⟩
theorem tw7339039647409124788 : True := ⟨⟩
theorem tw8990313861142287110 : True := ⟨⟩
theorem tw1005483496087919985 : True := ⟨⟩
theorem tw17679848547673146604 : True := ⟨⟩
theorem tw7153062008950511462 : True := ⟨⟩
theorem tw1097998534492414930 : True := ⟨⟩
theorem tw10465514089279642386 : True := ⟨⟩
theorem tw16007149819294483003 : True := ⟨⟩
theorem tw5036846961687405229 : True := ⟨⟩
theorem tw845060206244984605 : True := ⟨⟩
theorem tw3044193314922437478 : True := ⟨⟩
theorem tw4734902545126651661 : True := ⟨⟩
theorem tw17903497710992402801 : True := ⟨⟩
theorem tw13929354066492186541 : True := ⟨⟩
theorem tw701333769924781912 : True := ⟨⟩
theorem tw2808349399557158395 : True := ⟨⟩
theorem tw3919010098100093602 : True := ⟨⟩
theorem tw1997569388931296116 : True := ⟨⟩
theorem tw3811592773271367157 : True := ⟨⟩
theorem tw6449127861642672459 : True := ⟨⟩
theorem tw17948085552500728524 : True := ⟨⟩
theorem tw15064902949301533346 : True := ⟨⟩
theorem tw5416991563250132298 : True := ⟨⟩
theorem tw11389486352061984695 : True := ⟨⟩
theorem tw561391293025646643 : True := ⟨⟩
theorem tw6877226645827823821 : True := ⟨⟩
theorem tw1760603350576429475 : True := ⟨⟩
theorem tw3008623586974134963 : True := ⟨⟩
theorem tw5927567313105069670 : True := ⟨⟩
theorem tw16920754564084929960 : True := ⟨⟩
theorem tw519851828213033955 : True := ⟨⟩
theorem tw9617658007855726926 : True := ⟨⟩
theorem tw14673209030070457562 : True := ⟨⟩
theorem tw4819202231147424091 : True := ⟨⟩
theorem tw6804821044290156842 : True := ⟨⟩
theorem tw4111692666942324129 : True := ⟨⟩
theorem tw16868993833207775613 : True := ⟨⟩
theorem tw9330943631129107780 : True := ⟨⟩
theorem tw13321331477185743149 : True := ⟨⟩
theorem tw18281850538092046467 : True := ⟨⟩
theorem tw13893168526513508166 : True := ⟨⟩
theorem tw13363553139645760527 : True := ⟨⟩
theorem tw15946356160694317329 : True := ⟨⟩
theorem tw8244733829118024811 : True := ⟨⟩
theorem tw13122850982685727845 : True := ⟨⟩
theorem tw17336936450418997793 : True := ⟨⟩
theorem tw2365462284123435047 : True := ⟨⟩
theorem tw1848646778235469078 : True := ⟨⟩
theorem tw6759412095888398321 : True := ⟨⟩
theorem tw4402725079659364252 : True := ⟨⟩
theorem tw1600037746751723098 : True := ⟨⟩
theorem tw15213948185873263833 : True := ⟨⟩
theorem tw500953250457666378 : True := ⟨⟩
theorem tw8458067239894703972 : True := ⟨⟩
theorem tw567884609423149705 : True := ⟨⟩
theorem tw8226494294326810461 : True := ⟨⟩
theorem tw11251137523995926341 : True := ⟨⟩
theorem tw16858285156579221889 : True := ⟨⟩
theorem tw13770079208771991547 : True := ⟨⟩
theorem tw17739348878880393726 : True := ⟨⟩
theorem tw7289601568589263668 : True := ⟨⟩
theorem tw15790720579355451973 : True := ⟨⟩
theorem tw3452082135128663414 : True := ⟨⟩
theorem tw1652717081866841025 : True := ⟨⟩
theorem tw2042292140826266357 : True := ⟨⟩
theorem tw13445080154695654663 : True := ⟨⟩
theorem tw728884934406724761 : True := ⟨⟩
theorem tw13628142620392400109 : True := ⟨⟩
theorem tw12611767792052310623 : True := ⟨⟩
theorem tw15687388767607454252 : True := ⟨⟩
theorem tw833173182276230429 : True := ⟨⟩
theorem tw7145769029896464299 : True := ⟨⟩
theorem tw17606422857730326317 : True := ⟨⟩
theorem tw9555612238305686254 : True := ⟨⟩
theorem tw7492773218913965947 : True := ⟨⟩
theorem tw2051048951616859547 : True := ⟨⟩
theorem tw3196399650302076718 : True := ⟨⟩
theorem tw13368278939475635651 : True := ⟨⟩
theorem tw17330132731328240911 : True := ⟨⟩
theorem tw16029623286316568529 : True := ⟨⟩
theorem tw18358800413957953924 : True := ⟨⟩
theorem tw12254263087357419629 : True := ⟨⟩
theorem tw1683482310774553532 : True := ⟨⟩
theorem tw9459050058782445324 : True := ⟨⟩
theorem tw15344866539931968096 : True := ⟨⟩
theorem tw18291419657060728153 : True := ⟨⟩
theorem tw10114362635825693787 : True := ⟨⟩
theorem tw5859118754885311737 : True := ⟨⟩
theorem tw11319097763535126812 : True := ⟨⟩
theorem tw909924351560934390 : True := ⟨⟩
theorem tw10738003575532504788 : True := ⟨⟩
theorem tw11110208262461876374 : True := ⟨⟩
theorem tw15759970867653108152 : True := ⟨⟩
theorem tw10955317050725887447 : True := ⟨⟩
theorem tw8184699220007379433 : True := ⟨⟩
theorem tw15411387601460861337 : True := ⟨⟩
theorem tw4086058157674990017 : True := ⟨⟩
theorem tw3333446698644548216 : True := ⟨⟩
theorem tw12521463284412890351 : True := ⟨⟩
theorem tw395138700845864316 : True := ⟨⟩
theorem tw10905682514733158466 : True := ⟨⟩
theorem tw7494724483528729301 : True := ⟨⟩
theorem tw242841246431481386 : True := ⟨⟩
theorem tw13132618709999183898 : True := ⟨⟩
theorem tw3878383114103592795 : True := ⟨⟩
theorem tw4159134105002834734 : True := ⟨⟩
theorem tw4363365295628954845 : True := ⟨⟩
theorem tw9228397985900620932 : True := ⟨⟩
theorem tw7031273417212677730 : True := ⟨⟩
theorem tw9673543361469618366 : True := ⟨⟩
theorem tw8457440626546761165 : True := ⟨⟩
theorem tw6082411064634330575 : True := ⟨⟩
theorem tw13531707123254989501 : True := ⟨⟩
theorem tw18421049791903953903 : True := ⟨⟩
theorem tw14984183105004643987 : True := ⟨⟩
theorem tw15529170255622000948 : True := ⟨⟩
theorem tw4642405928176397000 : True := ⟨⟩
theorem tw15946388913382835224 : True := ⟨⟩
theorem tw16345102440705955213 : True := ⟨⟩
theorem tw12647368939536790636 : True := ⟨⟩
theorem tw16240987189780228909 : True := ⟨⟩
theorem tw5362516397382645915 : True := ⟨⟩
theorem tw1197925565968671727 : True := ⟨⟩
theorem tw11968265576560266318 : True := ⟨⟩
theorem tw15673258824015622330 : True := ⟨⟩
theorem tw17925215291927510665 : True := ⟨⟩
theorem tw8273930003744585626 : True := ⟨⟩
theorem tw11754176132448286083 : True := ⟨⟩
theorem tw18103420901670897651 : True := ⟨⟩
theorem tw3493717111155160527 : True := ⟨⟩
theorem tw12994019391074448376 : True := ⟨⟩
theorem tw2783992281797965187 : True := ⟨⟩
theorem tw22551697357593593 : True := ⟨⟩
theorem tw15578025631644234493 : True := ⟨⟩
theorem tw3795277891434052102 : True := ⟨⟩
theorem tw6291416237084387574 : True := ⟨⟩
theorem tw18268791191939849864 : True := ⟨⟩
theorem tw7525542149764818722 : True := ⟨⟩
theorem tw6868836192036940282 : True := ⟨⟩
theorem tw5549315172176941698 : True := ⟨⟩
theorem tw13365295217650922812 : True := ⟨⟩
theorem tw8683856772340465682 : True := ⟨⟩
theorem tw7534799579077118603 : True := ⟨⟩
theorem tw7355570028127101125 : True := ⟨⟩
theorem tw3694398316872202419 : True := ⟨⟩
theorem tw6767318904944593275 : True := ⟨⟩
theorem tw10601615944963115059 : True := ⟨⟩
theorem tw7296583596125217682 : True := ⟨⟩
theorem tw10678649693572172417 : True := ⟨⟩
theorem tw12268275109542032366 : True := ⟨⟩
theorem tw11778180911958503814 : True := ⟨⟩
theorem tw14478148883734587675 : True := ⟨⟩
theorem tw12271959270614036898 : True := ⟨⟩
theorem tw2608437505485318709 : True := ⟨⟩
theorem tw541196102884509978 : True := ⟨⟩
theorem tw8381844023166312768 : True := ⟨⟩
theorem tw3646829019195819677 : True := ⟨⟩
theorem tw18264374347568628810 : True := ⟨⟩
theorem tw4971549296188076032 : True := ⟨⟩
theorem tw6848782300941138395 : True := ⟨⟩
theorem tw17177331786930743035 : True := ⟨⟩
theorem tw758273949599710562 : True := ⟨⟩
theorem tw7289634563603522867 : True := ⟨⟩
theorem tw16698745307106531279 : True := ⟨⟩
theorem tw14612060388864693735 : True := ⟨⟩
theorem tw17252143746492648416 : True := ⟨⟩
theorem tw17377529257436501650 : True := ⟨⟩
theorem tw9917049931354899413 : True := ⟨⟩
theorem tw12459740579856956213 : True := ⟨⟩
theorem tw17001982702790524580 : True := ⟨⟩
theorem tw13217827037086042188 : True := ⟨⟩
theorem tw6184460063843016694 : True := ⟨⟩
theorem tw1582976572388173787 : True := ⟨⟩
theorem tw14457593812595234344 : True := ⟨⟩
theorem tw5343241284826551009 : True := ⟨⟩
theorem tw12870888531099404533 : True := ⟨⟩
theorem tw15610959940260225430 : True := ⟨⟩
theorem tw16376525773666504680 : True := ⟨⟩
theorem tw2323474266016966308 : True := ⟨⟩
theorem tw2922222751358710265 : True := ⟨⟩
theorem tw6320253292602491972 : True := ⟨⟩
theorem tw1147470481896660410 : True := ⟨⟩
theorem tw2658526732547218105 : True := ⟨⟩
theorem tw11162318198679636149 : True := ⟨⟩
theorem tw7578210074245671484 : True := ⟨⟩
theorem tw4702841417184801058 : True := ⟨⟩
theorem tw2739504486584576224 : True := ⟨⟩
theorem tw3386092968808520798 : True := ⟨⟩
theorem tw940617070666608080 : True := ⟨⟩
theorem tw15367242080415987702 : True := ⟨⟩
theorem tw11136197038861592535 : True := ⟨⟩
theorem tw18293732401869909652 : True := ⟨⟩
theorem tw7191455744419660376 : True := ⟨⟩
theorem tw11660266114150955751 : True := ⟨⟩
theorem tw3704167492566942397 : True := ⟨⟩
theorem tw5247051413645994129 : True := ⟨⟩
theorem tw3496965988886986938 : True := ⟨⟩
theorem tw7712595579559962911 : True := ⟨⟩
theorem tw16171809288044610508 : True := ⟨⟩
theorem tw13262116225945230012 : True := ⟨⟩
theorem tw10603584201595350602 : True := ⟨⟩
theorem tw3229955645248102723 : True := ⟨⟩
theorem tw15948780112781908787 : True := ⟨⟩
theorem tw14980023328507725902 : True := ⟨⟩
theorem tw8317466277049474617 : True := ⟨⟩
theorem tw9449672872311958731 : True := ⟨⟩
theorem tw2887051446865420828 : True := ⟨⟩
theorem tw10806950440038215891 : True := ⟨⟩
theorem tw3608708970678896270 : True := ⟨⟩
theorem tw9657781627882305391 : True := ⟨⟩
theorem tw11905163887095721015 : True := ⟨⟩
theorem tw2068664650715991707 : True := ⟨⟩
theorem tw1241404454085649124 : True := ⟨⟩
theorem tw14060237666301923597 : True := ⟨⟩
theorem tw13532847315355080253 : True := ⟨⟩
theorem tw14439243815434019604 : True := ⟨⟩
theorem tw17956543221229664512 : True := ⟨⟩
theorem tw14852329139284432860 : True := ⟨⟩
theorem tw7372000682148998216 : True := ⟨⟩
theorem tw14103535550066685397 : True := ⟨⟩
theorem tw8356816923877370021 : True := ⟨⟩
theorem tw26425463804135960 : True := ⟨⟩
theorem tw3350844169311001129 : True := ⟨⟩
theorem tw9513423893830186035 : True := ⟨⟩
theorem tw17902569758825723728 : True := ⟨⟩
theorem tw10604169790165778682 : True := ⟨⟩
theorem tw4297731678662094536 : True := ⟨⟩
theorem tw16432713993328977331 : True := ⟨⟩
theorem tw12629568148972539762 : True := ⟨⟩
theorem tw6755925336976613232 : True := ⟨⟩
theorem tw9736546385927885227 : True := ⟨⟩
theorem tw16415028865518655546 : True := ⟨⟩
theorem tw11775551913768146077 : True := ⟨⟩
theorem tw5283464899586487735 : True := ⟨⟩
theorem tw876933089483189297 : True := ⟨⟩
theorem tw7028611270464810887 : True := ⟨⟩
theorem tw11026324117731225655 : True := ⟨⟩
theorem tw3913528116038191188 : True := ⟨⟩
theorem tw16011055738799735888 : True := ⟨⟩
theorem tw10643592516055977328 : True := ⟨⟩
theorem tw379174527631434529 : True := ⟨⟩
theorem tw10264135568141901301 : True := ⟨⟩
theorem tw8004756346496587371 : True := ⟨⟩
theorem tw12113243949977362033 : True := ⟨⟩
theorem tw9153386212771759811 : True := ⟨⟩
theorem tw8228950375871286339 : True := ⟨⟩
theorem tw518976864732996251 : True := ⟨⟩
theorem tw12832683148521936107 : True := ⟨⟩
theorem tw1043307727769730188 : True := ⟨⟩
theorem tw10879034167726328663 : True := ⟨⟩
theorem tw16064382804478563927 : True := ⟨⟩
theorem tw14667805832236412624 : True := ⟨⟩
theorem tw6615107907471364465 : True := ⟨⟩
theorem tw13562760996464443880 : True := ⟨⟩
theorem tw2789720792670660043 : True := ⟨⟩
theorem tw4893967543146434872 : True := ⟨⟩
theorem tw6394381022753523788 : True := ⟨⟩
theorem tw4068527845204499245 : True := ⟨⟩
theorem tw11283319371284918911 : True := ⟨⟩
theorem tw2252305205657439004 : True := ⟨⟩
theorem tw15801621979342729383 : True := ⟨⟩
theorem tw16487816990975572028 : True := ⟨⟩
theorem tw11551083187376567056 : True := ⟨⟩
theorem tw10424393626065333798 : True := ⟨⟩
theorem tw1439246655266547700 : True := ⟨⟩
theorem tw6278647508926252785 : True := ⟨⟩
theorem tw6438293893037913957 : True := ⟨⟩
theorem tw5486487638281291605 : True := ⟨⟩
theorem tw14685462170515437407 : True := ⟨⟩
theorem tw3429492842335990350 : True := ⟨⟩
theorem tw12023040214023829324 : True := ⟨⟩
theorem tw4367311719092440756 : True := ⟨⟩
end Mine.hd
open PySem PySem.W PyProof.Rows
set_option Elab.async true
set_option maxRecDepth 100000 in
set_option maxHeartbeats 8000000 in
theorem Mine.hd : PySem.Challenge.rw_pq1032_01.Holds := by
  w_on
  o_law
  k_head
  (case hw => w_witness2)
  refine Mine.walk Mine.ka rfl fun G P e => ?_
  obtain ⟨prog, w, K, B, p, loose, mg, mb⟩ := G
  dsimp only at e
  subst e
  exact ⟨⟨{ d_binders_of := ⟨by kernel_rfl, ⟨⟨_, _, _, _, _, _, _, _, _, rfl, rfl⟩⟩⟩, d_are_same_list := ⟨by kernel_rfl, ⟨⟨_, _, _, _, _, _, _, _, _, rfl, rfl⟩⟩⟩, d_rebuilt := ⟨by kernel_rfl, ⟨⟨_, _, _, _, _, _, _, _, _, rfl, rfl⟩⟩⟩, d_all_nodes := ⟨by kernel_rfl, ⟨⟨_, _, _, _, _, _, _, _, _, rfl, rfl⟩⟩⟩, d_let_node := ⟨by kernel_rfl, ⟨⟨_, _, _, _, _, _, _, _, _, rfl, rfl⟩⟩⟩, d_is_let := ⟨by kernel_rfl, ⟨⟨_, _, _, _, _, _, _, _, _, rfl, rfl⟩⟩⟩, d_renumbered := ⟨by kernel_rfl, ⟨⟨_, _, _, _, _, _, _, _, _, rfl, rfl⟩⟩⟩, d_without_locals := ⟨by kernel_rfl, ⟨⟨_, _, _, _, _, _, _, _, _, rfl, rfl⟩⟩⟩, d_count_in := ⟨by kernel_rfl, ⟨⟨_, _, _, _, _, _, _, _, _, rfl, rfl⟩⟩⟩, d_note_node := ⟨by kernel_rfl, ⟨⟨_, _, _, _, _, _, _, _, _, rfl, rfl⟩⟩⟩, d_facts_of := ⟨by kernel_rfl, ⟨⟨_, _, _, _, _, _, _, _, _, rfl, rfl⟩⟩⟩, d_is_small := ⟨by kernel_rfl, ⟨⟨_, _, _, _, _, _, _, _, _, rfl, rfl⟩⟩⟩, d_spread_small := ⟨by kernel_rfl, ⟨⟨_, _, _, _, _, _, _, _, _, rfl, rfl⟩⟩⟩, d_x_law_draw := ⟨by kernel_rfl, ⟨⟨_, _, _, _, _, _, _, _, _, rfl, rfl⟩⟩⟩, d_x_law_deck_of := ⟨by kernel_rfl, ⟨⟨_, _, _, _, _, _, _, _, _, rfl, rfl⟩⟩⟩, d_x_law_chain := ⟨by kernel_rfl, ⟨⟨_, _, _, _, _, _, _, _, _, rfl, rfl⟩⟩⟩, d_x_law_value_of := ⟨by kernel_rfl, ⟨⟨_, _, _, _, _, _, _, _, _, rfl, rfl⟩⟩⟩, d_x_law_are_once := ⟨by kernel_rfl, ⟨⟨_, _, _, _, _, _, _, _, _, rfl, rfl⟩⟩⟩, d_x_law_is_bounded := ⟨by kernel_rfl, ⟨⟨_, _, _, _, _, _, _, _, _, rfl, rfl⟩⟩⟩, d_law := ⟨by kernel_rfl, ⟨⟨_, _, _, _, _, _, _, _, _, rfl, rfl⟩⟩⟩ },
    { g_CONST := ⟨_, rfl⟩, g_LOCAL := ⟨_, rfl⟩, g_GLOBAL := ⟨_, rfl⟩, g_SET_LOCAL := ⟨_, rfl⟩, g_SET_GLOBAL := ⟨_, rfl⟩, g_DEFINE := ⟨_, rfl⟩, g_LAMBDA := ⟨_, rfl⟩, g_CALL := ⟨_, rfl⟩, g_FIX := ⟨_, rfl⟩, g_TOP := ⟨_, rfl⟩, g_SMALL_SIZE := ⟨_, rfl⟩, g_SMALL_TIMES := ⟨_, rfl⟩, nb_len := by kernel_rfl, nb_range := by kernel_rfl, nb_zip := by kernel_rfl, nb_isinstance := by kernel_rfl, nb_abs := by kernel_rfl, nb_dict := by kernel_rfl, nb_list := by kernel_rfl, nb_str := by kernel_rfl },
    { k_Const := ⟨by kernel_rfl, by kernel_rfl, by kernel_rfl, by kernel_rfl, by kernel_rfl, by kernel_rfl, by kernel_rfl, by kernel_rfl, ⟨⟨_, _, _, _, _, _, _, _, _, rfl, rfl⟩⟩⟩, o_Const_value := by kernel_rfl, kind_Const := ⟨_, rfl⟩, k_Local := ⟨by kernel_rfl, by kernel_rfl, by kernel_rfl, by kernel_rfl, by kernel_rfl, by kernel_rfl, by kernel_rfl, by kernel_rfl, ⟨⟨_, _, _, _, _, _, _, _, _, rfl, rfl⟩⟩⟩, o_Local_number := by kernel_rfl, kind_Local := ⟨_, rfl⟩, k_Global := ⟨by kernel_rfl, by kernel_rfl, by kernel_rfl, by kernel_rfl, by kernel_rfl, by kernel_rfl, by kernel_rfl, by kernel_rfl, ⟨⟨_, _, _, _, _, _, _, _, _, rfl, rfl⟩⟩⟩, o_Global_symbol := by kernel_rfl, kind_Global := ⟨_, rfl⟩, k_Lambda := ⟨by kernel_rfl, by kernel_rfl, by kernel_rfl, by kernel_rfl, by kernel_rfl, by kernel_rfl, by kernel_rfl, by kernel_rfl, ⟨⟨_, _, _, _, _, _, _, _, _, rfl, rfl⟩⟩⟩, o_Lambda_label := by kernel_rfl, o_Lambda_params := by kernel_rfl, o_Lambda_rest := by kernel_rfl, o_Lambda_body := by kernel_rfl, kind_Lambda := ⟨_, rfl⟩, k_Call := ⟨by kernel_rfl, by kernel_rfl, by kernel_rfl, by kernel_rfl, by kernel_rfl, by kernel_rfl, by kernel_rfl, by kernel_rfl, ⟨⟨_, _, _, _, _, _, _, _, _, rfl, rfl⟩⟩⟩, o_Call_operator := by kernel_rfl, o_Call_operands := by kernel_rfl, kind_Call := ⟨_, rfl⟩ },
    { k_Renaming := ⟨by kernel_rfl, by kernel_rfl, by kernel_rfl, by kernel_rfl, by kernel_rfl, by kernel_rfl, by kernel_rfl, by kernel_rfl, ⟨⟨_, _, _, _, _, _, _, _, _, rfl, rfl⟩⟩⟩, o_Renaming_locals := by kernel_rfl, o_Renaming_labels := by kernel_rfl, k_SymbolTable := ⟨by kernel_rfl, by kernel_rfl, by kernel_rfl, by kernel_rfl, by kernel_rfl, by kernel_rfl, by kernel_rfl, by kernel_rfl, ⟨⟨_, _, _, _, _, _, _, _, _, rfl, rfl⟩⟩⟩, o_SymbolTable_rows := by kernel_rfl, o_SymbolTable_by_text := by kernel_rfl, k_Facts := ⟨by kernel_rfl, by kernel_rfl, by kernel_rfl, by kernel_rfl, by kernel_rfl, by kernel_rfl, by kernel_rfl, by kernel_rfl, ⟨⟨_, _, _, _, _, _, _, _, _, rfl, rfl⟩⟩⟩, o_Facts_read := by kernel_rfl, o_Facts_set := by kernel_rfl, o_Facts_called := by kernel_rfl, o_Facts_bound := by kernel_rfl, o_Facts_caught := by kernel_rfl, o_Facts_parent := by kernel_rfl, o_Facts_lets := by kernel_rfl, o_Facts_inner := by kernel_rfl, o_Facts_read_globals := by kernel_rfl, o_Facts_set_globals := by kernel_rfl, k_Spreading := ⟨by kernel_rfl, by kernel_rfl, by kernel_rfl, by kernel_rfl, by kernel_rfl, by kernel_rfl, by kernel_rfl, by kernel_rfl, ⟨⟨_, _, _, _, _, _, _, _, _, rfl, rfl⟩⟩⟩, o_Spreading_number := by kernel_rfl, o_Spreading_own := by kernel_rfl, o_Spreading_world := by kernel_rfl, k_Fitting := ⟨by kernel_rfl, by kernel_rfl, by kernel_rfl, by kernel_rfl, by kernel_rfl, by kernel_rfl, by kernel_rfl, by kernel_rfl, ⟨⟨_, _, _, _, _, _, _, _, _, rfl, rfl⟩⟩⟩, o_Fitting_number := by kernel_rfl, o_Fitting_own := by kernel_rfl, o_Fitting_many := by kernel_rfl, o_Fitting_is_so := by kernel_rfl, k_Small := ⟨by kernel_rfl, by kernel_rfl, by kernel_rfl, by kernel_rfl, by kernel_rfl, by kernel_rfl, by kernel_rfl, by kernel_rfl, ⟨⟨_, _, _, _, _, _, _, _, _, rfl, rfl⟩⟩⟩, o_Small_facts := by kernel_rfl, o_Small_world := by kernel_rfl, k_Names := ⟨by kernel_rfl, by kernel_rfl, by kernel_rfl, by kernel_rfl, by kernel_rfl, by kernel_rfl, by kernel_rfl, by kernel_rfl, ⟨⟨_, _, _, _, _, _, _, _, _, rfl, rfl⟩⟩⟩, o_Names_table := by kernel_rfl, o_Names_last := by kernel_rfl, o_Names_titles := by kernel_rfl, o_Names_ops := by kernel_rfl, o_Names_root := by kernel_rfl },
    { m_Node_parts := ⟨⟨_, _, _, _, _, _, _, _, _, rfl, rfl⟩⟩, m_Node_with_parts := ⟨⟨_, _, _, _, _, _, _, _, _, rfl, rfl⟩⟩, m_Lambda_parts := ⟨⟨_, _, _, _, _, _, _, _, _, rfl, rfl⟩⟩, a_Lambda_parts := by kernel_rfl, m_Lambda_with_parts := ⟨⟨_, _, _, _, _, _, _, _, _, rfl, rfl⟩⟩, a_Lambda_with_parts := by kernel_rfl, m_Lambda_binders := ⟨⟨_, _, _, _, _, _, _, _, _, rfl, rfl⟩⟩, a_Lambda_binders := by kernel_rfl, m_Lambda_takes := ⟨⟨_, _, _, _, _, _, _, _, _, rfl, rfl⟩⟩, a_Lambda_takes := by kernel_rfl, m_Call_parts := ⟨⟨_, _, _, _, _, _, _, _, _, rfl, rfl⟩⟩, a_Call_parts := by kernel_rfl, m_Call_with_parts := ⟨⟨_, _, _, _, _, _, _, _, _, rfl, rfl⟩⟩, a_Call_with_parts := by kernel_rfl, m_Renaming_local := ⟨⟨_, _, _, _, _, _, _, _, _, rfl, rfl⟩⟩, a_Renaming_local := by kernel_rfl, m_Renaming_label := ⟨⟨_, _, _, _, _, _, _, _, _, rfl, rfl⟩⟩, a_Renaming_label := by kernel_rfl, m_Renaming_turned := ⟨⟨_, _, _, _, _, _, _, _, _, rfl, rfl⟩⟩, a_Renaming_turned := by kernel_rfl, m_Facts_is_set := ⟨⟨_, _, _, _, _, _, _, _, _, rfl, rfl⟩⟩, a_Facts_is_set := by kernel_rfl, m_Facts_times_read := ⟨⟨_, _, _, _, _, _, _, _, _, rfl, rfl⟩⟩, a_Facts_times_read := by kernel_rfl, m_Facts_times_called := ⟨⟨_, _, _, _, _, _, _, _, _, rfl, rfl⟩⟩, a_Facts_times_called := by kernel_rfl, m_Facts_meet := ⟨⟨_, _, _, _, _, _, _, _, _, rfl, rfl⟩⟩, a_Facts_meet := by kernel_rfl, m_Spreading_turned := ⟨⟨_, _, _, _, _, _, _, _, _, rfl, rfl⟩⟩, a_Spreading_turned := by kernel_rfl, m_Fitting_turned := ⟨⟨_, _, _, _, _, _, _, _, _, rfl, rfl⟩⟩, a_Fitting_turned := by kernel_rfl, m_Small_is_fit := ⟨⟨_, _, _, _, _, _, _, _, _, rfl, rfl⟩⟩, a_Small_is_fit := by kernel_rfl, m_Small_turned := ⟨⟨_, _, _, _, _, _, _, _, _, rfl, rfl⟩⟩, a_Small_turned := by kernel_rfl, m_Names_fresh := ⟨⟨_, _, _, _, _, _, _, _, _, rfl, rfl⟩⟩, a_Names_fresh := by kernel_rfl, a_Const_parts := by kernel_rfl, a_Const_with_parts := by kernel_rfl, a_Global_parts := by kernel_rfl, a_Global_with_parts := by kernel_rfl, a_Local_parts := by kernel_rfl, a_Local_with_parts := by kernel_rfl }⟩,
    { sp := by kernel_rfl, tk := by kernel_rfl, cls_Const := by kernel_rfl, mro_Const := by kernel_rfl, ni_Const_Local := by kernel_rfl, ni_Const_Lambda := by kernel_rfl, ni_Const_Global := by kernel_rfl, cls_Local := by kernel_rfl, mro_Local := by kernel_rfl, ni_Local_Const := by kernel_rfl, ni_Local_Lambda := by kernel_rfl, ni_Local_Global := by kernel_rfl, cls_Global := by kernel_rfl, mro_Global := by kernel_rfl, ni_Global_Const := by kernel_rfl, ni_Global_Local := by kernel_rfl, ni_Global_Lambda := by kernel_rfl, cls_Lambda := by kernel_rfl, mro_Lambda := by kernel_rfl, ni_Lambda_Const := by kernel_rfl, ni_Lambda_Local := by kernel_rfl, ni_Lambda_Global := by kernel_rfl, cls_Call := by kernel_rfl, mro_Call := by kernel_rfl, ni_Call_Const := by kernel_rfl, ni_Call_Local := by kernel_rfl, ni_Call_Lambda := by kernel_rfl, ni_Call_Global := by kernel_rfl }⟩
theorem PySem.Challenge.cw_pq1032_01_holds : PySem.Challenge.rw_pq1032_01.Holds :=
  Mine.hd
