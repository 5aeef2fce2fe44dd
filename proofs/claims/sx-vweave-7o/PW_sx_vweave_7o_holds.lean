import PyProof.Rows.All
import Wide.All
import OpenK.AllK
import Wide.FinOn
import PySem.PyData
import PySem.Syntax
import PyProof.StrBlockL
import PyProof.StrBlock2
import PyProof.P3Eq
import PyProof.RangeIter
import PyProof.Rows.RowBridgeG
import PyProof.Cells
import PyProof.DictKinds
import PyProof.WalksMore
import PyProof.StrWalks
import PyProof.EvalArms
import PyProof.Rows.TupSub
import PyProof.Rows.StrTemp
import KE.KItem
import PyProof.Rows.CellsFrame
import PyProof.GenCompD
import PyProof.Rows.GenRowsK
import PyProof.StrLawsChain
import PyProof.StrLawsTight
import PyProof.Rows.StrItems
import PySem.Challenge.RW_sx_vweave_7o
set_option autoImplicit false
set_option linter.all false
set_option Elab.async false
set_option bootstrap.genMatcherCode false
set_option genInjectivity false
set_option genSizeOf false

namespace Mine
theorem ea_0_2 {p1 p2 : Prop} {P : Prop} (h : p1 ∧ p2) (k : p1 → p2 → P) : P :=
  k h.1 h.2
theorem ea_0_3 {p1 p2 p3 : Prop} {P : Prop} (h : p1 ∧ p2 ∧ p3) (k : p1 → p2 → p3 → P) : P :=
  k h.1 h.2.1 h.2.2
theorem ea_0_4 {p1 p2 p3 p4 : Prop} {P : Prop} (h : p1 ∧ p2 ∧ p3 ∧ p4) (k : p1 → p2 → p3 → p4 → P) : P :=
  k h.1 h.2.1 h.2.2.1 h.2.2.2
theorem ea_0_5 {p1 p2 p3 p4 p5 : Prop} {P : Prop} (h : p1 ∧ p2 ∧ p3 ∧ p4 ∧ p5) (k : p1 → p2 → p3 → p4 → p5 → P) : P :=
  k h.1 h.2.1 h.2.2.1 h.2.2.2.1 h.2.2.2.2
theorem ea_1_1 {α1 : Type} {p1 : α1 → Prop} {P : Prop} (h : ∃ x1, p1 x1) (k : ∀ x1, p1 x1 → P) : P :=
  Exists.elim h fun x1 q => k x1 q
theorem ea_1_2 {α1 : Type} {p1 p2 : α1 → Prop} {P : Prop} (h : ∃ x1, p1 x1 ∧ p2 x1) (k : ∀ x1, p1 x1 → p2 x1 → P) : P :=
  Exists.elim h fun x1 q => k x1 q.1 q.2
theorem ea_1_3 {α1 : Type} {p1 p2 p3 : α1 → Prop} {P : Prop} (h : ∃ x1, p1 x1 ∧ p2 x1 ∧ p3 x1) (k : ∀ x1, p1 x1 → p2 x1 → p3 x1 → P) : P :=
  Exists.elim h fun x1 q => k x1 q.1 q.2.1 q.2.2
theorem ea_1_4 {α1 : Type} {p1 p2 p3 p4 : α1 → Prop} {P : Prop} (h : ∃ x1, p1 x1 ∧ p2 x1 ∧ p3 x1 ∧ p4 x1) (k : ∀ x1, p1 x1 → p2 x1 → p3 x1 → p4 x1 → P) : P :=
  Exists.elim h fun x1 q => k x1 q.1 q.2.1 q.2.2.1 q.2.2.2
theorem ea_1_6 {α1 : Type} {p1 p2 p3 p4 p5 p6 : α1 → Prop} {P : Prop} (h : ∃ x1, p1 x1 ∧ p2 x1 ∧ p3 x1 ∧ p4 x1 ∧ p5 x1 ∧ p6 x1) (k : ∀ x1, p1 x1 → p2 x1 → p3 x1 → p4 x1 → p5 x1 → p6 x1 → P) : P :=
  Exists.elim h fun x1 q => k x1 q.1 q.2.1 q.2.2.1 q.2.2.2.1 q.2.2.2.2.1 q.2.2.2.2.2
theorem ea_1_10 {α1 : Type} {p1 p2 p3 p4 p5 p6 p7 p8 p9 p10 : α1 → Prop} {P : Prop} (h : ∃ x1, p1 x1 ∧ p2 x1 ∧ p3 x1 ∧ p4 x1 ∧ p5 x1 ∧ p6 x1 ∧ p7 x1 ∧ p8 x1 ∧ p9 x1 ∧ p10 x1) (k : ∀ x1, p1 x1 → p2 x1 → p3 x1 → p4 x1 → p5 x1 → p6 x1 → p7 x1 → p8 x1 → p9 x1 → p10 x1 → P) : P :=
  Exists.elim h fun x1 q => k x1 q.1 q.2.1 q.2.2.1 q.2.2.2.1 q.2.2.2.2.1 q.2.2.2.2.2.1 q.2.2.2.2.2.2.1 q.2.2.2.2.2.2.2.1 q.2.2.2.2.2.2.2.2.1 q.2.2.2.2.2.2.2.2.2
theorem ea_2_1 {α1 α2 : Type} {p1 : α1 → α2 → Prop} {P : Prop} (h : ∃ x1 x2, p1 x1 x2) (k : ∀ x1 x2, p1 x1 x2 → P) : P :=
  Exists.elim h fun x1 q1 => Exists.elim q1 fun x2 q => k x1 x2 q
theorem ea_2_2 {α1 α2 : Type} {p1 p2 : α1 → α2 → Prop} {P : Prop} (h : ∃ x1 x2, p1 x1 x2 ∧ p2 x1 x2) (k : ∀ x1 x2, p1 x1 x2 → p2 x1 x2 → P) : P :=
  Exists.elim h fun x1 q1 => Exists.elim q1 fun x2 q => k x1 x2 q.1 q.2
theorem ea_2_3 {α1 α2 : Type} {p1 p2 p3 : α1 → α2 → Prop} {P : Prop} (h : ∃ x1 x2, p1 x1 x2 ∧ p2 x1 x2 ∧ p3 x1 x2) (k : ∀ x1 x2, p1 x1 x2 → p2 x1 x2 → p3 x1 x2 → P) : P :=
  Exists.elim h fun x1 q1 => Exists.elim q1 fun x2 q => k x1 x2 q.1 q.2.1 q.2.2
theorem ea_2_4 {α1 α2 : Type} {p1 p2 p3 p4 : α1 → α2 → Prop} {P : Prop} (h : ∃ x1 x2, p1 x1 x2 ∧ p2 x1 x2 ∧ p3 x1 x2 ∧ p4 x1 x2) (k : ∀ x1 x2, p1 x1 x2 → p2 x1 x2 → p3 x1 x2 → p4 x1 x2 → P) : P :=
  Exists.elim h fun x1 q1 => Exists.elim q1 fun x2 q => k x1 x2 q.1 q.2.1 q.2.2.1 q.2.2.2
theorem ea_2_5 {α1 α2 : Type} {p1 p2 p3 p4 p5 : α1 → α2 → Prop} {P : Prop} (h : ∃ x1 x2, p1 x1 x2 ∧ p2 x1 x2 ∧ p3 x1 x2 ∧ p4 x1 x2 ∧ p5 x1 x2) (k : ∀ x1 x2, p1 x1 x2 → p2 x1 x2 → p3 x1 x2 → p4 x1 x2 → p5 x1 x2 → P) : P :=
  Exists.elim h fun x1 q1 => Exists.elim q1 fun x2 q => k x1 x2 q.1 q.2.1 q.2.2.1 q.2.2.2.1 q.2.2.2.2
theorem ea_2_6 {α1 α2 : Type} {p1 p2 p3 p4 p5 p6 : α1 → α2 → Prop} {P : Prop} (h : ∃ x1 x2, p1 x1 x2 ∧ p2 x1 x2 ∧ p3 x1 x2 ∧ p4 x1 x2 ∧ p5 x1 x2 ∧ p6 x1 x2) (k : ∀ x1 x2, p1 x1 x2 → p2 x1 x2 → p3 x1 x2 → p4 x1 x2 → p5 x1 x2 → p6 x1 x2 → P) : P :=
  Exists.elim h fun x1 q1 => Exists.elim q1 fun x2 q => k x1 x2 q.1 q.2.1 q.2.2.1 q.2.2.2.1 q.2.2.2.2.1 q.2.2.2.2.2
theorem ea_3_1 {α1 α2 α3 : Type} {p1 : α1 → α2 → α3 → Prop} {P : Prop} (h : ∃ x1 x2 x3, p1 x1 x2 x3) (k : ∀ x1 x2 x3, p1 x1 x2 x3 → P) : P :=
  Exists.elim h fun x1 q1 => Exists.elim q1 fun x2 q2 => Exists.elim q2 fun x3 q => k x1 x2 x3 q
theorem ea_3_2 {α1 α2 α3 : Type} {p1 p2 : α1 → α2 → α3 → Prop} {P : Prop} (h : ∃ x1 x2 x3, p1 x1 x2 x3 ∧ p2 x1 x2 x3) (k : ∀ x1 x2 x3, p1 x1 x2 x3 → p2 x1 x2 x3 → P) : P :=
  Exists.elim h fun x1 q1 => Exists.elim q1 fun x2 q2 => Exists.elim q2 fun x3 q => k x1 x2 x3 q.1 q.2
theorem ea_3_3 {α1 α2 α3 : Type} {p1 p2 p3 : α1 → α2 → α3 → Prop} {P : Prop} (h : ∃ x1 x2 x3, p1 x1 x2 x3 ∧ p2 x1 x2 x3 ∧ p3 x1 x2 x3) (k : ∀ x1 x2 x3, p1 x1 x2 x3 → p2 x1 x2 x3 → p3 x1 x2 x3 → P) : P :=
  Exists.elim h fun x1 q1 => Exists.elim q1 fun x2 q2 => Exists.elim q2 fun x3 q => k x1 x2 x3 q.1 q.2.1 q.2.2
theorem ea_3_4 {α1 α2 α3 : Type} {p1 p2 p3 p4 : α1 → α2 → α3 → Prop} {P : Prop} (h : ∃ x1 x2 x3, p1 x1 x2 x3 ∧ p2 x1 x2 x3 ∧ p3 x1 x2 x3 ∧ p4 x1 x2 x3) (k : ∀ x1 x2 x3, p1 x1 x2 x3 → p2 x1 x2 x3 → p3 x1 x2 x3 → p4 x1 x2 x3 → P) : P :=
  Exists.elim h fun x1 q1 => Exists.elim q1 fun x2 q2 => Exists.elim q2 fun x3 q => k x1 x2 x3 q.1 q.2.1 q.2.2.1 q.2.2.2
theorem ea_3_6 {α1 α2 α3 : Type} {p1 p2 p3 p4 p5 p6 : α1 → α2 → α3 → Prop} {P : Prop} (h : ∃ x1 x2 x3, p1 x1 x2 x3 ∧ p2 x1 x2 x3 ∧ p3 x1 x2 x3 ∧ p4 x1 x2 x3 ∧ p5 x1 x2 x3 ∧ p6 x1 x2 x3) (k : ∀ x1 x2 x3, p1 x1 x2 x3 → p2 x1 x2 x3 → p3 x1 x2 x3 → p4 x1 x2 x3 → p5 x1 x2 x3 → p6 x1 x2 x3 → P) : P :=
  Exists.elim h fun x1 q1 => Exists.elim q1 fun x2 q2 => Exists.elim q2 fun x3 q => k x1 x2 x3 q.1 q.2.1 q.2.2.1 q.2.2.2.1 q.2.2.2.2.1 q.2.2.2.2.2
theorem ea_4_1 {α1 α2 α3 α4 : Type} {p1 : α1 → α2 → α3 → α4 → Prop} {P : Prop} (h : ∃ x1 x2 x3 x4, p1 x1 x2 x3 x4) (k : ∀ x1 x2 x3 x4, p1 x1 x2 x3 x4 → P) : P :=
  Exists.elim h fun x1 q1 => Exists.elim q1 fun x2 q2 => Exists.elim q2 fun x3 q3 => Exists.elim q3 fun x4 q => k x1 x2 x3 x4 q
theorem ea_4_3 {α1 α2 α3 α4 : Type} {p1 p2 p3 : α1 → α2 → α3 → α4 → Prop} {P : Prop} (h : ∃ x1 x2 x3 x4, p1 x1 x2 x3 x4 ∧ p2 x1 x2 x3 x4 ∧ p3 x1 x2 x3 x4) (k : ∀ x1 x2 x3 x4, p1 x1 x2 x3 x4 → p2 x1 x2 x3 x4 → p3 x1 x2 x3 x4 → P) : P :=
  Exists.elim h fun x1 q1 => Exists.elim q1 fun x2 q2 => Exists.elim q2 fun x3 q3 => Exists.elim q3 fun x4 q => k x1 x2 x3 x4 q.1 q.2.1 q.2.2
theorem ea_4_4 {α1 α2 α3 α4 : Type} {p1 p2 p3 p4 : α1 → α2 → α3 → α4 → Prop} {P : Prop} (h : ∃ x1 x2 x3 x4, p1 x1 x2 x3 x4 ∧ p2 x1 x2 x3 x4 ∧ p3 x1 x2 x3 x4 ∧ p4 x1 x2 x3 x4) (k : ∀ x1 x2 x3 x4, p1 x1 x2 x3 x4 → p2 x1 x2 x3 x4 → p3 x1 x2 x3 x4 → p4 x1 x2 x3 x4 → P) : P :=
  Exists.elim h fun x1 q1 => Exists.elim q1 fun x2 q2 => Exists.elim q2 fun x3 q3 => Exists.elim q3 fun x4 q => k x1 x2 x3 x4 q.1 q.2.1 q.2.2.1 q.2.2.2
theorem ea_4_7 {α1 α2 α3 α4 : Type} {p1 p2 p3 p4 p5 p6 p7 : α1 → α2 → α3 → α4 → Prop} {P : Prop} (h : ∃ x1 x2 x3 x4, p1 x1 x2 x3 x4 ∧ p2 x1 x2 x3 x4 ∧ p3 x1 x2 x3 x4 ∧ p4 x1 x2 x3 x4 ∧ p5 x1 x2 x3 x4 ∧ p6 x1 x2 x3 x4 ∧ p7 x1 x2 x3 x4) (k : ∀ x1 x2 x3 x4, p1 x1 x2 x3 x4 → p2 x1 x2 x3 x4 → p3 x1 x2 x3 x4 → p4 x1 x2 x3 x4 → p5 x1 x2 x3 x4 → p6 x1 x2 x3 x4 → p7 x1 x2 x3 x4 → P) : P :=
  Exists.elim h fun x1 q1 => Exists.elim q1 fun x2 q2 => Exists.elim q2 fun x3 q3 => Exists.elim q3 fun x4 q => k x1 x2 x3 x4 q.1 q.2.1 q.2.2.1 q.2.2.2.1 q.2.2.2.2.1 q.2.2.2.2.2.1 q.2.2.2.2.2.2
theorem ea_5_4 {α1 α2 α3 α4 α5 : Type} {p1 p2 p3 p4 : α1 → α2 → α3 → α4 → α5 → Prop} {P : Prop} (h : ∃ x1 x2 x3 x4 x5, p1 x1 x2 x3 x4 x5 ∧ p2 x1 x2 x3 x4 x5 ∧ p3 x1 x2 x3 x4 x5 ∧ p4 x1 x2 x3 x4 x5) (k : ∀ x1 x2 x3 x4 x5, p1 x1 x2 x3 x4 x5 → p2 x1 x2 x3 x4 x5 → p3 x1 x2 x3 x4 x5 → p4 x1 x2 x3 x4 x5 → P) : P :=
  Exists.elim h fun x1 q1 => Exists.elim q1 fun x2 q2 => Exists.elim q2 fun x3 q3 => Exists.elim q3 fun x4 q4 => Exists.elim q4 fun x5 q => k x1 x2 x3 x4 x5 q.1 q.2.1 q.2.2.1 q.2.2.2
theorem ea_5_6 {α1 α2 α3 α4 α5 : Type} {p1 p2 p3 p4 p5 p6 : α1 → α2 → α3 → α4 → α5 → Prop} {P : Prop} (h : ∃ x1 x2 x3 x4 x5, p1 x1 x2 x3 x4 x5 ∧ p2 x1 x2 x3 x4 x5 ∧ p3 x1 x2 x3 x4 x5 ∧ p4 x1 x2 x3 x4 x5 ∧ p5 x1 x2 x3 x4 x5 ∧ p6 x1 x2 x3 x4 x5) (k : ∀ x1 x2 x3 x4 x5, p1 x1 x2 x3 x4 x5 → p2 x1 x2 x3 x4 x5 → p3 x1 x2 x3 x4 x5 → p4 x1 x2 x3 x4 x5 → p5 x1 x2 x3 x4 x5 → p6 x1 x2 x3 x4 x5 → P) : P :=
  Exists.elim h fun x1 q1 => Exists.elim q1 fun x2 q2 => Exists.elim q2 fun x3 q3 => Exists.elim q3 fun x4 q4 => Exists.elim q4 fun x5 q => k x1 x2 x3 x4 x5 q.1 q.2.1 q.2.2.1 q.2.2.2.1 q.2.2.2.2.1 q.2.2.2.2.2
theorem ea_5_12 {α1 α2 α3 α4 α5 : Type} {p1 p2 p3 p4 p5 p6 p7 p8 p9 p10 p11 p12 : α1 → α2 → α3 → α4 → α5 → Prop} {P : Prop} (h : ∃ x1 x2 x3 x4 x5, p1 x1 x2 x3 x4 x5 ∧ p2 x1 x2 x3 x4 x5 ∧ p3 x1 x2 x3 x4 x5 ∧ p4 x1 x2 x3 x4 x5 ∧ p5 x1 x2 x3 x4 x5 ∧ p6 x1 x2 x3 x4 x5 ∧ p7 x1 x2 x3 x4 x5 ∧ p8 x1 x2 x3 x4 x5 ∧ p9 x1 x2 x3 x4 x5 ∧ p10 x1 x2 x3 x4 x5 ∧ p11 x1 x2 x3 x4 x5 ∧ p12 x1 x2 x3 x4 x5) (k : ∀ x1 x2 x3 x4 x5, p1 x1 x2 x3 x4 x5 → p2 x1 x2 x3 x4 x5 → p3 x1 x2 x3 x4 x5 → p4 x1 x2 x3 x4 x5 → p5 x1 x2 x3 x4 x5 → p6 x1 x2 x3 x4 x5 → p7 x1 x2 x3 x4 x5 → p8 x1 x2 x3 x4 x5 → p9 x1 x2 x3 x4 x5 → p10 x1 x2 x3 x4 x5 → p11 x1 x2 x3 x4 x5 → p12 x1 x2 x3 x4 x5 → P) : P :=
  Exists.elim h fun x1 q1 => Exists.elim q1 fun x2 q2 => Exists.elim q2 fun x3 q3 => Exists.elim q3 fun x4 q4 => Exists.elim q4 fun x5 q => k x1 x2 x3 x4 x5 q.1 q.2.1 q.2.2.1 q.2.2.2.1 q.2.2.2.2.1 q.2.2.2.2.2.1 q.2.2.2.2.2.2.1 q.2.2.2.2.2.2.2.1 q.2.2.2.2.2.2.2.2.1 q.2.2.2.2.2.2.2.2.2.1 q.2.2.2.2.2.2.2.2.2.2.1 q.2.2.2.2.2.2.2.2.2.2.2
theorem ea_6_2 {α1 α2 α3 α4 α5 α6 : Type} {p1 p2 : α1 → α2 → α3 → α4 → α5 → α6 → Prop} {P : Prop} (h : ∃ x1 x2 x3 x4 x5 x6, p1 x1 x2 x3 x4 x5 x6 ∧ p2 x1 x2 x3 x4 x5 x6) (k : ∀ x1 x2 x3 x4 x5 x6, p1 x1 x2 x3 x4 x5 x6 → p2 x1 x2 x3 x4 x5 x6 → P) : P :=
  Exists.elim h fun x1 q1 => Exists.elim q1 fun x2 q2 => Exists.elim q2 fun x3 q3 => Exists.elim q3 fun x4 q4 => Exists.elim q4 fun x5 q5 => Exists.elim q5 fun x6 q => k x1 x2 x3 x4 x5 x6 q.1 q.2
theorem ea_6_3 {α1 α2 α3 α4 α5 α6 : Type} {p1 p2 p3 : α1 → α2 → α3 → α4 → α5 → α6 → Prop} {P : Prop} (h : ∃ x1 x2 x3 x4 x5 x6, p1 x1 x2 x3 x4 x5 x6 ∧ p2 x1 x2 x3 x4 x5 x6 ∧ p3 x1 x2 x3 x4 x5 x6) (k : ∀ x1 x2 x3 x4 x5 x6, p1 x1 x2 x3 x4 x5 x6 → p2 x1 x2 x3 x4 x5 x6 → p3 x1 x2 x3 x4 x5 x6 → P) : P :=
  Exists.elim h fun x1 q1 => Exists.elim q1 fun x2 q2 => Exists.elim q2 fun x3 q3 => Exists.elim q3 fun x4 q4 => Exists.elim q4 fun x5 q5 => Exists.elim q5 fun x6 q => k x1 x2 x3 x4 x5 x6 q.1 q.2.1 q.2.2
theorem ea_6_4 {α1 α2 α3 α4 α5 α6 : Type} {p1 p2 p3 p4 : α1 → α2 → α3 → α4 → α5 → α6 → Prop} {P : Prop} (h : ∃ x1 x2 x3 x4 x5 x6, p1 x1 x2 x3 x4 x5 x6 ∧ p2 x1 x2 x3 x4 x5 x6 ∧ p3 x1 x2 x3 x4 x5 x6 ∧ p4 x1 x2 x3 x4 x5 x6) (k : ∀ x1 x2 x3 x4 x5 x6, p1 x1 x2 x3 x4 x5 x6 → p2 x1 x2 x3 x4 x5 x6 → p3 x1 x2 x3 x4 x5 x6 → p4 x1 x2 x3 x4 x5 x6 → P) : P :=
  Exists.elim h fun x1 q1 => Exists.elim q1 fun x2 q2 => Exists.elim q2 fun x3 q3 => Exists.elim q3 fun x4 q4 => Exists.elim q4 fun x5 q5 => Exists.elim q5 fun x6 q => k x1 x2 x3 x4 x5 x6 q.1 q.2.1 q.2.2.1 q.2.2.2
theorem ea_6_5 {α1 α2 α3 α4 α5 α6 : Type} {p1 p2 p3 p4 p5 : α1 → α2 → α3 → α4 → α5 → α6 → Prop} {P : Prop} (h : ∃ x1 x2 x3 x4 x5 x6, p1 x1 x2 x3 x4 x5 x6 ∧ p2 x1 x2 x3 x4 x5 x6 ∧ p3 x1 x2 x3 x4 x5 x6 ∧ p4 x1 x2 x3 x4 x5 x6 ∧ p5 x1 x2 x3 x4 x5 x6) (k : ∀ x1 x2 x3 x4 x5 x6, p1 x1 x2 x3 x4 x5 x6 → p2 x1 x2 x3 x4 x5 x6 → p3 x1 x2 x3 x4 x5 x6 → p4 x1 x2 x3 x4 x5 x6 → p5 x1 x2 x3 x4 x5 x6 → P) : P :=
  Exists.elim h fun x1 q1 => Exists.elim q1 fun x2 q2 => Exists.elim q2 fun x3 q3 => Exists.elim q3 fun x4 q4 => Exists.elim q4 fun x5 q5 => Exists.elim q5 fun x6 q => k x1 x2 x3 x4 x5 x6 q.1 q.2.1 q.2.2.1 q.2.2.2.1 q.2.2.2.2
theorem ea_7_2 {α1 α2 α3 α4 α5 α6 α7 : Type} {p1 p2 : α1 → α2 → α3 → α4 → α5 → α6 → α7 → Prop} {P : Prop} (h : ∃ x1 x2 x3 x4 x5 x6 x7, p1 x1 x2 x3 x4 x5 x6 x7 ∧ p2 x1 x2 x3 x4 x5 x6 x7) (k : ∀ x1 x2 x3 x4 x5 x6 x7, p1 x1 x2 x3 x4 x5 x6 x7 → p2 x1 x2 x3 x4 x5 x6 x7 → P) : P :=
  Exists.elim h fun x1 q1 => Exists.elim q1 fun x2 q2 => Exists.elim q2 fun x3 q3 => Exists.elim q3 fun x4 q4 => Exists.elim q4 fun x5 q5 => Exists.elim q5 fun x6 q6 => Exists.elim q6 fun x7 q => k x1 x2 x3 x4 x5 x6 x7 q.1 q.2
theorem ea_7_4 {α1 α2 α3 α4 α5 α6 α7 : Type} {p1 p2 p3 p4 : α1 → α2 → α3 → α4 → α5 → α6 → α7 → Prop} {P : Prop} (h : ∃ x1 x2 x3 x4 x5 x6 x7, p1 x1 x2 x3 x4 x5 x6 x7 ∧ p2 x1 x2 x3 x4 x5 x6 x7 ∧ p3 x1 x2 x3 x4 x5 x6 x7 ∧ p4 x1 x2 x3 x4 x5 x6 x7) (k : ∀ x1 x2 x3 x4 x5 x6 x7, p1 x1 x2 x3 x4 x5 x6 x7 → p2 x1 x2 x3 x4 x5 x6 x7 → p3 x1 x2 x3 x4 x5 x6 x7 → p4 x1 x2 x3 x4 x5 x6 x7 → P) : P :=
  Exists.elim h fun x1 q1 => Exists.elim q1 fun x2 q2 => Exists.elim q2 fun x3 q3 => Exists.elim q3 fun x4 q4 => Exists.elim q4 fun x5 q5 => Exists.elim q5 fun x6 q6 => Exists.elim q6 fun x7 q => k x1 x2 x3 x4 x5 x6 x7 q.1 q.2.1 q.2.2.1 q.2.2.2
theorem ea_8_1 {α1 α2 α3 α4 α5 α6 α7 α8 : Type} {p1 : α1 → α2 → α3 → α4 → α5 → α6 → α7 → α8 → Prop} {P : Prop} (h : ∃ x1 x2 x3 x4 x5 x6 x7 x8, p1 x1 x2 x3 x4 x5 x6 x7 x8) (k : ∀ x1 x2 x3 x4 x5 x6 x7 x8, p1 x1 x2 x3 x4 x5 x6 x7 x8 → P) : P :=
  Exists.elim h fun x1 q1 => Exists.elim q1 fun x2 q2 => Exists.elim q2 fun x3 q3 => Exists.elim q3 fun x4 q4 => Exists.elim q4 fun x5 q5 => Exists.elim q5 fun x6 q6 => Exists.elim q6 fun x7 q7 => Exists.elim q7 fun x8 q => k x1 x2 x3 x4 x5 x6 x7 x8 q
theorem ea_8_5 {α1 α2 α3 α4 α5 α6 α7 α8 : Type} {p1 p2 p3 p4 p5 : α1 → α2 → α3 → α4 → α5 → α6 → α7 → α8 → Prop} {P : Prop} (h : ∃ x1 x2 x3 x4 x5 x6 x7 x8, p1 x1 x2 x3 x4 x5 x6 x7 x8 ∧ p2 x1 x2 x3 x4 x5 x6 x7 x8 ∧ p3 x1 x2 x3 x4 x5 x6 x7 x8 ∧ p4 x1 x2 x3 x4 x5 x6 x7 x8 ∧ p5 x1 x2 x3 x4 x5 x6 x7 x8) (k : ∀ x1 x2 x3 x4 x5 x6 x7 x8, p1 x1 x2 x3 x4 x5 x6 x7 x8 → p2 x1 x2 x3 x4 x5 x6 x7 x8 → p3 x1 x2 x3 x4 x5 x6 x7 x8 → p4 x1 x2 x3 x4 x5 x6 x7 x8 → p5 x1 x2 x3 x4 x5 x6 x7 x8 → P) : P :=
  Exists.elim h fun x1 q1 => Exists.elim q1 fun x2 q2 => Exists.elim q2 fun x3 q3 => Exists.elim q3 fun x4 q4 => Exists.elim q4 fun x5 q5 => Exists.elim q5 fun x6 q6 => Exists.elim q6 fun x7 q7 => Exists.elim q7 fun x8 q => k x1 x2 x3 x4 x5 x6 x7 x8 q.1 q.2.1 q.2.2.1 q.2.2.2.1 q.2.2.2.2
theorem ea_8_6 {α1 α2 α3 α4 α5 α6 α7 α8 : Type} {p1 p2 p3 p4 p5 p6 : α1 → α2 → α3 → α4 → α5 → α6 → α7 → α8 → Prop} {P : Prop} (h : ∃ x1 x2 x3 x4 x5 x6 x7 x8, p1 x1 x2 x3 x4 x5 x6 x7 x8 ∧ p2 x1 x2 x3 x4 x5 x6 x7 x8 ∧ p3 x1 x2 x3 x4 x5 x6 x7 x8 ∧ p4 x1 x2 x3 x4 x5 x6 x7 x8 ∧ p5 x1 x2 x3 x4 x5 x6 x7 x8 ∧ p6 x1 x2 x3 x4 x5 x6 x7 x8) (k : ∀ x1 x2 x3 x4 x5 x6 x7 x8, p1 x1 x2 x3 x4 x5 x6 x7 x8 → p2 x1 x2 x3 x4 x5 x6 x7 x8 → p3 x1 x2 x3 x4 x5 x6 x7 x8 → p4 x1 x2 x3 x4 x5 x6 x7 x8 → p5 x1 x2 x3 x4 x5 x6 x7 x8 → p6 x1 x2 x3 x4 x5 x6 x7 x8 → P) : P :=
  Exists.elim h fun x1 q1 => Exists.elim q1 fun x2 q2 => Exists.elim q2 fun x3 q3 => Exists.elim q3 fun x4 q4 => Exists.elim q4 fun x5 q5 => Exists.elim q5 fun x6 q6 => Exists.elim q6 fun x7 q7 => Exists.elim q7 fun x8 q => k x1 x2 x3 x4 x5 x6 x7 x8 q.1 q.2.1 q.2.2.1 q.2.2.2.1 q.2.2.2.2.1 q.2.2.2.2.2
end Mine
namespace Mine
open PySem
noncomputable def glUsed : List (Str × PyData) := [
  ((Str.ofString "NO_NEWLINE"), .str (Str.ofString "\\ No newline at end of file\n")),
  ((Str.ofString "_law_mark"), .str (Str.ofString "\\ No newline at end of file\n")),
  ((Str.ofString "_law_suffixes"), .tuple [.str (Str.ofString ""), .str (Str.ofString "\r"), .str (Str.ofString "\u2028"), .str (Str.ofString " ")]),
  ((Str.ofString "_law_slots"), .tuple [.tuple [.str (Str.ofString "x"), .str (Str.ofString "x"), .str (Str.ofString "x"), .str (Str.ofString " x")], .tuple [.str (Str.ofString "x"), .str (Str.ofString "x"), .str (Str.ofString "y"), .str (Str.ofString "-x+y")], .tuple [.str (Str.ofString "x"), .str (Str.ofString "y"), .str (Str.ofString "x"), .str (Str.ofString " y")], .tuple [.str (Str.ofString "x"), .str (Str.ofString "y"), .str (Str.ofString "y"), .str (Str.ofString " y")], .tuple [.str (Str.ofString "x"), .str (Str.ofString "y"), .str (Str.ofString "z"), .str (Str.ofString "+< y+=+z+>")], .tuple [.str (Str.ofString ""), .str (Str.ofString ""), .str (Str.ofString "y"), .str (Str.ofString "+y")], .tuple [.str (Str.ofString ""), .str (Str.ofString "y"), .str (Str.ofString ""), .str (Str.ofString " y")], .tuple [.str (Str.ofString "x"), .str (Str.ofString "x"), .str (Str.ofString ""), .str (Str.ofString "-x")], .tuple [.str (Str.ofString "x"), .str (Str.ofString ""), .str (Str.ofString "z"), .str (Str.ofString "+<+=+z+>")], .tuple [.str (Str.ofString "x"), .str (Str.ofString "y"), .str (Str.ofString ""), .str (Str.ofString "+< y+=+>")], .tuple [.str (Str.ofString "xy"), .str (Str.ofString "xy"), .str (Str.ofString "yx"), .str (Str.ofString "-x y+x")], .tuple [.str (Str.ofString "xy"), .str (Str.ofString "yx"), .str (Str.ofString "xz"), .str (Str.ofString "+< y x+=+x+z+>")]]),
  ((Str.ofString "_law_tails"), .tuple [.tuple [.str (Str.ofString ""), .str (Str.ofString ""), .str (Str.ofString ""), .str (Str.ofString "")], .tuple [.str (Str.ofString "X"), .str (Str.ofString "X"), .str (Str.ofString "X"), .str (Str.ofString " X")], .tuple [.str (Str.ofString "x"), .str (Str.ofString "x"), .str (Str.ofString "X"), .str (Str.ofString "-x+X")], .tuple [.str (Str.ofString "X"), .str (Str.ofString "X"), .str (Str.ofString "x"), .str (Str.ofString "-X+x")], .tuple [.str (Str.ofString "X"), .str (Str.ofString "Y"), .str (Str.ofString "X"), .str (Str.ofString " Y")], .tuple [.str (Str.ofString "X"), .str (Str.ofString "Y"), .str (Str.ofString "x"), .str (Str.ofString "-Y+<+y+=+x+>")], .tuple [.str (Str.ofString "x"), .str (Str.ofString "y"), .str (Str.ofString "X"), .str (Str.ofString "+< y+=+x+>")], .tuple [.str (Str.ofString ""), .str (Str.ofString ""), .str (Str.ofString "X"), .str (Str.ofString "+X")], .tuple [.str (Str.ofString "X"), .str (Str.ofString ""), .str (Str.ofString "x"), .str (Str.ofString "+<+=+x+>")], .tuple [.str (Str.ofString ""), .str (Str.ofString "Y"), .str (Str.ofString ""), .str (Str.ofString " Y")]])]
inductive PV where
  | d (x : PyData)
  | di (m : List (Int × Int))
  | ds (m : List (Str × Str))
  deriving Inhabited
inductive BOp where
  | add | sub | mul | mod
  deriving DecidableEq
inductive COp where
  | eq | ne | lt | le | gt | ge | isin
  deriving DecidableEq
mutual
inductive PE where
  | var (i : Nat)
  | none
  | bool (b : Bool)
  | int (i : Int)
  | neg (e : PE)
  | str (s : Str)
  | glob (k : Nat)
  | tup (es : PEs)
  | lst (es : PEs)
  | dstr (kvs : List (Str × Str))
  | bin (op : BOp) (a b : PE)
  | cmp (op : COp) (a b : PE)
  | typeNotInt (e : PE)
  | idx (a i : PE)
  | sl (a lo hi : PE)
  | call (f : Nat) (n : Str) (args : PEs)
  | len (e : PE)
  | mx (a b : PE)
  | mn (a b : PE)
  | abs (e : PE)
  | list (e : PE)
  | join (e : PE)
  | splitnl (e : PE)
  | lower (e : PE)
  | fstr (es : PEs)
  | comp (caps : List Nat) (elt it : PE)
  | compIf (caps : List Nat) (elt it cond : PE)
  | anyg (caps : List Nat) (elt it : PE)
  | range1 (a : PE)
  | range2 (a b : PE)
  | range3 (a b c : PE)
  | ownIdx (i : Nat) (e : PE)
  | ownIdx2 (i : Nat) (e1 e2 : PE)
  | ownNeNil (i : Nat)
  | andE (es : PEs)
  | orE (es : PEs)
  | notE (e : PE)
inductive PEs where
  | nil
  | cons (e : PE) (es : PEs)
end
mutual
inductive PS where
  | asg (i : Nat) (e : PE)
  | ownL (i : Nat)
  | ownD (i : Nat)
  | ownC (i : Nat) (e : PE)
  | ownT (i : Nat) (caps : List Nat) (w h : PE)
  | unp (i j : Nat) (e : PE)
  | aug (i : Nat) (e : PE)
  | app (i : Nat) (e : PE)
  | put (i : Nat) (k e : PE)
  | put2 (i : Nat) (k1 k2 e : PE)
  | ite (t : PE) (a b : PSs)
  | whl (t : PE) (b : PSs)
  | for1 (i : Nat) (it : PE) (b : PSs)
  | for2 (i j : Nat) (it : PE) (b : PSs)
  | ret (e : PE)
  | freeze (i : Nat)
inductive PSs where
  | nil
  | cons (s : PS) (ss : PSs)
end
inductive OV where
  | lst (xs : List PyData)
  | dict (m : List (Int × Int))
  | tab (rows : List (List PyData))
  deriving Inhabited
structure St where
  vars : List (Option PV)
  ow : Option (Nat × OV)
  deriving Inhabited
noncomputable def St.get (σ : St) (i : Nat) : Option PV := σ.vars.getD i Option.none
noncomputable def St.set (σ : St) (i : Nat) (p : PV) : St := ⟨σ.vars.set i (some p), match σ.ow with
  | some (j, o) => if j = i then Option.none else some (j, o)
  | Option.none => Option.none⟩
noncomputable def St.setOw (σ : St) (i : Nat) (o : OV) : St := ⟨σ.vars.set i Option.none, some (i, o)⟩
noncomputable def lim : Nat := 1000000
noncomputable def clip (v : Int) (n : Nat) : Nat := (if v < 0 then v + n else v).toNat
noncomputable def loN (lo : Option Int) (n : Nat) : Nat := match lo with | Option.none => 0 | some v => clip v n
noncomputable def hiN (hi : Option Int) (n : Nat) : Nat := match hi with | Option.none => n | some v => clip v n
noncomputable def pslice {α : Type} (lo hi : Option Int) (xs : List α) : List α := (xs.take (hiN hi xs.length)).drop (loN lo xs.length)
noncomputable def pidx {α : Type} (xs : List α) (k : Int) : Option α :=
  if k < 0 then (if k + xs.length < 0 then Option.none else xs[(k + xs.length).toNat]?) else xs[k.toNat]?
noncomputable def sOk (s : Str) : Bool := PyData.strOk s && decide (s.length ≤ lim)
noncomputable def strOfList (l : List Nat) : Str := ⟨l.toArray⟩
noncomputable def chars (s : Str) : List PyData := s.cps.toList.map fun c => .str ⟨#[c]⟩
noncomputable def asStrs : List PyData → Option (List Str)
  | [] => some []
  | .str s :: r => (asStrs r).map (s :: ·)
  | _ => Option.none
noncomputable def binop (op : BOp) (x y : PV) : Option PV :=
  (@PV.casesOn (fun Z => Option PV) x (fun x => (@PV.casesOn (fun Z => Option PV) y (fun y => (@PyData.casesOn (fun Z => Option PV) x Option.none (fun Z => Option.none) (fun a => (@PyData.casesOn (fun Z => Option PV) y Option.none (fun Z => Option.none) (fun b => (@BOp.casesOn (fun Z => Option PV) op (some (.d (.int (a + b)))) (some (.d (.int (a - b)))) Option.none (if b = 0 then Option.none else some (.d (.int (a.fmod b)))))) (fun Z => Option.none) (fun Z => Option.none) (fun Z => Option.none) (fun Z => Option.none))) (fun a => (@PyData.casesOn (fun Z => Option PV) y Option.none (fun Z => Option.none) (fun n => (@BOp.casesOn (fun Z => Option PV) op Option.none Option.none (if 0 ≤ n ∧ n ≤ 1000 ∧ a.length ≤ 1000 then some (.d (.str (Txt.mul a n))) else Option.none) Option.none)) (fun b => (@BOp.casesOn (fun Z => Option PV) op (if a.length + b.length ≤ lim then some (.d (.str (a ++ b))) else Option.none) Option.none Option.none Option.none)) (fun Z => Option.none) (fun Z => Option.none) (fun Z => Option.none))) (fun a => (@PyData.casesOn (fun Z => Option PV) y Option.none (fun Z => Option.none) (fun Z => Option.none) (fun Z => Option.none) (fun b => (@BOp.casesOn (fun Z => Option PV) op (if a.length + b.length ≤ lim then some (.d (.list (a ++ b))) else Option.none) Option.none Option.none Option.none)) (fun Z => Option.none) (fun Z => Option.none))) (fun Z => Option.none) (fun Z => Option.none))) (fun Z => Option.none) (fun Z => Option.none))) (fun Z => Option.none) (fun Z => Option.none))
noncomputable def cmpop (op : COp) (x y : PV) : Option Bool :=
  (@PV.casesOn (fun Z => Option Bool) x (fun x => (@PV.casesOn (fun Z => Option Bool) y (fun y => (@PyData.casesOn (fun Z => Option Bool) x Option.none (fun Z => Option.none) (fun a => (@PyData.casesOn (fun Z => Option Bool) y Option.none (fun Z => Option.none) (fun b => (@COp.casesOn (fun Z => Option Bool) op (some (decide (a = b))) (some (!decide (a = b))) (some (decide (a < b))) (some (decide (a ≤ b))) (some (decide (a > b))) (some (decide (a ≥ b))) Option.none)) (fun Z => Option.none) (fun Z => Option.none) (fun Z => Option.none) (fun Z => Option.none))) (fun a => (@PyData.casesOn (fun Z => Option Bool) y Option.none (fun Z => Option.none) (fun Z => Option.none) (fun b => (@COp.casesOn (fun Z => Option Bool) op (some (decide (a = b))) (some (!decide (a = b))) Option.none Option.none Option.none Option.none (some (Txt.contains b a)))) (fun Z => Option.none) (fun Z => Option.none) (fun Z => Option.none))) (fun a => (@PyData.casesOn (fun Z => Option Bool) y Option.none (fun Z => Option.none) (fun Z => Option.none) (fun Z => Option.none) (fun b => (@COp.casesOn (fun Z => Option Bool) op (if PyData.depthAll a ≤ 8 then some (PyData.eqvAll a b) else Option.none) (if PyData.depthAll a ≤ 8 then some (!PyData.eqvAll a b) else Option.none) Option.none Option.none Option.none Option.none Option.none)) (fun Z => Option.none) (fun Z => Option.none))) (fun Z => Option.none) (fun Z => Option.none))) (fun m => (@PyData.casesOn (fun Z => Option Bool) x Option.none (fun Z => Option.none) (fun k => (@COp.casesOn (fun Z => Option Bool) op Option.none Option.none Option.none Option.none Option.none Option.none (some (m.lookup k).isSome))) (fun Z => Option.none) (fun Z => Option.none) (fun Z => Option.none) (fun Z => Option.none))) (fun m => (@PyData.casesOn (fun Z => Option Bool) x Option.none (fun Z => Option.none) (fun Z => Option.none) (fun k => (@COp.casesOn (fun Z => Option Bool) op Option.none Option.none Option.none Option.none Option.none Option.none (some (m.lookup k).isSome))) (fun Z => Option.none) (fun Z => Option.none) (fun Z => Option.none))))) (fun Z => Option.none) (fun Z => Option.none))
noncomputable def idxop (x y : PV) : Option PV :=
  (@PV.casesOn (fun Z => Option PV) y (fun y => (@PV.casesOn (fun Z => Option PV) x (fun x => (@PyData.casesOn (fun Z => Option PV) y Option.none (fun Z => Option.none) (fun k => (@PyData.casesOn (fun Z => Option PV) x Option.none (fun Z => Option.none) (fun Z => Option.none) (fun s => (pidx s.cps.toList k).map fun c => .d (.str ⟨#[c]⟩)) (fun xs => (pidx xs k).map .d) (fun xs => (pidx xs k).map .d) (fun Z => Option.none))) (fun Z => Option.none) (fun Z => Option.none) (fun Z => Option.none) (fun Z => Option.none))) (fun m => (@PyData.casesOn (fun Z => Option PV) y Option.none (fun Z => Option.none) (fun k => (m.lookup k).map fun v => .d (.int v)) (fun Z => Option.none) (fun Z => Option.none) (fun Z => Option.none) (fun Z => Option.none))) (fun m => (@PyData.casesOn (fun Z => Option PV) y Option.none (fun Z => Option.none) (fun Z => Option.none) (fun k => (m.lookup k).map fun v => .d (.str v)) (fun Z => Option.none) (fun Z => Option.none) (fun Z => Option.none))))) (fun Z => Option.none) (fun Z => Option.none))
noncomputable def part : PV → Option (Option Int)
  | .d .none => some Option.none
  | .d (.int i) => some (some i)
  | _ => Option.none
noncomputable def slop : PV → PV → PV → Option PV
  | .d (.list xs), l, h => do return .d (.list (pslice (← part l) (← part h) xs))
  | .d (.str s), l, h => do return .d (.str (strOfList (pslice (← part l) (← part h) s.cps.toList)))
  | _, _, _ => Option.none
noncomputable def lenop : PV → Option PV
  | .d (.list xs) => some (.d (.int xs.length))
  | .d (.tuple xs) => some (.d (.int xs.length))
  | .d (.str s) => some (.d (.int s.length))
  | _ => Option.none
noncomputable def rangeL (a b c : Int) : Option (List PyData) :=
  if c = 0 ∨ Builtin.Range.small a b c = false ∨ (Builtin.Range.rangeSize a b c).toNat > lim then Option.none
  else some ((List.range (Builtin.Range.rangeSize a b c).toNat).map fun (k : Nat) => .int (a + k * c))
noncomputable def textOf : PV → Option Str
  | .d (.str s) => if s.length ≤ 1000 then some s else Option.none
  | .d (.int i) => if 0 ≤ i ∧ i < 1000000000 then some (Str.ofString (toString i)) else Option.none
  | _ => Option.none
noncomputable def asData : List PV → Option (List PyData)
  | [] => some []
  | .d x :: r => (asData r).map (x :: ·)
  | _ => Option.none
noncomputable def mapO {α β : Type} (f : α → Option β) : List α → Option (List β)
  | [] => some []
  | x :: r => match f x with
    | Option.none => Option.none
    | some y => match mapO f r with
      | Option.none => Option.none
      | some ys => some (y :: ys)
noncomputable def filterMapO {α β : Type} (t : α → Option Bool) (f : α → Option β) : List α → Option (List β)
  | [] => some []
  | x :: r => match t x with
    | Option.none => Option.none
    | some false => filterMapO t f r
    | some true => match f x with
      | Option.none => Option.none
      | some y => match filterMapO t f r with
        | Option.none => Option.none
        | some ys => some (y :: ys)
noncomputable def inner (σ : St) (caps : List Nat) (x : PyData) : St := ⟨some (.d x) :: caps.map σ.get, Option.none⟩
noncomputable def toD : PV → Option PyData
  | .d x => some x
  | _ => Option.none
noncomputable def concatStr : List Str → Str
  | [] => Str.empty
  | x :: r => x ++ concatStr r
section
variable (C : Nat → List PV → Option PV)
mutual
noncomputable def pe : PE → St → Option PV
  | .var i, σ => σ.get i
  | .none, _ => some (.d .none)
  | .bool b, _ => some (.d (.bool b))
  | .int i, _ => some (.d (.int i))
  | .neg e, σ => match pe e σ with | some (.d (.int i)) => some (.d (.int (-i))) | _ => Option.none
  | .str s, _ => some (.d (.str s))
  | .glob k, _ => (glUsed[k]?).map fun y => .d y.2
  | .tup es, σ => match pes es σ with | some vs => (asData vs).map fun xs => .d (.tuple xs) | _ => Option.none
  | .lst es, σ => match pes es σ with | some vs => (asData vs).map fun xs => .d (.list xs) | _ => Option.none
  | .dstr kvs, _ => some (.ds kvs)
  | .bin op a b, σ => match pe a σ, pe b σ with | some x, some y => binop op x y | _, _ => Option.none
  | .cmp op a b, σ => match pe a σ, pe b σ with | some x, some y => (cmpop op x y).map fun b => .d (.bool b) | _, _ => Option.none
  | .typeNotInt e, σ => match pe e σ with | some (.d (.int _)) => some (.d (.bool false)) | _ => Option.none
  | .idx a i, σ => match pe a σ, pe i σ with | some x, some y => idxop x y | _, _ => Option.none
  | .sl a l h, σ => match pe a σ, pe l σ, pe h σ with | some x, some y, some z => slop x y z | _, _, _ => Option.none
  | .call f _ args, σ => match pes args σ with | some vs => C f vs | _ => Option.none
  | .len e, σ => match pe e σ with | some x => lenop x | _ => Option.none
  | .mx a b, σ => match pe a σ, pe b σ with | some (.d (.int x)), some (.d (.int y)) => some (.d (.int (if y > x then y else x))) | _, _ => Option.none
  | .mn a b, σ => match pe a σ, pe b σ with | some (.d (.int x)), some (.d (.int y)) => some (.d (.int (if y < x then y else x))) | _, _ => Option.none
  | .abs e, σ => match pe e σ with | some (.d (.int x)) => some (.d (.int (if x < 0 then -x else x))) | _ => Option.none
  | .list e, σ => match pe e σ with | some (.d (.list xs)) => if xs.length ≤ lim then some (.d (.list xs)) else Option.none | _ => Option.none
  | .join e, σ => match pe e σ with
    | some (.d (.list xs)) => match asStrs xs with
      | some ss => if (ss.map (·.length)).sum ≤ lim then some (.d (.str (concatStr ss))) else Option.none
      | _ => Option.none
    | _ => Option.none
  | .splitnl e, σ => match pe e σ with | some (.d (.str s)) => if s.length ≤ lim then some (.d (.list ((Txt.split s ⟨#[10]⟩).map .str))) else Option.none | _ => Option.none
  | .lower e, σ => match pe e σ with | some (.d (.str s)) => if s.length ≤ 1000 ∧ sOk (Txt.lower s) = true then some (.d (.str (Txt.lower s))) else Option.none | _ => Option.none
  | .fstr es, σ => match pes es σ with
    | some vs => (match mapO textOf vs with
      | some ts => if (ts.map (·.length)).sum ≤ lim then some (.d (.str (concatStr ts))) else Option.none
      | Option.none => Option.none)
    | _ => Option.none
  | .comp caps elt it, σ => match pit it σ with
    | some xs => if xs.length ≤ lim then (mapO (fun x => match pe elt (inner σ caps x) with | some p => toD p | Option.none => Option.none) xs).map fun ys => .d (.list ys) else Option.none
    | _ => Option.none
  | .compIf caps elt it cond, σ => match pit it σ with
    | some xs => if xs.length ≤ lim then (filterMapO (fun x => pt cond (inner σ caps x)) (fun x => match pe elt (inner σ caps x) with | some p => toD p | Option.none => Option.none) xs).map fun ys => .d (.list ys) else Option.none
    | _ => Option.none
  | .anyg caps elt it, σ => match pit it σ with
    | some xs => if xs.length ≤ lim then (mapO (fun x => pt elt (inner σ caps x)) xs).map fun ys => .d (.bool (ys.any id)) else Option.none
    | _ => Option.none
  | .range1 _, _ => Option.none
  | .range2 _ _, _ => Option.none
  | .range3 _ _ _, _ => Option.none
  | .ownIdx i e, σ => match σ.ow, pe e σ with
    | some (j, .lst xs), some (.d (.int k)) => if i = j then (pidx xs k).map .d else Option.none
    | _, _ => Option.none
  | .ownIdx2 i e1 e2, σ => match σ.ow, pe e1 σ, pe e2 σ with
    | some (j, .tab rows), some (.d (.int k)), some (.d (.int l)) => if i = j then (match pidx rows k with | some r => (pidx r l).map .d | _ => Option.none) else Option.none
    | _, _, _ => Option.none
  | .ownNeNil i, σ => match σ.ow with
    | some (j, .lst xs) => if i = j then some (.d (.bool (!xs.isEmpty))) else Option.none
    | _ => Option.none
  | .andE _, _ => Option.none
  | .orE _, _ => Option.none
  | .notE _, _ => Option.none
noncomputable def pes : PEs → St → Option (List PV)
  | .nil, _ => some []
  | .cons e es, σ => match pe e σ, pes es σ with | some x, some xs => some (x :: xs) | _, _ => Option.none
noncomputable def pt : PE → St → Option Bool
  | .var _, _ => Option.none
  | .none, _ => Option.none
  | .bool _, _ => Option.none
  | .int _, _ => Option.none
  | .neg _, _ => Option.none
  | .str _, _ => Option.none
  | .glob _, _ => Option.none
  | .tup _, _ => Option.none
  | .lst _, _ => Option.none
  | .dstr _, _ => Option.none
  | .bin _ _ _, _ => Option.none
  | .cmp op a b, σ => match pe a σ, pe b σ with | some x, some y => cmpop op x y | _, _ => Option.none
  | .typeNotInt e, σ => match pe e σ with | some (.d (.int _)) => some false | _ => Option.none
  | .idx _ _, _ => Option.none
  | .sl _ _ _, _ => Option.none
  | .call _ _ _, _ => Option.none
  | .len _, _ => Option.none
  | .mx _ _, _ => Option.none
  | .mn _ _, _ => Option.none
  | .abs _, _ => Option.none
  | .list _, _ => Option.none
  | .join _, _ => Option.none
  | .splitnl _, _ => Option.none
  | .lower _, _ => Option.none
  | .fstr _, _ => Option.none
  | .comp _ _ _, _ => Option.none
  | .compIf _ _ _ _, _ => Option.none
  | .anyg caps elt it, σ => match pit it σ with
    | some xs => if xs.length ≤ lim then (mapO (fun x => pt elt (inner σ caps x)) xs).map fun ys => ys.any id else Option.none
    | _ => Option.none
  | .range1 _, _ => Option.none
  | .range2 _ _, _ => Option.none
  | .range3 _ _ _, _ => Option.none
  | .ownIdx _ _, _ => Option.none
  | .ownIdx2 _ _ _, _ => Option.none
  | .ownNeNil i, σ => match σ.ow with
    | some (j, .lst xs) => if i = j then some (!xs.isEmpty) else Option.none
    | _ => Option.none
  | .andE es, σ => pAnd es σ
  | .orE es, σ => pOr es σ
  | .notE e, σ => (pt e σ).map (!·)
noncomputable def pAnd : PEs → St → Option Bool
  | .nil, _ => some true
  | .cons e es, σ => match pt e σ with | some true => pAnd es σ | r => r
noncomputable def pOr : PEs → St → Option Bool
  | .nil, _ => some false
  | .cons e es, σ => match pt e σ with | some false => pOr es σ | r => r
noncomputable def pit : PE → St → Option (List PyData)
  | .var i, σ => match σ.get i with
    | some (.d (.list xs)) => some xs
    | some (.d (.str s)) => some (chars s)
    | _ => Option.none
  | .none, _ => Option.none
  | .bool _, _ => Option.none
  | .int _, _ => Option.none
  | .neg _, _ => Option.none
  | .str _, _ => Option.none
  | .glob _, _ => Option.none
  | .tup _, _ => Option.none
  | .lst _, _ => Option.none
  | .dstr _, _ => Option.none
  | .bin op a b, σ => match pe a σ, pe b σ with
    | some x, some y => match binop op x y with
      | some (.d (.list xs)) => some xs
      | _ => Option.none
    | _, _ => Option.none
  | .cmp _ _ _, _ => Option.none
  | .typeNotInt _, _ => Option.none
  | .idx a i, σ => match pe a σ, pe i σ with
    | some x, some y => match idxop x y with
      | some (.d (.list xs)) => some xs
      | _ => Option.none
    | _, _ => Option.none
  | .sl a l h, σ => match pe a σ, pe l σ, pe h σ with
    | some x, some y, some z => match slop x y z with
      | some (.d (.list xs)) => some xs
      | _ => Option.none
    | _, _, _ => Option.none
  | .call f _ args, σ => match pes args σ with
    | some vs => match C f vs with
      | some (.d (.list xs)) => some xs
      | _ => Option.none
    | _ => Option.none
  | .len _, _ => Option.none
  | .mx _ _, _ => Option.none
  | .mn _ _, _ => Option.none
  | .abs _, _ => Option.none
  | .list _, _ => Option.none
  | .join _, _ => Option.none
  | .splitnl _, _ => Option.none
  | .lower _, _ => Option.none
  | .fstr _, _ => Option.none
  | .comp _ _ _, _ => Option.none
  | .compIf _ _ _ _, _ => Option.none
  | .anyg _ _ _, _ => Option.none
  | .range1 a, σ => match pe a σ with | some (.d (.int x)) => rangeL 0 x 1 | _ => Option.none
  | .range2 a b, σ => match pe a σ, pe b σ with | some (.d (.int x)), some (.d (.int y)) => rangeL x y 1 | _, _ => Option.none
  | .range3 a b c, σ => match pe a σ, pe b σ, pe c σ with | some (.d (.int x)), some (.d (.int y)), some (.d (.int z)) => rangeL x y z | _, _, _ => Option.none
  | .ownIdx _ _, _ => Option.none
  | .ownIdx2 _ _ _, _ => Option.none
  | .ownNeNil _, _ => Option.none
  | .andE _, _ => Option.none
  | .orE _, _ => Option.none
  | .notE _, _ => Option.none
end
noncomputable def forO (f : PyData → St → Option (St × Option PV)) : List PyData → St → Option (St × Option PV)
  | [], σ => some (σ, Option.none)
  | x :: r, σ => match f x σ with
    | some (σ', Option.none) => forO f r σ'
    | r => r
noncomputable def whileO (t : St → Option Bool) (f : St → Option (St × Option PV)) : Nat → St → Option (St × Option PV)
  | 0, _ => Option.none
  | n + 1, σ => match t σ with
    | Option.none => Option.none
    | some false => some (σ, Option.none)
    | some true => match f σ with
      | some (σ', Option.none) => whileO t f n σ'
      | r => r
noncomputable def thaw : OV → PV
  | .lst xs => .d (.list xs)
  | .dict m => .di m
  | .tab rows => .d (.list (rows.map .list))
noncomputable def setRow (rows : List (List PyData)) (k l : Nat) (v : PyData) : List (List PyData) := rows.set k ((rows.getD k []).set l v)
mutual
noncomputable def ps : PS → St → Option (St × Option PV)
  | .asg i e, σ => match pe C e σ with | some p => some (σ.set i p, Option.none) | _ => Option.none
  | .ownL i, σ => match σ.ow with | Option.none => some (σ.setOw i (.lst []), Option.none) | _ => Option.none
  | .ownD i, σ => match σ.ow with | Option.none => some (σ.setOw i (.dict []), Option.none) | _ => Option.none
  | .ownC i e, σ => match σ.ow, pe C e σ with | Option.none, some (.d (.list xs)) => some (σ.setOw i (.lst xs), Option.none) | _, _ => Option.none
  | .ownT i caps w h, σ => match σ.ow, pit C h σ with
    | Option.none, some xs => match mapO (fun x => match pe C w (inner σ caps x) with
        | some (.d (.int n)) => if 0 ≤ n ∧ n ≤ lim then some (List.replicate n.toNat (PyData.int 0)) else Option.none
        | _ => Option.none) xs with
      | some rows => if xs.length ≤ lim then some (σ.setOw i (.tab rows), Option.none) else Option.none
      | Option.none => Option.none
    | _, _ => Option.none
  | .unp i j e, σ => match pe C e σ with | some (.d (.tuple [x, y])) => some ((σ.set i (.d x)).set j (.d y), Option.none) | _ => Option.none
  | .aug i e, σ => match σ.get i, pe C e σ with | some (.d (.int a)), some (.d (.int b)) => some (σ.set i (.d (.int (a + b))), Option.none) | _, _ => Option.none
  | .app i e, σ => match σ.ow, pe C e σ with
    | some (j, .lst xs), some (.d x) => if i = j ∧ xs.length < lim then some ({ σ with ow := some (j, .lst (xs ++ [x])) }, Option.none) else Option.none
    | _, _ => Option.none
  | .put i k e, σ => match σ.ow, pe C e σ, pe C k σ with
    | some (j, .lst xs), some (.d x), some (.d (.int a)) =>
      if i = j ∧ -(xs.length : Int) ≤ a ∧ a < xs.length then some ({ σ with ow := some (j, .lst (xs.set (if a < 0 then a + xs.length else a).toNat x)) }, Option.none) else Option.none
    | some (j, .dict m), some (.d (.int x)), some (.d (.int a)) => if i = j ∧ m.length < lim then some ({ σ with ow := some (j, .dict ((a, x) :: m)) }, Option.none) else Option.none
    | _, _, _ => Option.none
  | .put2 i k1 k2 e, σ => match σ.ow, pe C e σ, pe C k1 σ, pe C k2 σ with
    | some (j, .tab rows), some (.d x), some (.d (.int a)), some (.d (.int b)) =>
      if i = j ∧ 0 ≤ a ∧ a < rows.length ∧ 0 ≤ b ∧ b < (rows.getD a.toNat []).length then some ({ σ with ow := some (j, .tab (setRow rows a.toNat b.toNat x)) }, Option.none) else Option.none
    | _, _, _, _ => Option.none
  | .ite t a b, σ => match pt C t σ with
    | some true => pss a σ
    | some false => pss b σ
    | _ => Option.none
  | .whl t b, σ => whileO (pt C t) (pss b) lim σ
  | .for1 i it b, σ => match pit C it σ with
    | some xs => forO (fun x σ => pss b (σ.set i (.d x))) xs σ
    | _ => Option.none
  | .for2 i j it b, σ => match pe C it σ with
    | some (.d (.list xs)) => forO (fun x σ => match x with
      | .tuple [x, y] => pss b ((σ.set i (.d x)).set j (.d y))
      | _ => Option.none) xs σ
    | _ => Option.none
  | .ret e, σ => match pe C e σ with | some p => some (σ, some p) | _ => Option.none
  | .freeze i, σ => match σ.ow with
    | some (j, o) => if i = j then some (⟨σ.vars.set i (some (thaw o)), Option.none⟩, Option.none) else Option.none
    | _ => Option.none
noncomputable def pss : PSs → St → Option (St × Option PV)
  | .nil, σ => some (σ, Option.none)
  | .cons s ss, σ => match ps s σ with
    | some (σ', Option.none) => pss ss σ'
    | r => r
end
end
section
variable {C : Nat → List PV → Option PV} {σ : St}
theorem ptAnd {es : PEs} : pt C (.andE es) σ = pAnd C es σ := rfl
theorem ptOr {es : PEs} : pt C (.orE es) σ = pOr C es σ := rfl
theorem ptNot {e : PE} : pt C (.notE e) σ = (pt C e σ).map (!·) := rfl
theorem ptCmp {op : COp} {a b : PE} : pt C (.cmp op a b) σ = (match pe C a σ, pe C b σ with | some x, some y => cmpop op x y | _, _ => Option.none) := rfl
theorem ptAny {caps : List Nat} {elt it : PE} : pt C (.anyg caps elt it) σ = (match pit C it σ with
    | some xs => if xs.length ≤ lim then (mapO (fun x => pt C elt (inner σ caps x)) xs).map fun ys => ys.any id else Option.none
    | _ => Option.none) := rfl
theorem ptTni {e : PE} : pt C (.typeNotInt e) σ = (match pe C e σ with | some (.d (.int _)) => some false | _ => Option.none) := rfl
theorem pitR1 {a : PE} : pit C (.range1 a) σ = (match pe C a σ with | some (.d (.int x)) => rangeL 0 x 1 | _ => Option.none) := rfl
theorem pitR2 {a b : PE} : pit C (.range2 a b) σ = (match pe C a σ, pe C b σ with | some (.d (.int x)), some (.d (.int y)) => rangeL x y 1 | _, _ => Option.none) := rfl
theorem pitR3 {a b c : PE} : pit C (.range3 a b c) σ = (match pe C a σ, pe C b σ, pe C c σ with | some (.d (.int x)), some (.d (.int y)), some (.d (.int z)) => rangeL x y z | _, _, _ => Option.none) := rfl
theorem pitVar {i : Nat} : pit C (.var i) σ = (match σ.get i with
    | some (.d (.list xs)) => some xs
    | some (.d (.str s)) => some (chars s)
    | _ => Option.none) := rfl
theorem pitBin {op : BOp} {a b : PE} : pit C (.bin op a b) σ = (match pe C a σ, pe C b σ with
    | some x, some y => match binop op x y with
      | some (.d (.list xs)) => some xs
      | _ => Option.none
    | _, _ => Option.none) := rfl
theorem pitSl {a l h : PE} : pit C (.sl a l h) σ = (match pe C a σ, pe C l σ, pe C h σ with
    | some x, some y, some z => match slop x y z with
      | some (.d (.list xs)) => some xs
      | _ => Option.none
    | _, _, _ => Option.none) := rfl
theorem pitCall {f : Nat} {n : Str} {args : PEs} : pit C (.call f n args) σ = (match pes C args σ with
    | some vs => match C f vs with
      | some (.d (.list xs)) => some xs
      | _ => Option.none
    | _ => Option.none) := rfl
end
section
variable {C : Nat → List PV → Option PV} {σ : St} {a b c e : PE} {es : PEs} {i j : Nat}
theorem peVar : pe C (.var i) σ = σ.get i := rfl
theorem peInt {i : Int} : pe C (.int i) σ = some (.d (.int i)) := rfl
theorem peStr {s : Str} : pe C (.str s) σ = some (.d (.str s)) := rfl
theorem peNeg : pe C (.neg e) σ = (match pe C e σ with | some (.d (.int i)) => some (.d (.int (-i))) | _ => Option.none) := rfl
theorem peTup : pe C (.tup es) σ = (match pes C es σ with | some vs => (asData vs).map fun xs => .d (.tuple xs) | _ => Option.none) := rfl
theorem peLst : pe C (.lst es) σ = (match pes C es σ with | some vs => (asData vs).map fun xs => .d (.list xs) | _ => Option.none) := rfl
theorem peBin {op : BOp} : pe C (.bin op a b) σ = (match pe C a σ, pe C b σ with | some x, some y => binop op x y | _, _ => Option.none) := rfl
theorem peIdx : pe C (.idx a b) σ = (match pe C a σ, pe C b σ with | some x, some y => idxop x y | _, _ => Option.none) := rfl
theorem peSl : pe C (.sl a b c) σ = (match pe C a σ, pe C b σ, pe C c σ with | some x, some y, some z => slop x y z | _, _, _ => Option.none) := rfl
theorem peCall {n : Str} : pe C (.call i n es) σ = (match pes C es σ with | some vs => C i vs | _ => Option.none) := rfl
theorem peLen : pe C (.len e) σ = (match pe C e σ with | some x => lenop x | _ => Option.none) := rfl
theorem peMx : pe C (.mx a b) σ = (match pe C a σ, pe C b σ with | some (.d (.int x)), some (.d (.int y)) => some (.d (.int (if y > x then y else x))) | _, _ => Option.none) := rfl
theorem peMn : pe C (.mn a b) σ = (match pe C a σ, pe C b σ with | some (.d (.int x)), some (.d (.int y)) => some (.d (.int (if y < x then y else x))) | _, _ => Option.none) := rfl
theorem peAbs : pe C (.abs e) σ = (match pe C e σ with | some (.d (.int x)) => some (.d (.int (if x < 0 then -x else x))) | _ => Option.none) := rfl
theorem peList : pe C (.list e) σ = (match pe C e σ with | some (.d (.list xs)) => if xs.length ≤ lim then some (.d (.list xs)) else Option.none | _ => Option.none) := rfl
theorem peJoin : pe C (.join e) σ = (match pe C e σ with
    | some (.d (.list xs)) => match asStrs xs with
      | some ss => if (ss.map (·.length)).sum ≤ lim then some (.d (.str (concatStr ss))) else Option.none
      | _ => Option.none
    | _ => Option.none) := rfl
theorem peSpl : pe C (.splitnl e) σ = (match pe C e σ with | some (.d (.str s)) => if s.length ≤ lim then some (.d (.list ((Txt.split s ⟨#[10]⟩).map .str))) else Option.none | _ => Option.none) := rfl
theorem peFstr : pe C (.fstr es) σ = (match pes C es σ with
    | some vs => (match mapO textOf vs with
      | some ts => if (ts.map (·.length)).sum ≤ lim then some (.d (.str (concatStr ts))) else Option.none
      | Option.none => Option.none)
    | _ => Option.none) := rfl
theorem peComp {caps : List Nat} : pe C (.comp caps a b) σ = (match pit C b σ with
    | some xs => if xs.length ≤ lim then (mapO (fun x => match pe C a (inner σ caps x) with | some p => toD p | Option.none => Option.none) xs).map fun ys => .d (.list ys) else Option.none
    | _ => Option.none) := rfl
theorem peCpIf {caps : List Nat} : pe C (.compIf caps a b c) σ = (match pit C b σ with
    | some xs => if xs.length ≤ lim then (filterMapO (fun x => pt C c (inner σ caps x)) (fun x => match pe C a (inner σ caps x) with | some p => toD p | Option.none => Option.none) xs).map fun ys => .d (.list ys) else Option.none
    | _ => Option.none) := rfl
theorem peOw2 : pe C (.ownIdx2 i a b) σ = (match σ.ow, pe C a σ, pe C b σ with
    | some (j, .tab rows), some (.d (.int k)), some (.d (.int l)) => if i = j then (match pidx rows k with | some r => (pidx r l).map .d | _ => Option.none) else Option.none
    | _, _, _ => Option.none) := rfl
theorem pesN : pes C .nil σ = some [] := rfl
theorem pesC : pes C (.cons e es) σ = (match pe C e σ, pes C es σ with | some x, some xs => some (x :: xs) | _, _ => Option.none) := rfl
theorem pAndN : pAnd C .nil σ = some true := rfl
theorem pAndC : pAnd C (.cons e es) σ = (match pt C e σ with | some true => pAnd C es σ | r => r) := rfl
theorem pOrN : pOr C .nil σ = some false := rfl
theorem pOrC : pOr C (.cons e es) σ = (match pt C e σ with | some false => pOr C es σ | r => r) := rfl
theorem psAsg : ps C (.asg i e) σ = (match pe C e σ with | some p => some (σ.set i p, Option.none) | _ => Option.none) := rfl
theorem psOwnL : ps C (.ownL i) σ = (match σ.ow with | Option.none => some (σ.setOw i (.lst []), Option.none) | _ => Option.none) := rfl
theorem psOwnC : ps C (.ownC i e) σ = (match σ.ow, pe C e σ with | Option.none, some (.d (.list xs)) => some (σ.setOw i (.lst xs), Option.none) | _, _ => Option.none) := rfl
theorem psOwnT {caps : List Nat} : ps C (.ownT i caps a b) σ = (match σ.ow, pit C b σ with
    | Option.none, some xs => match mapO (fun x => match pe C a (inner σ caps x) with
        | some (.d (.int n)) => if 0 ≤ n ∧ n ≤ lim then some (List.replicate n.toNat (PyData.int 0)) else Option.none
        | _ => Option.none) xs with
      | some rows => if xs.length ≤ lim then some (σ.setOw i (.tab rows), Option.none) else Option.none
      | Option.none => Option.none
    | _, _ => Option.none) := rfl
theorem psUnp : ps C (.unp i j e) σ = (match pe C e σ with | some (.d (.tuple [x, y])) => some ((σ.set i (.d x)).set j (.d y), Option.none) | _ => Option.none) := rfl
theorem psAug : ps C (.aug i e) σ = (match σ.get i, pe C e σ with | some (.d (.int a)), some (.d (.int b)) => some (σ.set i (.d (.int (a + b))), Option.none) | _, _ => Option.none) := rfl
theorem psApp : ps C (.app i e) σ = (match σ.ow, pe C e σ with
    | some (j, .lst xs), some (.d x) => if i = j ∧ xs.length < lim then some ({ σ with ow := some (j, .lst (xs ++ [x])) }, Option.none) else Option.none
    | _, _ => Option.none) := rfl
theorem psPut : ps C (.put i a e) σ = (match σ.ow, pe C e σ, pe C a σ with
    | some (j, .lst xs), some (.d x), some (.d (.int a)) =>
      if i = j ∧ -(xs.length : Int) ≤ a ∧ a < xs.length then some ({ σ with ow := some (j, .lst (xs.set (if a < 0 then a + xs.length else a).toNat x)) }, Option.none) else Option.none
    | some (j, .dict m), some (.d (.int x)), some (.d (.int a)) => if i = j ∧ m.length < lim then some ({ σ with ow := some (j, .dict ((a, x) :: m)) }, Option.none) else Option.none
    | _, _, _ => Option.none) := rfl
theorem psPut2 : ps C (.put2 i a b e) σ = (match σ.ow, pe C e σ, pe C a σ, pe C b σ with
    | some (j, .tab rows), some (.d x), some (.d (.int a)), some (.d (.int b)) =>
      if i = j ∧ 0 ≤ a ∧ a < rows.length ∧ 0 ≤ b ∧ b < (rows.getD a.toNat []).length then some ({ σ with ow := some (j, .tab (setRow rows a.toNat b.toNat x)) }, Option.none) else Option.none
    | _, _, _, _ => Option.none) := rfl
theorem psIte {s t : PSs} : ps C (.ite e s t) σ = (match pt C e σ with | some true => pss C s σ | some false => pss C t σ | _ => Option.none) := rfl
theorem psWhl {s : PSs} : ps C (.whl e s) σ = whileO (pt C e) (pss C s) lim σ := rfl
theorem psFor {s : PSs} : ps C (.for1 i e s) σ = (match pit C e σ with | some xs => forO (fun x σ => pss C s (σ.set i (.d x))) xs σ | _ => Option.none) := rfl
theorem psRet : ps C (.ret e) σ = (match pe C e σ with | some p => some (σ, some p) | _ => Option.none) := rfl
theorem pssN : pss C .nil σ = some (σ, Option.none) := rfl
theorem pssC {t : PS} {s : PSs} : pss C (.cons t s) σ = (match ps C t σ with | some (σ', Option.none) => pss C s σ' | r => r) := rfl
end
theorem nnA {α : Type} {x : α} {P : Prop} (h : (Option.none : Option α) = some x) : P := absurd h.symm (Option.some_ne_none x)
section
variable {α : Type} {y : α} {P : Prop}
@[reducible] noncomputable def mD {α : Type} (f : PV → Option α) (o : Option PV) : Option α := match o with | some x0 => f x0 | _ => .none
theorem eD {f : PV → Option α} {o : Option PV} (h : mD f o = some y) (k : ∀ x0, o = some x0 → f x0 = some y → P) : P :=
  (@Option.casesOn PV (fun t => o = t → mD f t = some y → P) o (fun a => nnA) (k)) rfl h
@[reducible] noncomputable def mVs {α : Type} (f : (List PV) → Option α) (o : Option (List PV)) : Option α := match o with | some x0 => f x0 | _ => .none
theorem eVs {f : (List PV) → Option α} {o : Option (List PV)} (h : mVs f o = some y) (k : ∀ x0, o = some x0 → f x0 = some y → P) : P :=
  (@Option.casesOn (List PV) (fun t => o = t → mVs f t = some y → P) o (fun a => nnA) (k)) rfl h
@[reducible] noncomputable def mXs {α : Type} (f : (List PyData) → Option α) (o : Option (List PyData)) : Option α := match o with | some x0 => f x0 | _ => .none
theorem eXs {f : (List PyData) → Option α} {o : Option (List PyData)} (h : mXs f o = some y) (k : ∀ x0, o = some x0 → f x0 = some y → P) : P :=
  (@Option.casesOn (List PyData) (fun t => o = t → mXs f t = some y → P) o (fun a => nnA) (k)) rfl h
@[reducible] noncomputable def mSs {α : Type} (f : (List Str) → Option α) (o : Option (List Str)) : Option α := match o with | some x0 => f x0 | _ => .none
theorem eSs {f : (List Str) → Option α} {o : Option (List Str)} (h : mSs f o = some y) (k : ∀ x0, o = some x0 → f x0 = some y → P) : P :=
  (@Option.casesOn (List Str) (fun t => o = t → mSs f t = some y → P) o (fun a => nnA) (k)) rfl h
@[reducible] noncomputable def mD2 {α : Type} (f : PV → PV → Option α) (o : Option PV) (o' : Option PV) : Option α := match o, o' with | some x0, some x1 => f x0 x1 | _, _ => .none
theorem eD2 {f : PV → PV → Option α} {o : Option PV} {o' : Option PV} (h : mD2 f o o' = some y) (k : ∀ x0 x1, o = some x0 → o' = some x1 → f x0 x1 = some y → P) : P :=
  (@Option.casesOn PV (fun t => o = t → mD2 f t o' = some y → P) o (fun a => nnA) (fun x0 e0 => (@Option.casesOn PV (fun t => o' = t → mD2 f (some x0) t = some y → P) o' (fun a => nnA) (fun x1 => k x0 x1 e0)) rfl)) rfl h
@[reducible] noncomputable def mDV {α : Type} (f : PV → (List PV) → Option α) (o : Option PV) (o' : Option (List PV)) : Option α := match o, o' with | some x0, some x1 => f x0 x1 | _, _ => .none
theorem eDV {f : PV → (List PV) → Option α} {o : Option PV} {o' : Option (List PV)} (h : mDV f o o' = some y) (k : ∀ x0 x1, o = some x0 → o' = some x1 → f x0 x1 = some y → P) : P :=
  (@Option.casesOn PV (fun t => o = t → mDV f t o' = some y → P) o (fun a => nnA) (fun x0 e0 => (@Option.casesOn (List PV) (fun t => o' = t → mDV f (some x0) t = some y → P) o' (fun a => nnA) (fun x1 => k x0 x1 e0)) rfl)) rfl h
@[reducible] noncomputable def mWA {α : Type} (f : Nat → OV → Option α) (o : Option (Nat × OV)) : Option α := match o with | some (x0, x1) => f x0 x1 | _ => .none
theorem eWA {f : Nat → OV → Option α} {o : Option (Nat × OV)} (h : mWA f o = some y) (k : ∀ x0 x1, o = some (x0, x1) → f x0 x1 = some y → P) : P :=
  (@Option.casesOn (Nat × OV) (fun t => o = t → mWA f t = some y → P) o (fun a => nnA) (fun z => @Prod.casesOn Nat OV (fun t => o = some t → mWA f (some t) = some y → P) z (k))) rfl h
@[reducible] noncomputable def mD3 {α : Type} (f : PV → PV → PV → Option α) (o : Option PV) (o' : Option PV) (o'' : Option PV) : Option α := match o, o', o'' with | some x0, some x1, some x2 => f x0 x1 x2 | _, _, _ => .none
theorem eD3 {f : PV → PV → PV → Option α} {o : Option PV} {o' : Option PV} {o'' : Option PV} (h : mD3 f o o' o'' = some y) (k : ∀ x0 x1 x2, o = some x0 → o' = some x1 → o'' = some x2 → f x0 x1 x2 = some y → P) : P :=
  (@Option.casesOn PV (fun t => o = t → mD3 f t o' o'' = some y → P) o (fun a => nnA) (fun x0 e0 => (@Option.casesOn PV (fun t => o' = t → mD3 f (some x0) t o'' = some y → P) o' (fun a => nnA) (fun x1 e1 => (@Option.casesOn PV (fun t => o'' = t → mD3 f (some x0) (some x1) t = some y → P) o'' (fun a => nnA) (fun x2 => k x0 x1 x2 e0 e1)) rfl)) rfl)) rfl h
@[reducible] noncomputable def mI {α : Type} (f : Int → Option α) (o : Option PV) : Option α := match o with | some (.d (.int x0)) => f x0 | _ => .none
theorem eI {f : Int → Option α} {o : Option PV} (h : mI f o = some y) (k : ∀ x0, o = some (.d (.int x0)) → f x0 = some y → P) : P :=
  (@Option.casesOn PV (fun t => o = t → mI f t = some y → P) o (fun a => nnA) (fun z => @PV.casesOn (fun t => o = some t → mI f (some t) = some y → P) z (fun z => @PyData.casesOn (fun t => o = some (.d t) → mI f (some (.d t)) = some y → P) z (fun a => nnA) (fun a b => nnA) (k) (fun a b => nnA) (fun a b => nnA) (fun a b => nnA) (fun a b => nnA)) (fun a b => nnA) (fun a b => nnA))) rfl h
@[reducible] noncomputable def mI2 {α : Type} (f : Int → Int → Option α) (o : Option PV) (o' : Option PV) : Option α := match o, o' with | some (.d (.int x0)), some (.d (.int x1)) => f x0 x1 | _, _ => .none
theorem eI2 {f : Int → Int → Option α} {o : Option PV} {o' : Option PV} (h : mI2 f o o' = some y) (k : ∀ x0 x1, o = some (.d (.int x0)) → o' = some (.d (.int x1)) → f x0 x1 = some y → P) : P :=
  (@Option.casesOn PV (fun t => o = t → mI2 f t o' = some y → P) o (fun a => nnA) (fun z => @PV.casesOn (fun t => o = some t → mI2 f (some t) o' = some y → P) z (fun z => @PyData.casesOn (fun t => o = some (.d t) → mI2 f (some (.d t)) o' = some y → P) z (fun a => nnA) (fun a b => nnA) (fun x0 e0 => (@Option.casesOn PV (fun t => o' = t → mI2 f (some (.d (.int x0))) t = some y → P) o' (fun a => nnA) (fun z => @PV.casesOn (fun t => o' = some t → mI2 f (some (.d (.int x0))) (some t) = some y → P) z (fun z => @PyData.casesOn (fun t => o' = some (.d t) → mI2 f (some (.d (.int x0))) (some (.d t)) = some y → P) z (fun a => nnA) (fun a b => nnA) (fun x1 => k x0 x1 e0) (fun a b => nnA) (fun a b => nnA) (fun a b => nnA) (fun a b => nnA)) (fun a b => nnA) (fun a b => nnA))) rfl) (fun a b => nnA) (fun a b => nnA) (fun a b => nnA) (fun a b => nnA)) (fun a b => nnA) (fun a b => nnA))) rfl h
@[reducible] noncomputable def mI3 {α : Type} (f : Int → Int → Int → Option α) (o : Option PV) (o' : Option PV) (o'' : Option PV) : Option α := match o, o', o'' with | some (.d (.int x0)), some (.d (.int x1)), some (.d (.int x2)) => f x0 x1 x2 | _, _, _ => .none
theorem eI3 {f : Int → Int → Int → Option α} {o : Option PV} {o' : Option PV} {o'' : Option PV} (h : mI3 f o o' o'' = some y) (k : ∀ x0 x1 x2, o = some (.d (.int x0)) → o' = some (.d (.int x1)) → o'' = some (.d (.int x2)) → f x0 x1 x2 = some y → P) : P :=
  (@Option.casesOn PV (fun t => o = t → mI3 f t o' o'' = some y → P) o (fun a => nnA) (fun z => @PV.casesOn (fun t => o = some t → mI3 f (some t) o' o'' = some y → P) z (fun z => @PyData.casesOn (fun t => o = some (.d t) → mI3 f (some (.d t)) o' o'' = some y → P) z (fun a => nnA) (fun a b => nnA) (fun x0 e0 => (@Option.casesOn PV (fun t => o' = t → mI3 f (some (.d (.int x0))) t o'' = some y → P) o' (fun a => nnA) (fun z => @PV.casesOn (fun t => o' = some t → mI3 f (some (.d (.int x0))) (some t) o'' = some y → P) z (fun z => @PyData.casesOn (fun t => o' = some (.d t) → mI3 f (some (.d (.int x0))) (some (.d t)) o'' = some y → P) z (fun a => nnA) (fun a b => nnA) (fun x1 e1 => (@Option.casesOn PV (fun t => o'' = t → mI3 f (some (.d (.int x0))) (some (.d (.int x1))) t = some y → P) o'' (fun a => nnA) (fun z => @PV.casesOn (fun t => o'' = some t → mI3 f (some (.d (.int x0))) (some (.d (.int x1))) (some t) = some y → P) z (fun z => @PyData.casesOn (fun t => o'' = some (.d t) → mI3 f (some (.d (.int x0))) (some (.d (.int x1))) (some (.d t)) = some y → P) z (fun a => nnA) (fun a b => nnA) (fun x2 => k x0 x1 x2 e0 e1) (fun a b => nnA) (fun a b => nnA) (fun a b => nnA) (fun a b => nnA)) (fun a b => nnA) (fun a b => nnA))) rfl) (fun a b => nnA) (fun a b => nnA) (fun a b => nnA) (fun a b => nnA)) (fun a b => nnA) (fun a b => nnA))) rfl) (fun a b => nnA) (fun a b => nnA) (fun a b => nnA) (fun a b => nnA)) (fun a b => nnA) (fun a b => nnA))) rfl h
@[reducible] noncomputable def mL {α : Type} (f : (List PyData) → Option α) (o : Option PV) : Option α := match o with | some (.d (.list x0)) => f x0 | _ => .none
theorem eL {f : (List PyData) → Option α} {o : Option PV} (h : mL f o = some y) (k : ∀ x0, o = some (.d (.list x0)) → f x0 = some y → P) : P :=
  (@Option.casesOn PV (fun t => o = t → mL f t = some y → P) o (fun a => nnA) (fun z => @PV.casesOn (fun t => o = some t → mL f (some t) = some y → P) z (fun z => @PyData.casesOn (fun t => o = some (.d t) → mL f (some (.d t)) = some y → P) z (fun a => nnA) (fun a b => nnA) (fun a b => nnA) (fun a b => nnA) (k) (fun a b => nnA) (fun a b => nnA)) (fun a b => nnA) (fun a b => nnA))) rfl h
@[reducible] noncomputable def mS {α : Type} (f : Str → Option α) (o : Option PV) : Option α := match o with | some (.d (.str x0)) => f x0 | _ => .none
theorem eS {f : Str → Option α} {o : Option PV} (h : mS f o = some y) (k : ∀ x0, o = some (.d (.str x0)) → f x0 = some y → P) : P :=
  (@Option.casesOn PV (fun t => o = t → mS f t = some y → P) o (fun a => nnA) (fun z => @PV.casesOn (fun t => o = some t → mS f (some t) = some y → P) z (fun z => @PyData.casesOn (fun t => o = some (.d t) → mS f (some (.d t)) = some y → P) z (fun a => nnA) (fun a b => nnA) (fun a b => nnA) (k) (fun a b => nnA) (fun a b => nnA) (fun a b => nnA)) (fun a b => nnA) (fun a b => nnA))) rfl h
@[reducible] noncomputable def mLS {α : Type} (f : (List PyData) → Option α) (g : Str → Option α) (o : Option PV) : Option α := match o with | some (.d (.list x0)) => f x0 | some (.d (.str x1)) => g x1 | _ => .none
theorem eLS {f : (List PyData) → Option α} {g : Str → Option α} {o : Option PV} (h : mLS f g o = some y) (k : ∀ x0, o = some (.d (.list x0)) → f x0 = some y → P) (k' : ∀ x1, o = some (.d (.str x1)) → g x1 = some y → P) : P :=
  (@Option.casesOn PV (fun t => o = t → mLS f g t = some y → P) o (fun a => nnA) (fun z => @PV.casesOn (fun t => o = some t → mLS f g (some t) = some y → P) z (fun z => @PyData.casesOn (fun t => o = some (.d t) → mLS f g (some (.d t)) = some y → P) z (fun a => nnA) (fun a b => nnA) (fun a b => nnA) (k') (k) (fun a b => nnA) (fun a b => nnA)) (fun a b => nnA) (fun a b => nnA))) rfl h
@[reducible] noncomputable def mT2 {α : Type} (f : PyData → PyData → Option α) (o : Option PV) : Option α := match o with | some (.d (.tuple [x0, x1])) => f x0 x1 | _ => .none
theorem eT2 {f : PyData → PyData → Option α} {o : Option PV} (h : mT2 f o = some y) (k : ∀ x0 x1, o = some (.d (.tuple [x0, x1])) → f x0 x1 = some y → P) : P :=
  (@Option.casesOn PV (fun t => o = t → mT2 f t = some y → P) o (fun a => nnA) (fun z => @PV.casesOn (fun t => o = some t → mT2 f (some t) = some y → P) z (fun z => @PyData.casesOn (fun t => o = some (.d t) → mT2 f (some (.d t)) = some y → P) z (fun a => nnA) (fun a b => nnA) (fun a b => nnA) (fun a b => nnA) (fun a b => nnA) (fun z => @List.casesOn PyData (fun t => o = some (.d (.tuple t)) → mT2 f (some (.d (.tuple t))) = some y → P) z (fun a => nnA) (fun x0 z => @List.casesOn PyData (fun t => o = some (.d (.tuple (x0 :: t))) → mT2 f (some (.d (.tuple (x0 :: t)))) = some y → P) z (fun a => nnA) (fun x1 z => @List.casesOn PyData (fun t => o = some (.d (.tuple (x0 :: (x1 :: t)))) → mT2 f (some (.d (.tuple (x0 :: (x1 :: t))))) = some y → P) z (k x0 x1) (fun a b c => nnA)))) (fun a b => nnA)) (fun a b => nnA) (fun a b => nnA))) rfl h
@[reducible] noncomputable def mDT2 {α : Type} (f : PyData → PyData → Option α) (o : PyData) : Option α := match o with | .tuple [x0, x1] => f x0 x1 | _ => .none
theorem eDT2 {f : PyData → PyData → Option α} {o : PyData} (h : mDT2 f o = some y) (k : ∀ x0 x1, o = .tuple [x0, x1] → f x0 x1 = some y → P) : P :=
  (@PyData.casesOn (fun t => o = t → mDT2 f t = some y → P) o (fun a => nnA) (fun a b => nnA) (fun a b => nnA) (fun a b => nnA) (fun a b => nnA) (fun z => @List.casesOn PyData (fun t => o = .tuple t → mDT2 f (.tuple t) = some y → P) z (fun a => nnA) (fun x0 z => @List.casesOn PyData (fun t => o = .tuple (x0 :: t) → mDT2 f (.tuple (x0 :: t)) = some y → P) z (fun a => nnA) (fun x1 z => @List.casesOn PyData (fun t => o = .tuple (x0 :: (x1 :: t)) → mDT2 f (.tuple (x0 :: (x1 :: t))) = some y → P) z (k x0 x1) (fun a b c => nnA)))) (fun a b => nnA)) rfl h
@[reducible] noncomputable def mN {α : Type} (f : Option α) (o : Option (Nat × OV)) : Option α := match o with | Option.none => f | _ => .none
theorem eN {f : Option α} {o : Option (Nat × OV)} (h : mN f o = some y) (k : o = Option.none → f = some y → P) : P :=
  (@Option.casesOn (Nat × OV) (fun t => o = t → mN f t = some y → P) o (k) (fun a b => nnA)) rfl h
@[reducible] noncomputable def mNL {α : Type} (f : (List PyData) → Option α) (o : Option (Nat × OV)) (o' : Option PV) : Option α := match o, o' with | Option.none, some (.d (.list x0)) => f x0 | _, _ => .none
theorem eNL {f : (List PyData) → Option α} {o : Option (Nat × OV)} {o' : Option PV} (h : mNL f o o' = some y) (k : ∀ x0, o = Option.none → o' = some (.d (.list x0)) → f x0 = some y → P) : P :=
  (@Option.casesOn (Nat × OV) (fun t => o = t → mNL f t o' = some y → P) o (fun e0 => (@Option.casesOn PV (fun t => o' = t → mNL f Option.none t = some y → P) o' (fun a => nnA) (fun z => @PV.casesOn (fun t => o' = some t → mNL f Option.none (some t) = some y → P) z (fun z => @PyData.casesOn (fun t => o' = some (.d t) → mNL f Option.none (some (.d t)) = some y → P) z (fun a => nnA) (fun a b => nnA) (fun a b => nnA) (fun a b => nnA) (fun x0 => k x0 e0) (fun a b => nnA) (fun a b => nnA)) (fun a b => nnA) (fun a b => nnA))) rfl) (fun a b => nnA)) rfl h
@[reducible] noncomputable def mNX {α : Type} (f : (List PyData) → Option α) (o : Option (Nat × OV)) (o' : Option (List PyData)) : Option α := match o, o' with | Option.none, some x0 => f x0 | _, _ => .none
theorem eNX {f : (List PyData) → Option α} {o : Option (Nat × OV)} {o' : Option (List PyData)} (h : mNX f o o' = some y) (k : ∀ x0, o = Option.none → o' = some x0 → f x0 = some y → P) : P :=
  (@Option.casesOn (Nat × OV) (fun t => o = t → mNX f t o' = some y → P) o (fun e0 => (@Option.casesOn (List PyData) (fun t => o' = t → mNX f Option.none t = some y → P) o' (fun a => nnA) (fun x0 => k x0 e0)) rfl) (fun a b => nnA)) rfl h
@[reducible] noncomputable def mW {α : Type} (f : Nat → (List PyData) → Option α) (o : Option (Nat × OV)) : Option α := match o with | some (x0, .lst x1) => f x0 x1 | _ => .none
theorem eW {f : Nat → (List PyData) → Option α} {o : Option (Nat × OV)} (h : mW f o = some y) (k : ∀ x0 x1, o = some (x0, .lst x1) → f x0 x1 = some y → P) : P :=
  (@Option.casesOn (Nat × OV) (fun t => o = t → mW f t = some y → P) o (fun a => nnA) (fun z => @Prod.casesOn Nat OV (fun t => o = some t → mW f (some t) = some y → P) z (fun x0 z => @OV.casesOn (fun t => o = some (x0, t) → mW f (some (x0, t)) = some y → P) z (k x0) (fun a b => nnA) (fun a b => nnA)))) rfl h
@[reducible] noncomputable def mWI {α : Type} (f : Nat → (List PyData) → Int → Option α) (o : Option (Nat × OV)) (o' : Option PV) : Option α := match o, o' with | some (x0, .lst x1), some (.d (.int x2)) => f x0 x1 x2 | _, _ => .none
theorem eWI {f : Nat → (List PyData) → Int → Option α} {o : Option (Nat × OV)} {o' : Option PV} (h : mWI f o o' = some y) (k : ∀ x0 x1 x2, o = some (x0, .lst x1) → o' = some (.d (.int x2)) → f x0 x1 x2 = some y → P) : P :=
  (@Option.casesOn (Nat × OV) (fun t => o = t → mWI f t o' = some y → P) o (fun a => nnA) (fun z => @Prod.casesOn Nat OV (fun t => o = some t → mWI f (some t) o' = some y → P) z (fun x0 z => @OV.casesOn (fun t => o = some (x0, t) → mWI f (some (x0, t)) o' = some y → P) z (fun x1 e0 => (@Option.casesOn PV (fun t => o' = t → mWI f (some (x0, (.lst x1))) t = some y → P) o' (fun a => nnA) (fun z => @PV.casesOn (fun t => o' = some t → mWI f (some (x0, (.lst x1))) (some t) = some y → P) z (fun z => @PyData.casesOn (fun t => o' = some (.d t) → mWI f (some (x0, (.lst x1))) (some (.d t)) = some y → P) z (fun a => nnA) (fun a b => nnA) (fun x2 => k x0 x1 x2 e0) (fun a b => nnA) (fun a b => nnA) (fun a b => nnA) (fun a b => nnA)) (fun a b => nnA) (fun a b => nnA))) rfl) (fun a b => nnA) (fun a b => nnA)))) rfl h
@[reducible] noncomputable def mWII {α : Type} (f : Nat → (List (List PyData)) → Int → Int → Option α) (o : Option (Nat × OV)) (o' : Option PV) (o'' : Option PV) : Option α := match o, o', o'' with | some (x0, .tab x1), some (.d (.int x2)), some (.d (.int x3)) => f x0 x1 x2 x3 | _, _, _ => .none
theorem eWII {f : Nat → (List (List PyData)) → Int → Int → Option α} {o : Option (Nat × OV)} {o' : Option PV} {o'' : Option PV} (h : mWII f o o' o'' = some y) (k : ∀ x0 x1 x2 x3, o = some (x0, .tab x1) → o' = some (.d (.int x2)) → o'' = some (.d (.int x3)) → f x0 x1 x2 x3 = some y → P) : P :=
  (@Option.casesOn (Nat × OV) (fun t => o = t → mWII f t o' o'' = some y → P) o (fun a => nnA) (fun z => @Prod.casesOn Nat OV (fun t => o = some t → mWII f (some t) o' o'' = some y → P) z (fun x0 z => @OV.casesOn (fun t => o = some (x0, t) → mWII f (some (x0, t)) o' o'' = some y → P) z (fun a b => nnA) (fun a b => nnA) (fun x1 e0 => (@Option.casesOn PV (fun t => o' = t → mWII f (some (x0, (.tab x1))) t o'' = some y → P) o' (fun a => nnA) (fun z => @PV.casesOn (fun t => o' = some t → mWII f (some (x0, (.tab x1))) (some t) o'' = some y → P) z (fun z => @PyData.casesOn (fun t => o' = some (.d t) → mWII f (some (x0, (.tab x1))) (some (.d t)) o'' = some y → P) z (fun a => nnA) (fun a b => nnA) (fun x2 e1 => (@Option.casesOn PV (fun t => o'' = t → mWII f (some (x0, (.tab x1))) (some (.d (.int x2))) t = some y → P) o'' (fun a => nnA) (fun z => @PV.casesOn (fun t => o'' = some t → mWII f (some (x0, (.tab x1))) (some (.d (.int x2))) (some t) = some y → P) z (fun z => @PyData.casesOn (fun t => o'' = some (.d t) → mWII f (some (x0, (.tab x1))) (some (.d (.int x2))) (some (.d t)) = some y → P) z (fun a => nnA) (fun a b => nnA) (fun x3 => k x0 x1 x2 x3 e0 e1) (fun a b => nnA) (fun a b => nnA) (fun a b => nnA) (fun a b => nnA)) (fun a b => nnA) (fun a b => nnA))) rfl) (fun a b => nnA) (fun a b => nnA) (fun a b => nnA) (fun a b => nnA)) (fun a b => nnA) (fun a b => nnA))) rfl)))) rfl h
@[reducible] noncomputable def mWD {α : Type} (f : Nat → (List PyData) → PyData → Option α) (o : Option (Nat × OV)) (o' : Option PV) : Option α := match o, o' with | some (x0, .lst x1), some (.d x2) => f x0 x1 x2 | _, _ => .none
theorem eWD {f : Nat → (List PyData) → PyData → Option α} {o : Option (Nat × OV)} {o' : Option PV} (h : mWD f o o' = some y) (k : ∀ x0 x1 x2, o = some (x0, .lst x1) → o' = some (.d x2) → f x0 x1 x2 = some y → P) : P :=
  (@Option.casesOn (Nat × OV) (fun t => o = t → mWD f t o' = some y → P) o (fun a => nnA) (fun z => @Prod.casesOn Nat OV (fun t => o = some t → mWD f (some t) o' = some y → P) z (fun x0 z => @OV.casesOn (fun t => o = some (x0, t) → mWD f (some (x0, t)) o' = some y → P) z (fun x1 e0 => (@Option.casesOn PV (fun t => o' = t → mWD f (some (x0, (.lst x1))) t = some y → P) o' (fun a => nnA) (fun z => @PV.casesOn (fun t => o' = some t → mWD f (some (x0, (.lst x1))) (some t) = some y → P) z (fun x2 => k x0 x1 x2 e0) (fun a b => nnA) (fun a b => nnA))) rfl) (fun a b => nnA) (fun a b => nnA)))) rfl h
@[reducible] noncomputable def mPut {α : Type} (f : Nat → (List PyData) → PyData → Int → Option α) (g : Nat → (List (Int × Int)) → Int → Int → Option α) (o : Option (Nat × OV)) (o' : Option PV) (o'' : Option PV) : Option α := match o, o', o'' with | some (x0, .lst x1), some (.d x2), some (.d (.int x3)) => f x0 x1 x2 x3 | some (x0, .dict x5), some (.d (.int x6)), some (.d (.int x7)) => g x0 x5 x6 x7 | _, _, _ => .none
theorem ePut {f : Nat → (List PyData) → PyData → Int → Option α} {g : Nat → (List (Int × Int)) → Int → Int → Option α} {o : Option (Nat × OV)} {o' : Option PV} {o'' : Option PV} (h : mPut f g o o' o'' = some y) (k : ∀ x0 x1 x2 x3, o = some (x0, .lst x1) → o' = some (.d x2) → o'' = some (.d (.int x3)) → f x0 x1 x2 x3 = some y → P) (k' : ∀ x0 x5 x6 x7, o = some (x0, .dict x5) → o' = some (.d (.int x6)) → o'' = some (.d (.int x7)) → g x0 x5 x6 x7 = some y → P) : P :=
  (@Option.casesOn (Nat × OV) (fun t => o = t → mPut f g t o' o'' = some y → P) o (fun a => nnA) (fun z => @Prod.casesOn Nat OV (fun t => o = some t → mPut f g (some t) o' o'' = some y → P) z (fun x0 z => @OV.casesOn (fun t => o = some (x0, t) → mPut f g (some (x0, t)) o' o'' = some y → P) z (fun x1 e0 => (@Option.casesOn PV (fun t => o' = t → mPut f g (some (x0, (.lst x1))) t o'' = some y → P) o' (fun a => nnA) (fun z => @PV.casesOn (fun t => o' = some t → mPut f g (some (x0, (.lst x1))) (some t) o'' = some y → P) z (fun x2 e1 => (@Option.casesOn PV (fun t => o'' = t → mPut f g (some (x0, (.lst x1))) (some (.d x2)) t = some y → P) o'' (fun a => nnA) (fun z => @PV.casesOn (fun t => o'' = some t → mPut f g (some (x0, (.lst x1))) (some (.d x2)) (some t) = some y → P) z (fun z => @PyData.casesOn (fun t => o'' = some (.d t) → mPut f g (some (x0, (.lst x1))) (some (.d x2)) (some (.d t)) = some y → P) z (fun a => nnA) (fun a b => nnA) (fun x3 => k x0 x1 x2 x3 e0 e1) (fun a b => nnA) (fun a b => nnA) (fun a b => nnA) (fun a b => nnA)) (fun a b => nnA) (fun a b => nnA))) rfl) (fun a b => nnA) (fun a b => nnA))) rfl) (fun x5 e0 => (@Option.casesOn PV (fun t => o' = t → mPut f g (some (x0, (.dict x5))) t o'' = some y → P) o' (fun a => nnA) (fun z => @PV.casesOn (fun t => o' = some t → mPut f g (some (x0, (.dict x5))) (some t) o'' = some y → P) z (fun z => @PyData.casesOn (fun t => o' = some (.d t) → mPut f g (some (x0, (.dict x5))) (some (.d t)) o'' = some y → P) z (fun a => nnA) (fun a b => nnA) (fun x6 e1 => (@Option.casesOn PV (fun t => o'' = t → mPut f g (some (x0, (.dict x5))) (some (.d (.int x6))) t = some y → P) o'' (fun a => nnA) (fun z => @PV.casesOn (fun t => o'' = some t → mPut f g (some (x0, (.dict x5))) (some (.d (.int x6))) (some t) = some y → P) z (fun z => @PyData.casesOn (fun t => o'' = some (.d t) → mPut f g (some (x0, (.dict x5))) (some (.d (.int x6))) (some (.d t)) = some y → P) z (fun a => nnA) (fun a b => nnA) (fun x7 => k' x0 x5 x6 x7 e0 e1) (fun a b => nnA) (fun a b => nnA) (fun a b => nnA) (fun a b => nnA)) (fun a b => nnA) (fun a b => nnA))) rfl) (fun a b => nnA) (fun a b => nnA) (fun a b => nnA) (fun a b => nnA)) (fun a b => nnA) (fun a b => nnA))) rfl) (fun a b => nnA)))) rfl h
@[reducible] noncomputable def mPut2 {α : Type} (f : Nat → (List (List PyData)) → PyData → Int → Int → Option α) (o : Option (Nat × OV)) (o' : Option PV) (o'' : Option PV) (o''' : Option PV) : Option α := match o, o', o'', o''' with | some (x0, .tab x1), some (.d x2), some (.d (.int x3)), some (.d (.int x4)) => f x0 x1 x2 x3 x4 | _, _, _, _ => .none
theorem ePut2 {f : Nat → (List (List PyData)) → PyData → Int → Int → Option α} {o : Option (Nat × OV)} {o' : Option PV} {o'' : Option PV} {o''' : Option PV} (h : mPut2 f o o' o'' o''' = some y) (k : ∀ x0 x1 x2 x3 x4, o = some (x0, .tab x1) → o' = some (.d x2) → o'' = some (.d (.int x3)) → o''' = some (.d (.int x4)) → f x0 x1 x2 x3 x4 = some y → P) : P :=
  (@Option.casesOn (Nat × OV) (fun t => o = t → mPut2 f t o' o'' o''' = some y → P) o (fun a => nnA) (fun z => @Prod.casesOn Nat OV (fun t => o = some t → mPut2 f (some t) o' o'' o''' = some y → P) z (fun x0 z => @OV.casesOn (fun t => o = some (x0, t) → mPut2 f (some (x0, t)) o' o'' o''' = some y → P) z (fun a b => nnA) (fun a b => nnA) (fun x1 e0 => (@Option.casesOn PV (fun t => o' = t → mPut2 f (some (x0, (.tab x1))) t o'' o''' = some y → P) o' (fun a => nnA) (fun z => @PV.casesOn (fun t => o' = some t → mPut2 f (some (x0, (.tab x1))) (some t) o'' o''' = some y → P) z (fun x2 e1 => (@Option.casesOn PV (fun t => o'' = t → mPut2 f (some (x0, (.tab x1))) (some (.d x2)) t o''' = some y → P) o'' (fun a => nnA) (fun z => @PV.casesOn (fun t => o'' = some t → mPut2 f (some (x0, (.tab x1))) (some (.d x2)) (some t) o''' = some y → P) z (fun z => @PyData.casesOn (fun t => o'' = some (.d t) → mPut2 f (some (x0, (.tab x1))) (some (.d x2)) (some (.d t)) o''' = some y → P) z (fun a => nnA) (fun a b => nnA) (fun x3 e2 => (@Option.casesOn PV (fun t => o''' = t → mPut2 f (some (x0, (.tab x1))) (some (.d x2)) (some (.d (.int x3))) t = some y → P) o''' (fun a => nnA) (fun z => @PV.casesOn (fun t => o''' = some t → mPut2 f (some (x0, (.tab x1))) (some (.d x2)) (some (.d (.int x3))) (some t) = some y → P) z (fun z => @PyData.casesOn (fun t => o''' = some (.d t) → mPut2 f (some (x0, (.tab x1))) (some (.d x2)) (some (.d (.int x3))) (some (.d t)) = some y → P) z (fun a => nnA) (fun a b => nnA) (fun x4 => k x0 x1 x2 x3 x4 e0 e1 e2) (fun a b => nnA) (fun a b => nnA) (fun a b => nnA) (fun a b => nnA)) (fun a b => nnA) (fun a b => nnA))) rfl) (fun a b => nnA) (fun a b => nnA) (fun a b => nnA) (fun a b => nnA)) (fun a b => nnA) (fun a b => nnA))) rfl) (fun a b => nnA) (fun a b => nnA))) rfl)))) rfl h
@[reducible] noncomputable def mB {α : Type} (f : Option α) (g : Option α) (o : Option Bool) : Option α := match o with | some true => f | some false => g | _ => .none
theorem eB {f : Option α} {g : Option α} {o : Option Bool} (h : mB f g o = some y) (k : o = some true → f = some y → P) (k' : o = some false → g = some y → P) : P :=
  (@Option.casesOn Bool (fun t => o = t → mB f g t = some y → P) o (fun a => nnA) (fun z => @Bool.casesOn (fun t => o = some t → mB f g (some t) = some y → P) z (k') (k))) rfl h
@[reducible] noncomputable def mTs {α : Type} (f : (List Str) → Option α) (o : Option (List Str)) : Option α := match o with | some x0 => f x0 | Option.none => .none
theorem eTs {f : (List Str) → Option α} {o : Option (List Str)} (h : mTs f o = some y) (k : ∀ x0, o = some x0 → f x0 = some y → P) : P :=
  (@Option.casesOn (List Str) (fun t => o = t → mTs f t = some y → P) o (fun a => nnA) (k)) rfl h
@[reducible] noncomputable def mRs {α : Type} (f : (List (List PyData)) → Option α) (o : Option (List (List PyData))) : Option α := match o with | some x0 => f x0 | Option.none => .none
theorem eRs {f : (List (List PyData)) → Option α} {o : Option (List (List PyData))} (h : mRs f o = some y) (k : ∀ x0, o = some x0 → f x0 = some y → P) : P :=
  (@Option.casesOn (List (List PyData)) (fun t => o = t → mRs f t = some y → P) o (fun a => nnA) (k)) rfl h
@[reducible] noncomputable def mP {α : Type} (f : PV → Option α) (o : Option PV) : Option α := match o with | some x0 => f x0 | Option.none => .none
theorem eP {f : PV → Option α} {o : Option PV} (h : mP f o = some y) (k : ∀ x0, o = some x0 → f x0 = some y → P) : P :=
  (@Option.casesOn PV (fun t => o = t → mP f t = some y → P) o (fun a => nnA) (k)) rfl h
@[reducible] noncomputable def mR (f : St → Option (St × Option PV)) (o : Option (St × Option PV)) : Option (St × Option PV) := match o with | some (σ', .none) => f σ' | r => r
theorem eR {f : St → Option (St × Option PV)} {o : Option (St × Option PV)} {y : St × Option PV} (h : mR f o = some y) (k : ∀ σ', o = some (σ', .none) → f σ' = some y → P) (k' : ∀ σ' p, o = some (σ', some p) → some (σ', some p) = some y → P) : P :=
  (@Option.casesOn (St × Option PV) (fun t => o = t → mR f t = some y → P) o (fun a => nnA) (fun z => @Prod.casesOn St (Option PV) (fun t => o = some t → mR f (some t) = some y → P) z (fun σ' q => @Option.casesOn PV (fun t => o = some (σ', t) → mR f (some (σ', t)) = some y → P) q (k σ') (k' σ')))) rfl h
theorem eIf {c : Prop} [D : Decidable c] {f : Option α} (h : (if c then f else .none) = some y) (k : c → f = some y → P) : P :=
  @Decidable.casesOn c (fun D => (@ite (Option α) c D f .none) = some y → P) D (fun a => nnA) k h
end
@[reducible] noncomputable def mCo (f : List Str → Bool) (o : Option (List Str)) : Bool := match o with | some x => f x | Option.none => false
theorem eCo {f : List Str → Bool} {o : Option (List Str)} {P : Prop} (h : mCo f o = true) (k : ∀ x, o = some x → f x = true → P) : P :=
  (@Option.casesOn (List Str) (fun t => o = t → mCo f t = true → P) o (fun a q => absurd q Bool.false_ne_true) k) rfl h
@[reducible] noncomputable def mMap {β : Type} (o : Option β) (o' : Option (List β)) : Option (List β) := match o with | .none => .none | some y => match o' with | .none => .none | some ys => some (y :: ys)
theorem eMap {α β : Type} {f : α → Option β} {x : α} {l : List α} {r : List β} {P : Prop} (h : mapO f (x :: l) = some r) (k : ∀ y ys, f x = some y → mapO f l = some ys → some (y :: ys) = some r → P) : P :=
  (@Option.casesOn β (fun t => f x = t → mMap t (mapO f l) = some r → P) (f x) (fun a => nnA) (fun y e => (@Option.casesOn (List β) (fun t => mapO f l = t → mMap (some y) t = some r → P) (mapO f l) (fun a => nnA) (fun ys => k y ys e)) rfl)) rfl h
@[reducible] noncomputable def mFil {β : Type} (b : Option Bool) (o : Option β) (o' : Option (List β)) : Option (List β) := match b with | .none => .none | some false => o' | some true => match o with | .none => .none | some y => match o' with | .none => .none | some ys => some (y :: ys)
theorem eFil {α β : Type} {t : α → Option Bool} {f : α → Option β} {x : α} {l : List α} {r : List β} {P : Prop} (h : filterMapO t f (x :: l) = some r) (k : t x = some false → filterMapO t f l = some r → P) (k' : ∀ y ys, t x = some true → f x = some y → filterMapO t f l = some ys → some (y :: ys) = some r → P) : P :=
  (@Option.casesOn Bool (fun b => t x = b → mFil b (f x) (filterMapO t f l) = some r → P) (t x) (fun a => nnA) (fun z => @Bool.casesOn (fun b => t x = some b → mFil (some b) (f x) (filterMapO t f l) = some r → P) z k
    (fun e0 => (@Option.casesOn β (fun o => f x = o → mFil (some true) o (filterMapO t f l) = some r → P) (f x) (fun a => nnA) (fun y e => (@Option.casesOn (List β) (fun o => filterMapO t f l = o → mFil (some true) (some y) o = some r → P) (filterMapO t f l) (fun a => nnA) (fun ys => k' y ys e0 e)) rfl)) rfl))) rfl h
theorem eTxt {p : PV} {t : Str} {P : Prop} (h : textOf p = some t) (k : ∀ s, p = .d (.str s) → s.length ≤ 1000 → some s = some t → P) (k' : ∀ i, p = .d (.int i) → 0 ≤ i ∧ i < 1000000000 → some (Str.ofString (toString i)) = some t → P) : P :=
  (@PV.casesOn (fun v => p = v → textOf v = some t → P) p (fun d => @PyData.casesOn (fun v => p = .d v → textOf (.d v) = some t → P) d (fun a => nnA) (fun a b => nnA) (fun i e h => eIf h (k' i e)) (fun s e h => eIf h (k s e)) (fun a b => nnA) (fun a b => nnA) (fun a b => nnA)) (fun a b => nnA) (fun a b => nnA)) rfl h
theorem subI {p2 p0 q : PV} {P : Prop} (h : binop .sub p2 p0 = some q) (k : ∀ i z, p2 = .d (.int i) → p0 = .d (.int z) → some (PV.d (.int (i - z))) = some q → P) : P :=
  (@PV.casesOn (fun v => p2 = v → binop .sub v p0 = some q → P) p2 (fun d e => (@PV.casesOn (fun v => p0 = v → binop .sub (.d d) v = some q → P) p0 (fun d' => @PyData.casesOn (fun t => p2 = .d t → p0 = .d d' → binop .sub (.d t) (.d d') = some q → P) d (fun a b => nnA) (fun a b c => nnA)
    (fun i ei => @PyData.casesOn (fun t => p0 = .d t → binop .sub (.d (.int i)) (.d t) = some q → P) d' (fun a => nnA) (fun a b => nnA) (fun z => k i z ei) (fun a b => nnA) (fun a b => nnA) (fun a b => nnA) (fun a b => nnA))
    (fun s a => @PyData.casesOn (fun t => p0 = .d t → binop .sub (.d (.str s)) (.d t) = some q → P) d' (fun a => nnA) (fun a b => nnA) (fun a b => nnA) (fun a b => nnA) (fun a b => nnA) (fun a b => nnA) (fun a b => nnA))
    (fun s a => @PyData.casesOn (fun t => p0 = .d t → binop .sub (.d (.list s)) (.d t) = some q → P) d' (fun a => nnA) (fun a b => nnA) (fun a b => nnA) (fun a b => nnA) (fun a b => nnA) (fun a b => nnA) (fun a b => nnA))
    (fun a b c => nnA) (fun a b c => nnA) e) (fun a b => nnA) (fun a b => nnA)) rfl) (fun a b => nnA) (fun a b => nnA)) rfl h
theorem leI {n : Int} {p : PV} {b : Bool} {P : Prop} (h : cmpop .le (.d (.int n)) p = some b) (k : ∀ m, p = .d (.int m) → some (decide (n ≤ m)) = some b → P) : P :=
  (@PV.casesOn (fun v => p = v → cmpop .le (.d (.int n)) v = some b → P) p (fun d => @PyData.casesOn (fun t => p = .d t → cmpop .le (.d (.int n)) (.d t) = some b → P) d (fun a => nnA) (fun a b => nnA) k (fun a b => nnA) (fun a b => nnA) (fun a b => nnA) (fun a b => nnA)) (fun a b => nnA) (fun a b => nnA)) rfl h
structure Fn where
  name : Str
  arity : Nat
  names : List Str
  body : PSs
noncomputable def callAt (F : List Fn) : Nat → Nat → List PV → Option PV
  | 0, _, _ => Option.none
  | n + 1, f, args => match F[f]? with
    | Option.none => Option.none
    | some fn => if args.length = fn.arity then
        match pss (callAt F n) fn.body ⟨args.map some ++ List.replicate (fn.names.length - fn.arity) Option.none, Option.none⟩ with
        | some (_, some p) => some p
        | _ => Option.none
      else Option.none
@[reducible] noncomputable def mFn (f : Fn → Option PV) (o : Option Fn) : Option PV := match o with | Option.none => Option.none | some fn => f fn
theorem eFn {f : Fn → Option PV} {o : Option Fn} {y : PV} {P : Prop} (h : mFn f o = some y) (k : ∀ x, o = some x → f x = some y → P) : P :=
  (@Option.casesOn Fn (fun t => o = t → mFn f t = some y → P) o (fun a => nnA) k) rfl h
@[reducible] noncomputable def mRun (o : Option (St × Option PV)) : Option PV := match o with | some (_, some p) => some p | _ => Option.none
theorem eRun {o : Option (St × Option PV)} {y : PV} {P : Prop} (h : mRun o = some y) (k : ∀ σ p, o = some (σ, some p) → some p = some y → P) : P :=
  (@Option.casesOn (St × Option PV) (fun t => o = t → mRun t = some y → P) o (fun a => nnA) (fun z => @Prod.casesOn St (Option PV) (fun t => o = some t → mRun (some t) = some y → P) z (fun σ q => @Option.casesOn PV (fun t => o = some (σ, t) → mRun (some (σ, t)) = some y → P) q (fun a => nnA) (k σ)))) rfl h
noncomputable def b_lcs_table : PSs :=
  (.cons (.ownT 2 [1] (.bin .add (.len (.var 1)) (.int 1)) (.range1 (.bin .add (.len (.var 0)) (.int 1))))
  (.cons (.for1 3 (.range3 (.bin .sub (.len (.var 0)) (.int 1)) (.neg (.int 1)) (.neg (.int 1)))
    (.cons (.for1 4 (.range3 (.bin .sub (.len (.var 1)) (.int 1)) (.neg (.int 1)) (.neg (.int 1)))
      (.cons (.ite (.cmp .eq (.idx (.var 0) (.var 3)) (.idx (.var 1) (.var 4)))
        (.cons (.put2 2 (.var 3) (.var 4) (.bin .add (.ownIdx2 2 (.bin .add (.var 3) (.int 1)) (.bin .add (.var 4) (.int 1))) (.int 1)))
        .nil)
        (.cons (.put2 2 (.var 3) (.var 4) (.mx (.ownIdx2 2 (.bin .add (.var 3) (.int 1)) (.var 4)) (.ownIdx2 2 (.var 3) (.bin .add (.var 4) (.int 1)))))
        .nil))
      .nil))
    .nil))
  (.cons (.freeze 2)
  (.cons (.ret (.var 2))
  .nil))))
noncomputable def f_lcs_table : Fn := ⟨(Str.ofString "lcs_table"), 2, [(Str.ofString "a"), (Str.ofString "b"), (Str.ofString "table"), (Str.ofString "i"), (Str.ofString "j")], b_lcs_table⟩
noncomputable def b_lcs_length : PSs :=
  (.cons (.ret (.idx (.idx (.call 0 (Str.ofString "lcs_table") (.cons (.var 0) (.cons (.var 1) .nil))) (.int 0)) (.int 0)))
  .nil)
noncomputable def f_lcs_length : Fn := ⟨(Str.ofString "lcs_length"), 2, [(Str.ofString "a"), (Str.ofString "b")], b_lcs_length⟩
noncomputable def b_matches_of : PSs :=
  (.cons (.asg 2 (.call 0 (Str.ofString "lcs_table") (.cons (.var 0) (.cons (.var 1) .nil))))
  (.cons (.ownL 3)
  (.cons (.asg 4 (.int 0))
  (.cons (.asg 5 (.int 0))
  (.cons (.whl (.andE (.cons (.cmp .lt (.var 4) (.len (.var 0))) (.cons (.cmp .lt (.var 5) (.len (.var 1))) .nil)))
    (.cons (.ite (.cmp .eq (.idx (.var 0) (.var 4)) (.idx (.var 1) (.var 5)))
      (.cons (.app 3 (.tup (.cons (.var 4) (.cons (.var 5) .nil))))
      (.cons (.aug 4 (.int 1))
      (.cons (.aug 5 (.int 1))
      .nil)))
      (.cons (.ite (.cmp .ge (.idx (.idx (.var 2) (.bin .add (.var 4) (.int 1))) (.var 5)) (.idx (.idx (.var 2) (.var 4)) (.bin .add (.var 5) (.int 1))))
        (.cons (.aug 4 (.int 1))
        .nil)
        (.cons (.aug 5 (.int 1))
        .nil))
      .nil))
    .nil))
  (.cons (.freeze 3)
  (.cons (.ret (.var 3))
  .nil)))))))
noncomputable def f_matches_of : Fn := ⟨(Str.ofString "matches_of"), 2, [(Str.ofString "a"), (Str.ofString "b"), (Str.ofString "table"), (Str.ofString "matches"), (Str.ofString "i"), (Str.ofString "j")], b_matches_of⟩
noncomputable def b_diff : PSs :=
  (.cons (.asg 2 (.lst .nil))
  (.cons (.asg 3 (.int 0))
  (.cons (.asg 4 (.int 0))
  (.cons (.for1 5 (.bin .add (.call 2 (Str.ofString "matches_of") (.cons (.var 0) (.cons (.var 1) .nil))) (.lst (.cons (.tup (.cons (.len (.var 0)) (.cons (.len (.var 1)) .nil))) .nil)))
    (.cons (.asg 2 (.bin .add (.var 2) (.comp [] (.tup (.cons (.str (Str.ofString "del")) (.cons (.var 0) .nil))) (.sl (.var 0) (.var 3) (.idx (.var 5) (.int 0))))))
    (.cons (.asg 2 (.bin .add (.var 2) (.comp [] (.tup (.cons (.str (Str.ofString "add")) (.cons (.var 0) .nil))) (.sl (.var 1) (.var 4) (.idx (.var 5) (.int 1))))))
    (.cons (.asg 2 (.bin .add (.var 2) (.comp [] (.tup (.cons (.str (Str.ofString "keep")) (.cons (.var 0) .nil))) (.sl (.var 0) (.idx (.var 5) (.int 0)) (.bin .add (.idx (.var 5) (.int 0)) (.int 1))))))
    (.cons (.asg 3 (.bin .add (.idx (.var 5) (.int 0)) (.int 1)))
    (.cons (.asg 4 (.bin .add (.idx (.var 5) (.int 1)) (.int 1)))
    .nil))))))
  (.cons (.ret (.var 2))
  .nil)))))
noncomputable def f_diff : Fn := ⟨(Str.ofString "diff"), 2, [(Str.ofString "a"), (Str.ofString "b"), (Str.ofString "script"), (Str.ofString "i"), (Str.ofString "j"), (Str.ofString "pair")], b_diff⟩
noncomputable def b_source_of : PSs :=
  (.cons (.ret (.compIf [] (.idx (.var 0) (.int 1)) (.var 0) (.cmp .ne (.idx (.var 0) (.int 0)) (.str (Str.ofString "add")))))
  .nil)
noncomputable def f_source_of : Fn := ⟨(Str.ofString "source_of"), 1, [(Str.ofString "script")], b_source_of⟩
noncomputable def b_target_of : PSs :=
  (.cons (.ret (.compIf [] (.idx (.var 0) (.int 1)) (.var 0) (.cmp .ne (.idx (.var 0) (.int 0)) (.str (Str.ofString "del")))))
  .nil)
noncomputable def f_target_of : Fn := ⟨(Str.ofString "target_of"), 1, [(Str.ofString "script")], b_target_of⟩
noncomputable def b_inverse_of : PSs :=
  (.cons (.ownL 1)
  (.cons (.for1 2 (.var 0)
    (.cons (.ite (.cmp .eq (.idx (.var 2) (.int 0)) (.str (Str.ofString "add")))
      (.cons (.app 1 (.tup (.cons (.str (Str.ofString "del")) (.cons (.idx (.var 2) (.int 1)) .nil))))
      .nil)
      (.cons (.ite (.cmp .eq (.idx (.var 2) (.int 0)) (.str (Str.ofString "del")))
        (.cons (.app 1 (.tup (.cons (.str (Str.ofString "add")) (.cons (.idx (.var 2) (.int 1)) .nil))))
        .nil)
        (.cons (.app 1 (.tup (.cons (.idx (.var 2) (.int 0)) (.cons (.idx (.var 2) (.int 1)) .nil))))
        .nil))
      .nil))
    .nil))
  (.cons (.freeze 1)
  (.cons (.ret (.var 1))
  .nil))))
noncomputable def f_inverse_of : Fn := ⟨(Str.ofString "inverse_of"), 1, [(Str.ofString "script"), (Str.ofString "back"), (Str.ofString "deed")], b_inverse_of⟩
noncomputable def b_hunks_of : PSs :=
  (.cons (.ownL 2)
  (.cons (.for1 3 (.range1 (.len (.var 0)))
    (.cons (.ite (.cmp .ne (.idx (.idx (.var 0) (.var 3)) (.int 0)) (.str (Str.ofString "keep")))
      (.cons (.asg 4 (.mx (.int 0) (.bin .sub (.var 3) (.var 1))))
      (.cons (.asg 5 (.mn (.len (.var 0)) (.bin .add (.bin .add (.var 3) (.var 1)) (.int 1))))
      (.cons (.ite (.andE (.cons (.ownNeNil 2) (.cons (.cmp .le (.var 4) (.idx (.ownIdx 2 (.neg (.int 1))) (.int 1))) .nil)))
        (.cons (.put 2 (.neg (.int 1)) (.tup (.cons (.idx (.ownIdx 2 (.neg (.int 1))) (.int 0)) (.cons (.var 5) .nil))))
        .nil)
        (.cons (.app 2 (.tup (.cons (.var 4) (.cons (.var 5) .nil))))
        .nil))
      .nil)))
      .nil)
    .nil))
  (.cons (.freeze 2)
  (.cons (.ownL 6)
  (.cons (.for1 7 (.var 2)
    (.cons (.asg 8 (.sl (.var 0) .none (.idx (.var 7) (.int 0))))
    (.cons (.app 6 (.tup (.cons (.len (.call 4 (Str.ofString "source_of") (.cons (.var 8) .nil))) (.cons (.len (.call 5 (Str.ofString "target_of") (.cons (.var 8) .nil))) (.cons (.sl (.var 0) (.idx (.var 7) (.int 0)) (.idx (.var 7) (.int 1))) .nil)))))
    .nil)))
  (.cons (.freeze 6)
  (.cons (.ret (.var 6))
  .nil)))))))
noncomputable def f_hunks_of : Fn := ⟨(Str.ofString "hunks_of"), 2, [(Str.ofString "script"), (Str.ofString "context"), (Str.ofString "stretches"), (Str.ofString "place"), (Str.ofString "start"), (Str.ofString "end"), (Str.ofString "hunks"), (Str.ofString "stretch"), (Str.ofString "before")], b_hunks_of⟩
noncomputable def b_hunk_text : PSs :=
  (.cons (.ownL 1)
  (.cons (.for1 2 (.var 0)
    (.cons (.app 1 (.fstr (.cons (.str (Str.ofString "@@ -")) (.cons (.idx (.var 2) (.int 0)) (.cons (.str (Str.ofString ",")) (.cons (.len (.call 4 (Str.ofString "source_of") (.cons (.idx (.var 2) (.int 2)) .nil))) (.cons (.str (Str.ofString " +")) (.cons (.idx (.var 2) (.int 1)) (.cons (.str (Str.ofString ",")) (.cons (.len (.call 5 (Str.ofString "target_of") (.cons (.idx (.var 2) (.int 2)) .nil))) (.cons (.str (Str.ofString " @@")) .nil)))))))))))
    (.cons (.for1 3 (.idx (.var 2) (.int 2))
      (.cons (.ite (.cmp .eq (.idx (.var 3) (.int 0)) (.str (Str.ofString "del")))
        (.cons (.app 1 (.bin .add (.str (Str.ofString "-")) (.idx (.var 3) (.int 1))))
        .nil)
        (.cons (.ite (.cmp .eq (.idx (.var 3) (.int 0)) (.str (Str.ofString "add")))
          (.cons (.app 1 (.bin .add (.str (Str.ofString "+")) (.idx (.var 3) (.int 1))))
          .nil)
          (.cons (.app 1 (.bin .add (.str (Str.ofString " ")) (.idx (.var 3) (.int 1))))
          .nil))
        .nil))
      .nil))
    .nil)))
  (.cons (.freeze 1)
  (.cons (.ret (.var 1))
  .nil))))
noncomputable def f_hunk_text : Fn := ⟨(Str.ofString "hunk_text"), 1, [(Str.ofString "hunks"), (Str.ofString "lines"), (Str.ofString "hunk"), (Str.ofString "deed")], b_hunk_text⟩
noncomputable def b_chunk_kind : PSs :=
  (.cons (.ite (.cmp .eq (.var 1) (.var 0))
    (.cons (.ret (.str (Str.ofString "theirs")))
    .nil)
    .nil)
  (.cons (.ite (.cmp .eq (.var 2) (.var 0))
    (.cons (.ret (.str (Str.ofString "ours")))
    .nil)
    .nil)
  (.cons (.ite (.cmp .eq (.var 1) (.var 2))
    (.cons (.ret (.str (Str.ofString "both")))
    .nil)
    .nil)
  (.cons (.ret (.str (Str.ofString "conflict")))
  .nil))))
noncomputable def f_chunk_kind : Fn := ⟨(Str.ofString "chunk_kind"), 3, [(Str.ofString "base"), (Str.ofString "ours"), (Str.ofString "theirs")], b_chunk_kind⟩
noncomputable def b_chunks_of : PSs :=
  (.cons (.ownD 3)
  (.cons (.for1 4 (.call 2 (Str.ofString "matches_of") (.cons (.var 0) (.cons (.var 1) .nil)))
    (.cons (.put 3 (.idx (.var 4) (.int 0)) (.idx (.var 4) (.int 1)))
    .nil))
  (.cons (.freeze 3)
  (.cons (.ownD 5)
  (.cons (.for1 4 (.call 2 (Str.ofString "matches_of") (.cons (.var 0) (.cons (.var 2) .nil)))
    (.cons (.put 5 (.idx (.var 4) (.int 0)) (.idx (.var 4) (.int 1)))
    .nil))
  (.cons (.freeze 5)
  (.cons (.ownL 6)
  (.cons (.asg 7 (.int 0))
  (.cons (.asg 8 (.int 0))
  (.cons (.asg 9 (.int 0))
  (.cons (.whl (.orE (.cons (.cmp .lt (.var 7) (.len (.var 0))) (.cons (.cmp .lt (.var 8) (.len (.var 1))) (.cons (.cmp .lt (.var 9) (.len (.var 2))) .nil))))
    (.cons (.asg 10 (.int 0))
    (.cons (.whl (.andE (.cons (.cmp .lt (.bin .add (.var 7) (.var 10)) (.len (.var 0))) (.cons (.cmp .isin (.bin .add (.var 7) (.var 10)) (.var 3)) (.cons (.cmp .isin (.bin .add (.var 7) (.var 10)) (.var 5)) (.cons (.cmp .eq (.idx (.var 3) (.bin .add (.var 7) (.var 10))) (.bin .add (.var 8) (.var 10))) (.cons (.cmp .eq (.idx (.var 5) (.bin .add (.var 7) (.var 10))) (.bin .add (.var 9) (.var 10))) .nil))))))
      (.cons (.aug 10 (.int 1))
      .nil))
    (.cons (.ite (.cmp .gt (.var 10) (.int 0))
      (.cons (.app 6 (.tup (.cons (.str (Str.ofString "same")) (.cons (.sl (.var 0) (.var 7) (.bin .add (.var 7) (.var 10))) (.cons (.sl (.var 1) (.var 8) (.bin .add (.var 8) (.var 10))) (.cons (.sl (.var 2) (.var 9) (.bin .add (.var 9) (.var 10))) .nil))))))
      (.cons (.aug 7 (.var 10))
      (.cons (.aug 8 (.var 10))
      (.cons (.aug 9 (.var 10))
      .nil))))
      (.cons (.asg 11 (.var 7))
      (.cons (.whl (.andE (.cons (.cmp .lt (.var 11) (.len (.var 0))) (.cons (.notE (.andE (.cons (.cmp .isin (.var 11) (.var 3)) (.cons (.cmp .isin (.var 11) (.var 5)) .nil)))) .nil)))
        (.cons (.aug 11 (.int 1))
        .nil))
      (.cons (.asg 12 (.len (.var 1)))
      (.cons (.asg 13 (.len (.var 2)))
      (.cons (.ite (.cmp .lt (.var 11) (.len (.var 0)))
        (.cons (.asg 12 (.idx (.var 3) (.var 11)))
        (.cons (.asg 13 (.idx (.var 5) (.var 11)))
        .nil))
        .nil)
      (.cons (.asg 14 (.call 9 (Str.ofString "chunk_kind") (.cons (.sl (.var 0) (.var 7) (.var 11)) (.cons (.sl (.var 1) (.var 8) (.var 12)) (.cons (.sl (.var 2) (.var 9) (.var 13)) .nil)))))
      (.cons (.app 6 (.tup (.cons (.var 14) (.cons (.sl (.var 0) (.var 7) (.var 11)) (.cons (.sl (.var 1) (.var 8) (.var 12)) (.cons (.sl (.var 2) (.var 9) (.var 13)) .nil))))))
      (.cons (.asg 7 (.var 11))
      (.cons (.asg 8 (.var 12))
      (.cons (.asg 9 (.var 13))
      .nil)))))))))))
    .nil))))
  (.cons (.freeze 6)
  (.cons (.ret (.var 6))
  .nil)))))))))))))
noncomputable def f_chunks_of : Fn := ⟨(Str.ofString "chunks_of"), 3, [(Str.ofString "base"), (Str.ofString "ours"), (Str.ofString "theirs"), (Str.ofString "to_ours"), (Str.ofString "pair"), (Str.ofString "to_theirs"), (Str.ofString "chunks"), (Str.ofString "i"), (Str.ofString "o"), (Str.ofString "t"), (Str.ofString "n"), (Str.ofString "i_end"), (Str.ofString "o_end"), (Str.ofString "t_end"), (Str.ofString "kind")], b_chunks_of⟩
noncomputable def b_merged_of : PSs :=
  (.cons (.asg 1 (.lst .nil))
  (.cons (.for1 2 (.var 0)
    (.cons (.ite (.cmp .eq (.idx (.var 2) (.int 0)) (.str (Str.ofString "conflict")))
      (.cons (.asg 1 (.bin .add (.bin .add (.bin .add (.bin .add (.bin .add (.var 1) (.lst (.cons (.str (Str.ofString "<<<<<<<")) .nil))) (.idx (.var 2) (.int 2))) (.lst (.cons (.str (Str.ofString "=======")) .nil))) (.idx (.var 2) (.int 3))) (.lst (.cons (.str (Str.ofString ">>>>>>>")) .nil))))
      .nil)
      (.cons (.ite (.cmp .eq (.idx (.var 2) (.int 0)) (.str (Str.ofString "theirs")))
        (.cons (.asg 1 (.bin .add (.var 1) (.idx (.var 2) (.int 3))))
        .nil)
        (.cons (.ite (.orE (.cons (.cmp .eq (.idx (.var 2) (.int 0)) (.str (Str.ofString "ours"))) (.cons (.cmp .eq (.idx (.var 2) (.int 0)) (.str (Str.ofString "both"))) .nil)))
          (.cons (.asg 1 (.bin .add (.var 1) (.idx (.var 2) (.int 2))))
          .nil)
          (.cons (.asg 1 (.bin .add (.var 1) (.idx (.var 2) (.int 1))))
          .nil))
        .nil))
      .nil))
    .nil))
  (.cons (.ret (.var 1))
  .nil)))
noncomputable def f_merged_of : Fn := ⟨(Str.ofString "merged_of"), 1, [(Str.ofString "chunks"), (Str.ofString "lines"), (Str.ofString "chunk")], b_merged_of⟩
noncomputable def b_conflicts_in : PSs :=
  (.cons (.ret (.len (.compIf [] (.var 0) (.var 0) (.cmp .eq (.idx (.var 0) (.int 0)) (.str (Str.ofString "conflict"))))))
  .nil)
noncomputable def f_conflicts_in : Fn := ⟨(Str.ofString "conflicts_in"), 1, [(Str.ofString "chunks")], b_conflicts_in⟩
noncomputable def b_lines_of : PSs :=
  (.cons (.asg 1 (.splitnl (.var 0)))
  (.cons (.ownC 2 (.comp [] (.bin .add (.var 0) (.str (Str.ofString "\n"))) (.sl (.var 1) .none (.neg (.int 1)))))
  (.cons (.ite (.cmp .ne (.idx (.var 1) (.neg (.int 1))) (.str (Str.ofString "")))
    (.cons (.app 2 (.idx (.var 1) (.neg (.int 1))))
    .nil)
    .nil)
  (.cons (.freeze 2)
  (.cons (.ret (.var 2))
  .nil)))))
noncomputable def f_lines_of : Fn := ⟨(Str.ofString "lines_of"), 1, [(Str.ofString "content"), (Str.ofString "parts"), (Str.ofString "lines")], b_lines_of⟩
noncomputable def b_patch_content : PSs :=
  (.cons (.ownL 1)
  (.cons (.for1 2 (.call 8 (Str.ofString "hunk_text") (.cons (.var 0) .nil))
    (.cons (.ite (.cmp .eq (.sl (.var 2) .none (.int 1)) (.str (Str.ofString "@")))
      (.cons (.app 1 (.bin .add (.var 2) (.str (Str.ofString "\n"))))
      .nil)
      (.cons (.ite (.cmp .eq (.sl (.var 2) (.neg (.int 1)) .none) (.str (Str.ofString "\n")))
        (.cons (.app 1 (.var 2))
        .nil)
        (.cons (.app 1 (.bin .add (.bin .add (.var 2) (.str (Str.ofString "\n"))) (.glob 0)))
        .nil))
      .nil))
    .nil))
  (.cons (.freeze 1)
  (.cons (.ret (.join (.var 1)))
  .nil))))
noncomputable def f_patch_content : Fn := ⟨(Str.ofString "patch_content"), 1, [(Str.ofString "hunks"), (Str.ofString "pieces"), (Str.ofString "line")], b_patch_content⟩
noncomputable def b_inverse_hunks : PSs :=
  (.cons (.ret (.comp [] (.tup (.cons (.idx (.var 0) (.int 1)) (.cons (.idx (.var 0) (.int 0)) (.cons (.call 6 (Str.ofString "inverse_of") (.cons (.idx (.var 0) (.int 2)) .nil)) .nil)))) (.var 0)))
  .nil)
noncomputable def f_inverse_hunks : Fn := ⟨(Str.ofString "inverse_hunks"), 1, [(Str.ofString "hunks")], b_inverse_hunks⟩
noncomputable def b_closed : PSs :=
  (.cons (.asg 1 (.join (.var 0)))
  (.cons (.ite (.andE (.cons (.cmp .ne (.var 1) (.str (Str.ofString ""))) (.cons (.cmp .ne (.idx (.var 1) (.neg (.int 1))) (.str (Str.ofString "\n"))) .nil)))
    (.cons (.ret (.bin .add (.var 1) (.str (Str.ofString "\n"))))
    .nil)
    .nil)
  (.cons (.ret (.var 1))
  .nil)))
noncomputable def f_closed : Fn := ⟨(Str.ofString "closed"), 1, [(Str.ofString "lines"), (Str.ofString "content")], b_closed⟩
noncomputable def b_merged_content : PSs :=
  (.cons (.ownL 1)
  (.cons (.for1 2 (.var 0)
    (.cons (.ite (.cmp .eq (.idx (.var 2) (.int 0)) (.str (Str.ofString "conflict")))
      (.cons (.app 1 (.bin .add (.bin .add (.bin .add (.bin .add (.str (Str.ofString "<<<<<<<\n")) (.call 16 (Str.ofString "closed") (.cons (.idx (.var 2) (.int 2)) .nil))) (.str (Str.ofString "=======\n"))) (.call 16 (Str.ofString "closed") (.cons (.idx (.var 2) (.int 3)) .nil))) (.str (Str.ofString ">>>>>>>\n"))))
      .nil)
      (.cons (.app 1 (.join (.call 11 (Str.ofString "merged_of") (.cons (.lst (.cons (.var 2) .nil)) .nil))))
      .nil))
    .nil))
  (.cons (.freeze 1)
  (.cons (.ret (.join (.var 1)))
  .nil))))
noncomputable def f_merged_content : Fn := ⟨(Str.ofString "merged_content"), 1, [(Str.ofString "chunks"), (Str.ofString "pieces"), (Str.ofString "chunk")], b_merged_content⟩
noncomputable def b_law_fixed : PSs :=
  (.cons (.ret (.dstr [((Str.ofString "<"), (Str.ofString "<<<<<<<\n")), ((Str.ofString "="), (Str.ofString "=======\n")), ((Str.ofString ">"), (Str.ofString ">>>>>>>\n")), ((Str.ofString "r"), (Str.ofString "\n")), ((Str.ofString "s"), (Str.ofString "@@\n"))]))
  .nil)
noncomputable def f_law_fixed : Fn := ⟨(Str.ofString "_law_fixed"), 0, [], b_law_fixed⟩
noncomputable def b_law_names : PSs :=
  (.cons (.ret (.dstr [((Str.ofString " "), (Str.ofString "keep")), ((Str.ofString "-"), (Str.ofString "del")), ((Str.ofString "+"), (Str.ofString "add"))]))
  .nil)
noncomputable def f_law_names : Fn := ⟨(Str.ofString "_law_names"), 0, [], b_law_names⟩
noncomputable def b_law_turn : PSs :=
  (.cons (.ret (.dstr [((Str.ofString " "), (Str.ofString " ")), ((Str.ofString "-"), (Str.ofString "+")), ((Str.ofString "+"), (Str.ofString "-"))]))
  .nil)
noncomputable def f_law_turn : Fn := ⟨(Str.ofString "_law_turn"), 0, [], b_law_turn⟩
noncomputable def b_law_run : PSs :=
  (.cons (.ret (.tup (.cons (.bin .mul (.var 0) (.var 1)) (.cons (.bin .mul (.var 0) (.var 1)) (.cons (.bin .mul (.var 0) (.var 1)) (.cons (.bin .mul (.bin .add (.str (Str.ofString " ")) (.var 0)) (.var 1)) .nil))))))
  .nil)
noncomputable def f_law_run : Fn := ⟨(Str.ofString "_law_run"), 2, [(Str.ofString "sym"), (Str.ofString "size")], b_law_run⟩
noncomputable def b_law_line : PSs :=
  (.cons (.ite (.cmp .isin (.var 0) (.call 18 (Str.ofString "_law_fixed") .nil))
    (.cons (.ret (.idx (.call 18 (Str.ofString "_law_fixed") .nil) (.var 0)))
    .nil)
    .nil)
  (.cons (.ite (.cmp .isin (.var 0) (.str (Str.ofString "xyz")))
    (.cons (.ret (.bin .add (.bin .add (.bin .add (.var 0) (.var 1)) (.var 2)) (.str (Str.ofString "\n"))))
    .nil)
    .nil)
  (.cons (.ret (.bin .add (.bin .add (.lower (.var 0)) (.var 1)) (.var 2)))
  .nil)))
noncomputable def f_law_line : Fn := ⟨(Str.ofString "_law_line"), 3, [(Str.ofString "sym"), (Str.ofString "number"), (Str.ofString "suffix")], b_law_line⟩
noncomputable def b_law_lines : PSs :=
  (.cons (.ownL 3)
  (.cons (.for1 4 (.var 0)
    (.cons (.app 3 (.call 22 (Str.ofString "_law_line") (.cons (.var 4) (.cons (.var 1) (.cons (.var 2) .nil)))))
    .nil))
  (.cons (.freeze 3)
  (.cons (.ret (.var 3))
  .nil))))
noncomputable def f_law_lines : Fn := ⟨(Str.ofString "_law_lines"), 3, [(Str.ofString "syms"), (Str.ofString "number"), (Str.ofString "suffix"), (Str.ofString "lines"), (Str.ofString "sym")], b_law_lines⟩
noncomputable def b_law_deeds : PSs :=
  (.cons (.ownL 3)
  (.cons (.for1 4 (.range3 (.int 0) (.len (.var 0)) (.int 2))
    (.cons (.app 3 (.tup (.cons (.idx (.var 0) (.var 4)) (.cons (.call 22 (Str.ofString "_law_line") (.cons (.idx (.var 0) (.bin .add (.var 4) (.int 1))) (.cons (.var 1) (.cons (.var 2) .nil)))) .nil))))
    .nil))
  (.cons (.freeze 3)
  (.cons (.ret (.var 3))
  .nil))))
noncomputable def f_law_deeds : Fn := ⟨(Str.ofString "_law_deeds"), 3, [(Str.ofString "text"), (Str.ofString "number"), (Str.ofString "suffix"), (Str.ofString "deeds"), (Str.ofString "i")], b_law_deeds⟩
noncomputable def b_law_hunk : PSs :=
  (.cons (.ite (.cmp .eq (.var 0) (.str (Str.ofString "")))
    (.cons (.ret (.str (Str.ofString "")))
    .nil)
    .nil)
  (.cons (.ret (.bin .add (.fstr (.cons (.str (Str.ofString "@@ -")) (.cons (.var 1) (.cons (.str (Str.ofString ",")) (.cons (.bin .sub (.var 2) (.var 1)) (.cons (.str (Str.ofString " +")) (.cons (.var 3) (.cons (.str (Str.ofString ",")) (.cons (.bin .sub (.var 4) (.var 3)) (.cons (.str (Str.ofString " @@\n")) .nil)))))))))) (.var 0)))
  .nil))
noncomputable def f_law_hunk : Fn := ⟨(Str.ofString "_law_hunk"), 5, [(Str.ofString "body"), (Str.ofString "s0"), (Str.ofString "s"), (Str.ofString "t0"), (Str.ofString "t")], b_law_hunk⟩
noncomputable def b_law_writer : PSs :=
  (.cons (.asg 2 (.compIf [0] (.var 0) (.range1 (.len (.var 0))) (.cmp .ne (.idx (.idx (.var 1) (.var 0)) (.int 0)) (.str (Str.ofString " ")))))
  (.cons (.asg 3 (.str (Str.ofString "")))
  (.cons (.asg 4 (.str (Str.ofString "")))
  (.cons (.asg 5 (.int 0))
  (.cons (.asg 6 (.int 0))
  (.cons (.asg 7 (.int 0))
  (.cons (.asg 8 (.int 0))
  (.cons (.for1 9 (.range1 (.len (.var 0)))
    (.cons (.unp 10 11 (.idx (.var 0) (.var 9)))
    (.cons (.ite (.anyg [1, 9] (.cmp .le (.abs (.bin .sub (.var 2) (.var 0))) (.var 1)) (.var 2))
      (.cons (.ite (.cmp .eq (.var 4) (.str (Str.ofString "")))
        (.cons (.asg 7 (.var 5))
        (.cons (.asg 8 (.var 6))
        .nil))
        .nil)
      (.cons (.asg 4 (.bin .add (.bin .add (.var 4) (.var 10)) (.var 11)))
      (.cons (.ite (.cmp .ne (.sl (.var 11) (.neg (.int 1)) .none) (.str (Str.ofString "\n")))
        (.cons (.asg 4 (.bin .add (.bin .add (.var 4) (.str (Str.ofString "\n"))) (.glob 1)))
        .nil)
        .nil)
      .nil)))
      (.cons (.asg 3 (.bin .add (.var 3) (.call 25 (Str.ofString "_law_hunk") (.cons (.var 4) (.cons (.var 7) (.cons (.var 5) (.cons (.var 8) (.cons (.var 6) .nil))))))))
      (.cons (.asg 4 (.str (Str.ofString "")))
      .nil)))
    (.cons (.ite (.cmp .ne (.var 10) (.str (Str.ofString "+")))
      (.cons (.aug 5 (.int 1))
      .nil)
      .nil)
    (.cons (.ite (.cmp .ne (.var 10) (.str (Str.ofString "-")))
      (.cons (.aug 6 (.int 1))
      .nil)
      .nil)
    .nil)))))
  (.cons (.ret (.bin .add (.var 3) (.call 25 (Str.ofString "_law_hunk") (.cons (.var 4) (.cons (.var 7) (.cons (.var 5) (.cons (.var 8) (.cons (.var 6) .nil))))))))
  .nil)))))))))
noncomputable def f_law_writer : Fn := ⟨(Str.ofString "_law_writer"), 2, [(Str.ofString "deeds"), (Str.ofString "context"), (Str.ofString "changed"), (Str.ofString "out"), (Str.ofString "body"), (Str.ofString "s"), (Str.ofString "t"), (Str.ofString "s0"), (Str.ofString "t0"), (Str.ofString "i"), (Str.ofString "sign"), (Str.ofString "line")], b_law_writer⟩
noncomputable def b_law : PSs :=
  (.cons (.ite (.cmp .lt (.len (.var 0)) (.int 7))
    (.cons (.ret (.bool true))
    .nil)
    .nil)
  (.cons (.asg 1 (.bin .mod (.idx (.var 0) (.int 0)) (.int 5)))
  (.cons (.ite (.cmp .eq (.var 1) (.int 4))
    (.cons (.asg 1 (.abs (.idx (.var 0) (.int 0))))
    .nil)
    .nil)
  (.cons (.asg 2 (.idx (.glob 2) (.bin .mod (.idx (.var 0) (.int 1)) (.int 4))))
  (.cons (.asg 3 (.lst (.cons (.tup (.cons (.idx (.glob 3) (.bin .mod (.idx (.var 0) (.int 2)) (.int 12))) (.cons (.str (Str.ofString "0")) .nil))) (.cons (.tup (.cons (.call 21 (Str.ofString "_law_run") (.cons (.str (Str.ofString "r")) (.cons (.bin .add (.int 1) (.bin .mod (.idx (.var 0) (.int 3)) (.int 3))) .nil))) (.cons (.str (Str.ofString "")) .nil))) (.cons (.tup (.cons (.idx (.glob 3) (.bin .mod (.idx (.var 0) (.int 4)) (.int 12))) (.cons (.str (Str.ofString "1")) .nil))) (.cons (.tup (.cons (.call 21 (Str.ofString "_law_run") (.cons (.str (Str.ofString "s")) (.cons (.bin .add (.int 1) (.bin .mod (.idx (.var 0) (.int 5)) (.int 3))) .nil))) (.cons (.str (Str.ofString "")) .nil))) (.cons (.tup (.cons (.idx (.glob 4) (.bin .mod (.idx (.var 0) (.int 6)) (.int 10))) (.cons (.str (Str.ofString "2")) .nil))) .nil)))))))
  (.cons (.asg 4 (.lst .nil))
  (.cons (.asg 5 (.lst .nil))
  (.cons (.asg 6 (.lst .nil))
  (.cons (.asg 7 (.lst .nil))
  (.cons (.asg 8 (.lst .nil))
  (.cons (.asg 9 (.int 0))
  (.cons (.for2 10 11 (.var 3)
    (.cons (.asg 12 (.call 23 (Str.ofString "_law_lines") (.cons (.idx (.var 10) (.int 1)) (.cons (.var 11) (.cons (.var 2) .nil)))))
    (.cons (.asg 13 (.call 23 (Str.ofString "_law_lines") (.cons (.idx (.var 10) (.int 2)) (.cons (.var 11) (.cons (.var 2) .nil)))))
    (.cons (.asg 14 (.call 24 (Str.ofString "_law_deeds") (.cons (.idx (.var 10) (.int 3)) (.cons (.var 11) (.cons (.var 2) .nil)))))
    (.cons (.asg 4 (.bin .add (.var 4) (.call 23 (Str.ofString "_law_lines") (.cons (.idx (.var 10) (.int 0)) (.cons (.var 11) (.cons (.var 2) .nil))))))
    (.cons (.asg 5 (.bin .add (.var 5) (.var 12)))
    (.cons (.asg 6 (.bin .add (.var 6) (.var 13)))
    (.cons (.asg 7 (.bin .add (.var 7) (.var 14)))
    (.cons (.ite (.cmp .isin (.str (Str.ofString "<")) (.idx (.var 10) (.int 3)))
      (.cons (.aug 9 (.int 1))
      (.cons (.asg 8 (.bin .add (.bin .add (.bin .add (.bin .add (.bin .add (.var 8) (.lst (.cons (.str (Str.ofString "<<<<<<<")) .nil))) (.var 12)) (.lst (.cons (.str (Str.ofString "=======")) .nil))) (.var 13)) (.lst (.cons (.str (Str.ofString ">>>>>>>")) .nil))))
      .nil))
      (.cons (.asg 8 (.bin .add (.var 8) (.compIf [] (.idx (.var 0) (.int 1)) (.var 14) (.cmp .ne (.idx (.var 0) (.int 0)) (.str (Str.ofString "-"))))))
      .nil))
    .nil)))))))))
  (.cons (.asg 15 (.compIf [] (.idx (.var 0) (.int 1)) (.var 7) (.cmp .ne (.idx (.var 0) (.int 0)) (.str (Str.ofString "-")))))
  (.cons (.asg 16 (.comp [] (.tup (.cons (.idx (.call 19 (Str.ofString "_law_names") .nil) (.idx (.var 0) (.int 0))) (.cons (.idx (.var 0) (.int 1)) .nil))) (.var 7)))
  (.cons (.asg 17 (.comp [] (.tup (.cons (.idx (.call 20 (Str.ofString "_law_turn") .nil) (.idx (.var 0) (.int 0))) (.cons (.idx (.var 0) (.int 1)) .nil))) (.var 7)))
  (.cons (.asg 18 (.call 13 (Str.ofString "lines_of") (.cons (.join (.var 4)) .nil)))
  (.cons (.asg 19 (.call 13 (Str.ofString "lines_of") (.cons (.join (.var 5)) .nil)))
  (.cons (.asg 20 (.call 13 (Str.ofString "lines_of") (.cons (.join (.var 6)) .nil)))
  (.cons (.asg 21 (.call 10 (Str.ofString "chunks_of") (.cons (.var 18) (.cons (.var 19) (.cons (.var 20) .nil)))))
  (.cons (.asg 22 (.comp [] (.tup (.cons (.idx (.var 0) (.int 0)) (.cons (.list (.idx (.var 0) (.int 1))) (.cons (.list (.idx (.var 0) (.int 2))) (.cons (.list (.idx (.var 0) (.int 3))) .nil))))) (.var 21)))
  (.cons (.ite (.cmp .ne (.call 11 (Str.ofString "merged_of") (.cons (.var 21) .nil)) (.var 8))
    (.cons (.ret (.bool false))
    .nil)
    .nil)
  (.cons (.asg 23 (.call 12 (Str.ofString "conflicts_in") (.cons (.var 21) .nil)))
  (.cons (.ite (.orE (.cons (.typeNotInt (.var 23)) (.cons (.cmp .ne (.var 23) (.var 9)) .nil)))
    (.cons (.ret (.bool false))
    .nil)
    .nil)
  (.cons (.asg 24 (.call 17 (Str.ofString "merged_content") (.cons (.var 21) .nil)))
  (.cons (.ite (.orE (.cons (.cmp .ne (.var 24) (.join (.var 15))) (.cons (.cmp .ne (.var 21) (.var 22)) .nil)))
    (.cons (.ret (.bool false))
    .nil)
    .nil)
  (.cons (.asg 25 (.call 13 (Str.ofString "lines_of") (.cons (.var 24) .nil)))
  (.cons (.asg 26 (.call 1 (Str.ofString "lcs_length") (.cons (.var 19) (.cons (.var 25) .nil))))
  (.cons (.ite (.orE (.cons (.typeNotInt (.var 26)) (.cons (.cmp .ne (.var 26) (.len (.compIf [] (.var 0) (.var 7) (.cmp .eq (.idx (.var 0) (.int 0)) (.str (Str.ofString " ")))))) .nil)))
    (.cons (.ret (.bool false))
    .nil)
    .nil)
  (.cons (.asg 27 (.call 3 (Str.ofString "diff") (.cons (.var 19) (.cons (.var 25) .nil))))
  (.cons (.asg 28 (.call 7 (Str.ofString "hunks_of") (.cons (.var 27) (.cons (.var 1) .nil))))
  (.cons (.ite (.cmp .ne (.var 27) (.var 16))
    (.cons (.ret (.bool false))
    .nil)
    .nil)
  (.cons (.asg 29 (.comp [] (.tup (.cons (.idx (.var 0) (.int 0)) (.cons (.idx (.var 0) (.int 1)) (.cons (.list (.idx (.var 0) (.int 2))) .nil)))) (.var 28)))
  (.cons (.ite (.cmp .ne (.call 14 (Str.ofString "patch_content") (.cons (.var 28) .nil)) (.call 26 (Str.ofString "_law_writer") (.cons (.var 7) (.cons (.var 1) .nil))))
    (.cons (.ret (.bool false))
    .nil)
    .nil)
  (.cons (.ite (.cmp .ne (.call 14 (Str.ofString "patch_content") (.cons (.call 15 (Str.ofString "inverse_hunks") (.cons (.var 28) .nil)) .nil)) (.call 26 (Str.ofString "_law_writer") (.cons (.var 17) (.cons (.var 1) .nil))))
    (.cons (.ret (.bool false))
    .nil)
    .nil)
  (.cons (.ite (.cmp .ne (.var 28) (.var 29))
    (.cons (.ret (.bool false))
    .nil)
    .nil)
  (.cons (.ite (.orE (.cons (.cmp .ne (.var 18) (.var 4)) (.cons (.cmp .ne (.var 19) (.var 5)) (.cons (.cmp .ne (.var 20) (.var 6)) (.cons (.cmp .ne (.var 25) (.var 15)) .nil)))))
    (.cons (.ret (.bool false))
    .nil)
    .nil)
  (.cons (.ret (.bool true))
  .nil)))))))))))))))))))))))))))))))))))))
noncomputable def f_law : Fn := ⟨(Str.ofString "law"), 1, [(Str.ofString "script"), (Str.ofString "context"), (Str.ofString "suffix"), (Str.ofString "pieces"), (Str.ofString "base"), (Str.ofString "ours"), (Str.ofString "theirs"), (Str.ofString "deeds"), (Str.ofString "raw"), (Str.ofString "clashes"), (Str.ofString "kind"), (Str.ofString "number"), (Str.ofString "mine"), (Str.ofString "yours"), (Str.ofString "part"), (Str.ofString "merged"), (Str.ofString "due"), (Str.ofString "turned"), (Str.ofString "a"), (Str.ofString "o"), (Str.ofString "t"), (Str.ofString "chunks"), (Str.ofString "saved"), (Str.ofString "found"), (Str.ofString "content"), (Str.ofString "new"), (Str.ofString "kept"), (Str.ofString "work"), (Str.ofString "hunks"), (Str.ofString "copies")], b_law⟩
noncomputable def fns : List Fn := [f_lcs_table, f_lcs_length, f_matches_of, f_diff, f_source_of, f_target_of, f_inverse_of, f_hunks_of, f_hunk_text, f_chunk_kind, f_chunks_of, f_merged_of, f_conflicts_in, f_lines_of, f_patch_content, f_inverse_hunks, f_closed, f_merged_content, f_law_fixed, f_law_names, f_law_turn, f_law_run, f_law_line, f_law_lines, f_law_deeds, f_law_hunk, f_law_writer, f_law]
end Mine
namespace Mine
open PySem PyProof.Rows
noncomputable def SOk (x : Str) : Prop := PyData.strOk x = true ∧ x.length ≤ sizeLine
mutual
inductive Rep (h : Heap) (X : Addr → Prop) : Value → PyData → Prop
  | none : Rep h X .none .none
  | bool (b : Bool) : Rep h X (.bool b) (.bool b)
  | int (i : Int) (t : Tok) : Rep h X (.int i t) (.int i)
  | str (x : Str) (t : Tok) : SOk x → Rep h X (.str x t) (.str x)
  | list {a : Addr} {vs : Array Value} {xs : List PyData} : ¬ X a → vs.size ≤ sizeLine → h.IsList a vs →
      RepL h X vs.toList xs → Rep h X (.ref a) (.list xs)
  | tuple {a : Addr} {vs : Array Value} {xs : List PyData} : ¬ X a → vs.size ≤ sizeLine → h.IsTuple a vs →
      RepL h X vs.toList xs → Rep h X (.ref a) (.tuple xs)
inductive RepL (h : Heap) (X : Addr → Prop) : List Value → List PyData → Prop
  | nil : RepL h X [] []
  | cons {v : Value} {vs : List Value} {d : PyData} {ds : List PyData} : Rep h X v d → RepL h X vs ds → RepL h X (v :: vs) (d :: ds)
end
noncomputable def Al (h : Heap) (a : Addr) : Prop := ∃ o, h.get? a = some o
theorem al_size (h : Heap) : ¬ Al h h.objs.size := fun ⟨_, e⟩ => Nat.lt_irrefl _ (Heap.lt_size e)
theorem get_size (h : Heap) : h.get? h.objs.size = Option.none := by
  cases e : h.get? h.objs.size with
  | none => rfl
  | some o => exact absurd ⟨o, e⟩ (al_size h)
mutual
theorem Rep.mono {h h' : Heap} {X X' : Addr → Prop} (hk : ∀ b o, ¬ X b → h.get? b = some o → h'.get? b = some o) (hx : ∀ a, Al h a → X' a → X a) :
    ∀ {v : Value} {d : PyData}, Rep h X v d → Rep h' X' v d
  | _, _, .none => .none
  | _, _, .bool b => .bool b
  | _, _, .int i t => .int i t
  | _, _, .str x t hx => .str x t hx
  | _, _, .list hn hs ⟨o, hg, hr⟩ hl => .list (fun q => hn (hx _ ⟨_, hg⟩ q)) hs ⟨o, hk _ _ hn hg, hr⟩ (RepL.mono hk hx hl)
  | _, _, .tuple hn hs ⟨o, hg, hr⟩ hl => .tuple (fun q => hn (hx _ ⟨_, hg⟩ q)) hs ⟨o, hk _ _ hn hg, hr⟩ (RepL.mono hk hx hl)
theorem RepL.mono {h h' : Heap} {X X' : Addr → Prop} (hk : ∀ b o, ¬ X b → h.get? b = some o → h'.get? b = some o) (hx : ∀ a, Al h a → X' a → X a) :
    ∀ {vs : List Value} {ds : List PyData}, RepL h X vs ds → RepL h' X' vs ds
  | _, _, .nil => .nil
  | _, _, .cons a b => .cons (Rep.mono hk hx a) (RepL.mono hk hx b)
end
mutual
theorem Rep.reads {h : Heap} {X : Addr → Prop} : ∀ {v : Value} {d : PyData}, Rep h X v d → ∃ as, Reads h v d as
  | _, _, .none => ⟨_, .none⟩
  | _, _, .bool b => ⟨_, .bool b⟩
  | _, _, .int i t => ⟨_, .int i t⟩
  | _, _, .str x t _ => ⟨_, .str x t⟩
  | _, _, .list _ _ ⟨_, hg, hc, _, hd⟩ hl => let ⟨_, q⟩ := RepL.reads hl; ⟨_, .list hg hc hd q⟩
  | _, _, .tuple _ _ ⟨_, hg, hc, _, hd⟩ hl => let ⟨_, q⟩ := RepL.reads hl; ⟨_, .tuple hg hc hd q⟩
theorem RepL.reads {h : Heap} {X : Addr → Prop} : ∀ {vs : List Value} {ds : List PyData}, RepL h X vs ds → ∃ as, ReadsAll h vs ds as
  | _, _, .nil => ⟨_, .nil⟩
  | _, _, .cons a b => let ⟨_, p⟩ := Rep.reads a; let ⟨_, q⟩ := RepL.reads b; ⟨_, .cons p q⟩
end
mutual
theorem Rep.canLay {h : Heap} {X : Addr → Prop} : ∀ {v : Value} {d : PyData}, Rep h X v d → d.canLay0 = true
  | _, _, .none => rfl
  | _, _, .bool _ => rfl
  | _, _, .int _ _ => rfl
  | _, _, .str _ _ hx => hx.1
  | _, _, .list _ _ _ hl => RepL.canLay hl
  | _, _, .tuple _ _ _ hl => RepL.canLay hl
theorem RepL.canLay {h : Heap} {X : Addr → Prop} : ∀ {vs : List Value} {ds : List PyData}, RepL h X vs ds → PyData.canLayAll0 ds = true
  | _, _, .nil => rfl
  | _, _, .cons a b => by rw [PyData.canLayAll0, Rep.canLay a, RepL.canLay b]; rfl
end
theorem RepL.length {h : Heap} {X : Addr → Prop} : ∀ {vs : List Value} {ds : List PyData}, RepL h X vs ds → vs.length = ds.length
  | _, _, .nil => rfl
  | _, _, .cons _ b => congrArg (· + 1) (RepL.length b)
theorem RepL.get {h : Heap} {X : Addr → Prop} : ∀ {vs : List Value} {ds : List PyData} {i : Nat} {d : PyData}, RepL h X vs ds → ds[i]? = some d → ∃ v, vs[i]? = some v ∧ Rep h X v d
  | _, _, 0, _, .cons a _, e => by
    rw [List.getElem?_cons_zero] at e ⊢; cases e; exact ⟨_, rfl, a⟩
  | _, _, i + 1, _, .cons _ b, e => by
    rw [List.getElem?_cons_succ] at e ⊢; exact RepL.get b e
  | _, _, _, _, .nil, e => by simp at e
theorem RepL.append {h : Heap} {X : Addr → Prop} : ∀ {vs ws : List Value} {ds es : List PyData}, RepL h X vs ds → RepL h X ws es → RepL h X (vs ++ ws) (ds ++ es)
  | _, _, _, _, .nil, b => b
  | _, _, _, _, .cons a r, b => .cons a (RepL.append r b)
theorem RepL.snoc {h : Heap} {X : Addr → Prop} {vs : List Value} {v : Value} {ds : List PyData} {d : PyData} (a : RepL h X vs ds) (b : Rep h X v d) : RepL h X (vs ++ [v]) (ds ++ [d]) :=
  a.append (.cons b .nil)
theorem RepL.take {h : Heap} {X : Addr → Prop} : ∀ {vs : List Value} {ds : List PyData} (n : Nat), RepL h X vs ds → RepL h X (vs.take n) (ds.take n)
  | _, _, 0, _ => by simpa using RepL.nil
  | _, _, _ + 1, .nil => by simpa using RepL.nil
  | _, _, n + 1, .cons a b => by simpa using RepL.cons a (RepL.take n b)
theorem RepL.drop {h : Heap} {X : Addr → Prop} : ∀ {vs : List Value} {ds : List PyData} (n : Nat), RepL h X vs ds → RepL h X (vs.drop n) (ds.drop n)
  | _, _, 0, a => by simpa using a
  | _, _, _ + 1, .nil => by simpa using RepL.nil
  | _, _, n + 1, .cons a b => by simpa using RepL.drop n b
theorem RepL.set {h : Heap} {X : Addr → Prop} : ∀ {vs : List Value} {ds : List PyData} (n : Nat) {v : Value} {d : PyData}, RepL h X vs ds → Rep h X v d → RepL h X (vs.set n v) (ds.set n d)
  | _, _, _, _, _, .nil, _ => by simpa using RepL.nil
  | _, _, 0, _, _, .cons _ b, r => by simpa using RepL.cons r b
  | _, _, n + 1, _, _, .cons a b, r => by simpa using RepL.cons a (RepL.set n b r)
section
variable (prog : Program) (w : World)
noncomputable def RepV (h : Heap) (X : Addr → Prop) (v : Value) : PV → Prop
  | .d x => Rep h X v x
  | .di m => ∃ a g, v = .ref a ∧ ¬ X a ∧ h.IntMap a g ∧ ∀ k, match m.lookup k with | Option.none => g k = Option.none | some i => ∃ t, g k = some (.int i t)
  | .ds m => ∃ a g, v = .ref a ∧ ¬ X a ∧ (a == sysModules) = false ∧ h.MapOf (strKind prog w) a g ∧ ∀ k, match m.lookup k with | Option.none => g k = Option.none | some x => SOk x ∧ ∃ t, g k = some (.str x t)
variable {prog w}
theorem RepV.mono {h h' : Heap} {X X' : Addr → Prop} (hk : ∀ b o, ¬ X b → h.get? b = some o → h'.get? b = some o) (hx : ∀ a, Al h a → X' a → X a) {v : Value} {p : PV} (r : RepV prog w h X v p) : RepV prog w h' X' v p := by
  cases p with
  | d x => exact Rep.mono hk hx r
  | di m =>
    obtain ⟨a, g, e, hn, ⟨o, es, ep, ho, q⟩, hg⟩ := r
    exact ⟨a, g, e, fun z => hn (hx _ ⟨_, ho⟩ z), ⟨o, es, ep, hk _ _ hn ho, q⟩, hg⟩
  | ds m =>
    obtain ⟨a, g, e, hn, hs, ⟨o, es, ep, ho, q⟩, hg⟩ := r
    exact ⟨a, g, e, fun z => hn (hx _ ⟨_, ho⟩ z), hs, ⟨o, es, ep, hk _ _ hn ho, q⟩, hg⟩
end
structure Keep (O : Addr → Prop) (s s' : Shared) : Prop where
  keep : ∀ b o, ¬ O b → s.heap.get? b = some o → s'.heap.get? b = some o
  al : ∀ b, Al s.heap b → Al s'.heap b
  os : s'.os = s.os
  gens : AllBare s.gens → AllBare s'.gens
noncomputable def Ext (s s' : Shared) : Prop := Keep (fun Z => False) s s'
theorem Keep.refl (O : Addr → Prop) (s : Shared) : Keep O s s := ⟨fun Z Z Z e => e, fun Z e => e, rfl, fun e => e⟩
theorem Ext.refl (s : Shared) : Ext s s := Keep.refl _ s
theorem Ext.keep' {s s' : Shared} (x : Ext s s') : ∀ b o, s.heap.get? b = some o → s'.heap.get? b = some o := fun b o e => x.keep b o (fun q => q) e
theorem Ext.of {s : Shared} {h' : Heap} {tk : Nat} (hk : ∀ b o, s.heap.get? b = some o → h'.get? b = some o) : Ext s { s with heap := h', toks := tk } :=
  ⟨fun b o Z e => hk b o e, fun _ ⟨o, e⟩ => ⟨o, hk _ o e⟩, rfl, fun e => e⟩
theorem Ext.toks {s : Shared} {tk : Nat} : Ext s { s with toks := tk } := ⟨fun Z Z Z e => e, fun Z e => e, rfl, fun e => e⟩
theorem Ext.push {s : Shared} (o : Obj) {tk : Nat} : Ext s { s with heap := s.heap.push o, toks := tk } := Ext.of fun Z Z e => Heap.get?_push_of_some o e
theorem Ext.toKeep {O : Addr → Prop} {s s' : Shared} (x : Ext s s') : Keep O s s' := ⟨fun b o Z e => x.keep' b o e, x.al, x.os, x.gens⟩
theorem Ext.trans {s s' s'' : Shared} (x : Ext s s') (y : Ext s' s'') : Ext s s'' :=
  ⟨fun b o Z e => y.keep' b o (x.keep' b o e), fun b e => y.al b (x.al b e), y.os.trans x.os, fun g => y.gens (x.gens g)⟩
theorem Keep.trans {O O' : Addr → Prop} {s s' s'' : Shared} (x : Keep O s s') (y : Keep O' s' s'') (ho : ∀ a, Al s.heap a → O' a → O a) : Keep O s s'' :=
  ⟨fun b o hb e => y.keep b o (fun q => hb (ho b ⟨o, e⟩ q)) (x.keep b o hb e), fun b e => y.al b (x.al b e), y.os.trans x.os, fun g => y.gens (x.gens g)⟩
theorem Keep.weaken {O O' : Addr → Prop} {s s' : Shared} (x : Keep O s s') (ho : ∀ a, O a → O' a) : Keep O' s s' :=
  ⟨fun b o hb e => x.keep b o (fun q => hb (ho b q)) e, x.al, x.os, x.gens⟩
theorem Rep.ext {s s' : Shared} {X : Addr → Prop} {v : Value} {d : PyData} (r : Rep s.heap X v d) (x : Ext s s') : Rep s'.heap X v d :=
  r.mono (fun b o Z e => x.keep' b o e) fun Z Z q => q
theorem RepL.ext {s s' : Shared} {X : Addr → Prop} {v : List Value} {d : List PyData} (r : RepL s.heap X v d) (x : Ext s s') : RepL s'.heap X v d :=
  r.mono (fun b o Z e => x.keep' b o e) fun Z Z q => q
theorem RepV.ext {prog : Program} {w : World} {s s' : Shared} {X : Addr → Prop} {v : Value} {d : PV} (r : RepV prog w s.heap X v d) (x : Ext s s') : RepV prog w s'.heap X v d :=
  r.mono (fun b o Z e => x.keep' b o e) fun Z Z q => q
@[elab_as_elim] theorem Rep.intE {h : Heap} {X : Addr → Prop} {i : Int} {Q : Value → Prop} (v : Value) (r : Rep h X v (.int i)) (q : ∀ t, Q (.int i t)) : Q v := by cases r; exact q _
@[elab_as_elim] theorem Rep.strE {h : Heap} {X : Addr → Prop} {x : Str} {Q : Value → Prop} (v : Value) (r : Rep h X v (.str x)) (q : ∀ t, SOk x → Q (.str x t)) : Q v := by
  cases r with | str _ t hx => exact q t hx
@[elab_as_elim] theorem Rep.listE {h : Heap} {X : Addr → Prop} {xs : List PyData} {Q : Value → Prop} (v : Value) (r : Rep h X v (.list xs)) (q : ∀ (a : Addr) (vs : Array Value), ¬ X a → vs.size ≤ sizeLine → h.IsList a vs → RepL h X vs.toList xs → Q (.ref a)) : Q v := by
  cases r with | list h1 h2 h3 h4 => exact q _ _ h1 h2 h3 h4
@[elab_as_elim] theorem Rep.tupleE {h : Heap} {X : Addr → Prop} {xs : List PyData} {Q : Value → Prop} (v : Value) (r : Rep h X v (.tuple xs)) (q : ∀ (a : Addr) (vs : Array Value), ¬ X a → vs.size ≤ sizeLine → h.IsTuple a vs → RepL h X vs.toList xs → Q (.ref a)) : Q v := by
  cases r with | tuple h1 h2 h3 h4 => exact q _ _ h1 h2 h3 h4
abbrev Tab := List (Str × NameKind)
noncomputable def isVar (S : Tab) (x : Str) : Bool := (S.lookup x == some .local || S.lookup x == some .cell || S.lookup x == some .free) && x != ("__debug__" : Str) && x != ("__classdict__" : Str)
noncomputable def isGlob (S : Tab) (x : Str) : Bool := S.lookup x == some .globalImplicit && x != ("__debug__" : Str)
noncomputable def canStore (S : Tab) (x : Str) : Bool := S.lookup x == some .local || S.lookup x == some .cell
noncomputable def opOf (op : BOp) : Operator := @BOp.casesOn (fun Z => Operator) op .Add .Sub .Mult .Mod
noncomputable def opOk (op : BOp) (o : Operator) : Bool := decide (o = opOf op)
noncomputable def copOf (op : COp) : CmpOp := @COp.casesOn (fun Z => CmpOp) op .Eq .NotEq .Lt .LtE .Gt .GtE .In
noncomputable def copOk (op : COp) (o : CmpOp) : Bool := decide (o = copOf op)
noncomputable def notSlice (e : PySem.Expr) : Bool := @PySem.Expr.casesOn (fun Z => Bool) e (fun Z Z Z => true) (fun Z Z Z => true) (fun Z Z Z Z => true) (fun Z Z Z => true) (fun Z Z Z Z => true) (fun Z Z Z Z => true) (fun Z Z Z => true) (fun Z Z Z => true) (fun Z Z Z Z => true) (fun Z Z Z Z => true) (fun Z Z Z Z Z => true) (fun Z Z Z Z => true) (fun Z Z => true) (fun Z Z => true) (fun Z Z => true) (fun Z Z Z Z => true) (fun Z Z Z Z => true) (fun Z Z Z Z => true) (fun Z Z => true) (fun Z Z Z => true) (fun Z Z Z => true) (fun Z Z Z => true) (fun Z Z => true) (fun Z Z => true) (fun Z Z => true) (fun Z Z Z => true) (fun Z Z Z Z => false)
noncomputable def notSet (e : PySem.Expr) : Bool := @PySem.Expr.casesOn (fun Z => Bool) e (fun Z Z Z => true) (fun Z Z Z => true) (fun Z Z Z Z => true) (fun Z Z Z => true) (fun Z Z Z Z => true) (fun Z Z Z Z => true) (fun Z Z Z => true) (fun Z Z Z => false) (fun Z Z Z Z => true) (fun Z Z Z Z => true) (fun Z Z Z Z Z => true) (fun Z Z Z Z => true) (fun Z Z => true) (fun Z Z => true) (fun Z Z => true) (fun Z Z Z Z => true) (fun Z Z Z Z => true) (fun Z Z Z Z => true) (fun Z Z => true) (fun Z Z Z => true) (fun Z Z Z => true) (fun Z Z Z => true) (fun Z Z => true) (fun Z Z => true) (fun Z Z => true) (fun Z Z Z => true) (fun Z Z Z Z => true)
noncomputable def notStar (e : PySem.Expr) : Bool := @PySem.Expr.casesOn (fun Z => Bool) e (fun Z Z Z => true) (fun Z Z Z => true) (fun Z Z Z Z => true) (fun Z Z Z => true) (fun Z Z Z Z => true) (fun Z Z Z Z => true) (fun Z Z Z => true) (fun Z Z Z => true) (fun Z Z Z Z => true) (fun Z Z Z Z => true) (fun Z Z Z Z Z => true) (fun Z Z Z Z => true) (fun Z Z => true) (fun Z Z => true) (fun Z Z => true) (fun Z Z Z Z => true) (fun Z Z Z Z => true) (fun Z Z Z Z => true) (fun Z Z => true) (fun Z Z Z => true) (fun Z Z Z => true) (fun Z Z Z => true) (fun Z Z => false) (fun Z Z => true) (fun Z Z => true) (fun Z Z Z => true) (fun Z Z Z Z => true)
noncomputable def isName (e : PySem.Expr) : Bool := @PySem.Expr.casesOn (fun Z => Bool) e (fun Z Z Z => false) (fun Z Z Z => false) (fun Z Z Z Z => false) (fun Z Z Z => false) (fun Z Z Z Z => false) (fun Z Z Z Z => false) (fun Z Z Z => false) (fun Z Z Z => false) (fun Z Z Z Z => false) (fun Z Z Z Z => false) (fun Z Z Z Z Z => false) (fun Z Z Z Z => false) (fun Z Z => false) (fun Z Z => false) (fun Z Z => false) (fun Z Z Z Z => false) (fun Z Z Z Z => false) (fun Z Z Z Z => false) (fun Z Z => false) (fun Z Z Z => false) (fun Z Z Z => false) (fun Z Z Z => false) (fun Z Z => false) (fun Z Z => true) (fun Z Z => false) (fun Z Z Z => false) (fun Z Z Z Z => false)
noncomputable def notTup (e : PySem.Expr) : Bool := @PySem.Expr.casesOn (fun Z => Bool) e (fun Z Z Z => true) (fun Z Z Z => true) (fun Z Z Z Z => true) (fun Z Z Z => true) (fun Z Z Z Z => true) (fun Z Z Z Z => true) (fun Z Z Z => true) (fun Z Z Z => true) (fun Z Z Z Z => false) (fun Z Z Z Z => false) (fun Z Z Z Z Z => false) (fun Z Z Z Z => true) (fun Z Z => true) (fun Z Z => true) (fun Z Z => true) (fun Z Z Z Z => true) (fun Z Z Z Z => true) (fun Z Z Z Z => true) (fun Z Z => true) (fun Z Z Z => true) (fun Z Z Z => true) (fun Z Z Z => true) (fun Z Z => true) (fun Z Z => true) (fun Z Z => true) (fun Z Z Z => false) (fun Z Z Z Z => true)
noncomputable def isComp (e : PySem.Expr) : Bool := @PySem.Expr.casesOn (fun Z => Bool) e (fun Z Z Z => false) (fun Z Z Z => false) (fun Z Z Z Z => false) (fun Z Z Z => false) (fun Z Z Z Z => false) (fun Z Z Z Z => false) (fun Z Z Z => false) (fun Z Z Z => false) (fun Z Z Z Z => true) (fun Z Z Z Z => false) (fun Z Z Z Z Z => false) (fun Z Z Z Z => false) (fun Z Z => false) (fun Z Z => false) (fun Z Z => false) (fun Z Z Z Z => false) (fun Z Z Z Z => false) (fun Z Z Z Z => false) (fun Z Z => false) (fun Z Z Z => false) (fun Z Z Z => false) (fun Z Z Z => false) (fun Z Z => false) (fun Z Z => false) (fun Z Z => false) (fun Z Z Z => false) (fun Z Z Z Z => false)
noncomputable def plainV (e : PySem.Expr) : Bool := @PySem.Expr.casesOn (fun Z => Bool) e (fun Z Z Z => true) (fun Z Z Z => true) (fun Z Z Z Z => true) (fun Z Z Z => true) (fun Z Z Z Z => true) (fun Z Z Z Z => true) (fun Z Z Z => true) (fun Z Z Z => true) (fun Z Z Z Z => false) (fun Z Z Z Z => false) (fun Z Z Z Z Z => false) (fun Z Z Z Z => true) (fun Z Z => true) (fun Z Z => true) (fun Z Z => true) (fun Z Z Z Z => true) (fun Z Z Z Z => true) (fun Z Z Z Z => true) (fun Z Z => true) (fun Z Z Z => true) (fun Z Z Z => true) (fun Z Z Z => true) (fun Z Z => true) (fun Z Z => true) (fun Z Z => true) (fun Z Z Z => true) (fun Z Z Z Z => true)
theorem ff {P : Prop} (h : false = true) : P := Bool.noConfusion h
theorem nn {α : Type} {x : α} {P : Prop} (h : (Option.none : Option α) = some x) : P := by cases h
theorem bb {a b : Bool} (h : (a && b) = true) : a = true ∧ b = true := by
  cases a
  · exact ff h
  · exact ⟨rfl, h⟩
noncomputable def eqb {α : Type} [DecidableEq α] (a b : α) (k : Bool) : Bool := decide (a = b) && k
theorem eqb_ind {α : Type} [DecidableEq α] {Q : α → Prop} {b : α} {k : Bool} (q : k = true → Q b) (a : α) (h : eqb a b k = true) : Q a :=
  of_decide_eq_true (bb h).1 ▸ q (bb h).2
section
variable {α : Type}
noncomputable def l0 (l : List α) (k : Bool) : Bool := @List.casesOn α (fun Z => Bool) l k (fun Z Z => false)
theorem l0_ind {Q : List α → Prop} {k : Bool} (q : k = true → Q []) (l : List α) : l0 l k = true → Q l := @List.casesOn α (fun l => l0 l k = true → Q l) l q (fun Z Z h => ff h)
noncomputable def lc (l : List α) (f : α → List α → Bool) : Bool := @List.casesOn α (fun Z => Bool) l false f
theorem lc_ind {Q : List α → Prop} {f : α → List α → Bool} (q : ∀ x xs, f x xs = true → Q (x :: xs)) (l : List α) : lc l f = true → Q l := @List.casesOn α (fun l => lc l f = true → Q l) l (fun h => ff h) q
noncomputable def l1 (l : List α) (f : α → Bool) : Bool := lc l fun x r => l0 r (f x)
theorem l1_ind {Q : List α → Prop} {f : α → Bool} (q : ∀ x, f x = true → Q [x]) (l : List α) (h : l1 l f = true) : Q l :=
  lc_ind (fun x r h => l0_ind (Q := fun r => Q (x :: r)) (q x) r h) l h
noncomputable def l2 (l : List α) (f : α → α → Bool) : Bool := lc l fun x r => l1 r (f x)
theorem l2_ind {Q : List α → Prop} {f : α → α → Bool} (q : ∀ x y, f x y = true → Q [x, y]) (l : List α) (h : l2 l f = true) : Q l :=
  lc_ind (fun x r h => l1_ind (Q := fun r => Q (x :: r)) (q x) r h) l h
noncomputable def l3 (l : List α) (f : α → α → α → Bool) : Bool := lc l fun x r => l2 r (f x)
theorem l3_ind {Q : List α → Prop} {f : α → α → α → Bool} (q : ∀ x y z, f x y z = true → Q [x, y, z]) (l : List α) (h : l3 l f = true) : Q l :=
  lc_ind (fun x r h => l2_ind (Q := fun r => Q (x :: r)) (q x) r h) l h
noncomputable def oN (o : Option α) (k : Bool) : Bool := @Option.casesOn α (fun Z => Bool) o k (fun Z => false)
theorem oN_ind {Q : Option α → Prop} {k : Bool} (q : k = true → Q Option.none) (o : Option α) : oN o k = true → Q o := @Option.casesOn α (fun o => oN o k = true → Q o) o q (fun Z h => ff h)
noncomputable def oS (o : Option α) (f : α → Bool) : Bool := @Option.casesOn α (fun Z => Bool) o false f
theorem oS_ind {Q : Option α → Prop} {f : α → Bool} (q : ∀ x, f x = true → Q (some x)) (o : Option α) : oS o f = true → Q o := @Option.casesOn α (fun o => oS o f = true → Q o) o (fun h => ff h) q
end
noncomputable def dCom (g : Comprehension) (f : PySem.Expr → PySem.Expr → List PySem.Expr → Bool) : Bool := eqb g.is_async 0 (f g.target g.iter g.ifs)
theorem dCom_ind {Q : Comprehension → Prop} {f : PySem.Expr → PySem.Expr → List PySem.Expr → Bool} (q : ∀ t i ifs, f t i ifs = true → Q ⟨t, i, ifs, 0⟩) (g : Comprehension) (h : dCom g f = true) : Q g := by
  obtain ⟨t, i, ifs, a⟩ := g
  exact eqb_ind (Q := fun a => Q ⟨t, i, ifs, a⟩) (q t i ifs) a h
noncomputable def dName (e : PySem.Expr) (f : Str → Pos → Bool) : Bool := @PySem.Expr.casesOn (fun Z => Bool) e (fun Z Z Z => false) (fun Z Z Z => false) (fun Z Z Z Z => false) (fun Z Z Z => false) (fun Z Z Z Z => false) (fun Z Z Z Z => false) (fun Z Z Z => false) (fun Z Z Z => false) (fun Z Z Z Z => false) (fun Z Z Z Z => false) (fun Z Z Z Z Z => false) (fun Z Z Z Z => false) (fun Z Z => false) (fun Z Z => false) (fun Z Z => false) (fun Z Z Z Z => false) (fun Z Z Z Z => false) (fun Z Z Z Z => false) (fun Z Z => false) (fun Z Z Z => false) (fun Z Z Z => false) (fun Z Z Z => false) (fun Z Z => false) (fun x p => f x p) (fun Z Z => false) (fun Z Z Z => false) (fun Z Z Z Z => false)
theorem dName_ind {Q : PySem.Expr → Prop} {f : Str → Pos → Bool} (q : ∀ (x : Str) (p : Pos), f x p = true → Q (.Name x p)) (e : PySem.Expr) : dName e f = true → Q e :=
  @PySem.Expr.casesOn (fun e => dName e f = true → Q e) e (fun Z Z Z h => ff h) (fun Z Z Z h => ff h) (fun Z Z Z Z h => ff h) (fun Z Z Z h => ff h) (fun Z Z Z Z h => ff h) (fun Z Z Z Z h => ff h) (fun Z Z Z h => ff h) (fun Z Z Z h => ff h) (fun Z Z Z Z h => ff h) (fun Z Z Z Z h => ff h) (fun Z Z Z Z Z h => ff h) (fun Z Z Z Z h => ff h) (fun Z Z h => ff h) (fun Z Z h => ff h) (fun Z Z h => ff h) (fun Z Z Z Z h => ff h) (fun Z Z Z Z h => ff h) (fun Z Z Z Z h => ff h) (fun Z Z h => ff h) (fun Z Z Z h => ff h) (fun Z Z Z h => ff h) (fun Z Z Z h => ff h) (fun Z Z h => ff h) q (fun Z Z h => ff h) (fun Z Z Z h => ff h) (fun Z Z Z Z h => ff h)
noncomputable def dCst (e : PySem.Expr) (f : Const → Nat → Pos → Bool) : Bool := @PySem.Expr.casesOn (fun Z => Bool) e (fun Z Z Z => false) (fun Z Z Z => false) (fun Z Z Z Z => false) (fun Z Z Z => false) (fun Z Z Z Z => false) (fun Z Z Z Z => false) (fun Z Z Z => false) (fun Z Z Z => false) (fun Z Z Z Z => false) (fun Z Z Z Z => false) (fun Z Z Z Z Z => false) (fun Z Z Z Z => false) (fun Z Z => false) (fun Z Z => false) (fun Z Z => false) (fun Z Z Z Z => false) (fun Z Z Z Z => false) (fun Z Z Z Z => false) (fun Z Z => false) (fun c k p => f c k p) (fun Z Z Z => false) (fun Z Z Z => false) (fun Z Z => false) (fun Z Z => false) (fun Z Z => false) (fun Z Z Z => false) (fun Z Z Z Z => false)
theorem dCst_ind {Q : PySem.Expr → Prop} {f : Const → Nat → Pos → Bool} (q : ∀ (c : Const) (k : Nat) (p : Pos), f c k p = true → Q (.Constant c k p)) (e : PySem.Expr) : dCst e f = true → Q e :=
  @PySem.Expr.casesOn (fun e => dCst e f = true → Q e) e (fun Z Z Z h => ff h) (fun Z Z Z h => ff h) (fun Z Z Z Z h => ff h) (fun Z Z Z h => ff h) (fun Z Z Z Z h => ff h) (fun Z Z Z Z h => ff h) (fun Z Z Z h => ff h) (fun Z Z Z h => ff h) (fun Z Z Z Z h => ff h) (fun Z Z Z Z h => ff h) (fun Z Z Z Z Z h => ff h) (fun Z Z Z Z h => ff h) (fun Z Z h => ff h) (fun Z Z h => ff h) (fun Z Z h => ff h) (fun Z Z Z Z h => ff h) (fun Z Z Z Z h => ff h) (fun Z Z Z Z h => ff h) (fun Z Z h => ff h) q (fun Z Z Z h => ff h) (fun Z Z Z h => ff h) (fun Z Z h => ff h) (fun Z Z h => ff h) (fun Z Z h => ff h) (fun Z Z Z h => ff h) (fun Z Z Z Z h => ff h)
noncomputable def dUn (e : PySem.Expr) (f : UnaryOp → PySem.Expr → Pos → Bool) : Bool := @PySem.Expr.casesOn (fun Z => Bool) e (fun Z Z Z => false) (fun Z Z Z => false) (fun Z Z Z Z => false) (fun o x p => f o x p) (fun Z Z Z Z => false) (fun Z Z Z Z => false) (fun Z Z Z => false) (fun Z Z Z => false) (fun Z Z Z Z => false) (fun Z Z Z Z => false) (fun Z Z Z Z Z => false) (fun Z Z Z Z => false) (fun Z Z => false) (fun Z Z => false) (fun Z Z => false) (fun Z Z Z Z => false) (fun Z Z Z Z => false) (fun Z Z Z Z => false) (fun Z Z => false) (fun Z Z Z => false) (fun Z Z Z => false) (fun Z Z Z => false) (fun Z Z => false) (fun Z Z => false) (fun Z Z => false) (fun Z Z Z => false) (fun Z Z Z Z => false)
theorem dUn_ind {Q : PySem.Expr → Prop} {f : UnaryOp → PySem.Expr → Pos → Bool} (q : ∀ (o : UnaryOp) (x : PySem.Expr) (p : Pos), f o x p = true → Q (.UnaryOp o x p)) (e : PySem.Expr) : dUn e f = true → Q e :=
  @PySem.Expr.casesOn (fun e => dUn e f = true → Q e) e (fun Z Z Z h => ff h) (fun Z Z Z h => ff h) (fun Z Z Z Z h => ff h) q (fun Z Z Z Z h => ff h) (fun Z Z Z Z h => ff h) (fun Z Z Z h => ff h) (fun Z Z Z h => ff h) (fun Z Z Z Z h => ff h) (fun Z Z Z Z h => ff h) (fun Z Z Z Z Z h => ff h) (fun Z Z Z Z h => ff h) (fun Z Z h => ff h) (fun Z Z h => ff h) (fun Z Z h => ff h) (fun Z Z Z Z h => ff h) (fun Z Z Z Z h => ff h) (fun Z Z Z Z h => ff h) (fun Z Z h => ff h) (fun Z Z Z h => ff h) (fun Z Z Z h => ff h) (fun Z Z Z h => ff h) (fun Z Z h => ff h) (fun Z Z h => ff h) (fun Z Z h => ff h) (fun Z Z Z h => ff h) (fun Z Z Z Z h => ff h)
noncomputable def dTup (e : PySem.Expr) (f : List PySem.Expr → Nat → Pos → Bool) : Bool := @PySem.Expr.casesOn (fun Z => Bool) e (fun Z Z Z => false) (fun Z Z Z => false) (fun Z Z Z Z => false) (fun Z Z Z => false) (fun Z Z Z Z => false) (fun Z Z Z Z => false) (fun Z Z Z => false) (fun Z Z Z => false) (fun Z Z Z Z => false) (fun Z Z Z Z => false) (fun Z Z Z Z Z => false) (fun Z Z Z Z => false) (fun Z Z => false) (fun Z Z => false) (fun Z Z => false) (fun Z Z Z Z => false) (fun Z Z Z Z => false) (fun Z Z Z Z => false) (fun Z Z => false) (fun Z Z Z => false) (fun Z Z Z => false) (fun Z Z Z => false) (fun Z Z => false) (fun Z Z => false) (fun Z Z => false) (fun xs k p => f xs k p) (fun Z Z Z Z => false)
theorem dTup_ind {Q : PySem.Expr → Prop} {f : List PySem.Expr → Nat → Pos → Bool} (q : ∀ (xs : List PySem.Expr) (k : Nat) (p : Pos), f xs k p = true → Q (.Tuple xs k p)) (e : PySem.Expr) : dTup e f = true → Q e :=
  @PySem.Expr.casesOn (fun e => dTup e f = true → Q e) e (fun Z Z Z h => ff h) (fun Z Z Z h => ff h) (fun Z Z Z Z h => ff h) (fun Z Z Z h => ff h) (fun Z Z Z Z h => ff h) (fun Z Z Z Z h => ff h) (fun Z Z Z h => ff h) (fun Z Z Z h => ff h) (fun Z Z Z Z h => ff h) (fun Z Z Z Z h => ff h) (fun Z Z Z Z Z h => ff h) (fun Z Z Z Z h => ff h) (fun Z Z h => ff h) (fun Z Z h => ff h) (fun Z Z h => ff h) (fun Z Z Z Z h => ff h) (fun Z Z Z Z h => ff h) (fun Z Z Z Z h => ff h) (fun Z Z h => ff h) (fun Z Z Z h => ff h) (fun Z Z Z h => ff h) (fun Z Z Z h => ff h) (fun Z Z h => ff h) (fun Z Z h => ff h) (fun Z Z h => ff h) q (fun Z Z Z Z h => ff h)
noncomputable def dLst (e : PySem.Expr) (f : List PySem.Expr → Pos → Bool) : Bool := @PySem.Expr.casesOn (fun Z => Bool) e (fun Z Z Z => false) (fun Z Z Z => false) (fun Z Z Z Z => false) (fun Z Z Z => false) (fun Z Z Z Z => false) (fun Z Z Z Z => false) (fun Z Z Z => false) (fun Z Z Z => false) (fun Z Z Z Z => false) (fun Z Z Z Z => false) (fun Z Z Z Z Z => false) (fun Z Z Z Z => false) (fun Z Z => false) (fun Z Z => false) (fun Z Z => false) (fun Z Z Z Z => false) (fun Z Z Z Z => false) (fun Z Z Z Z => false) (fun Z Z => false) (fun Z Z Z => false) (fun Z Z Z => false) (fun Z Z Z => false) (fun Z Z => false) (fun Z Z => false) (fun xs p => f xs p) (fun Z Z Z => false) (fun Z Z Z Z => false)
theorem dLst_ind {Q : PySem.Expr → Prop} {f : List PySem.Expr → Pos → Bool} (q : ∀ (xs : List PySem.Expr) (p : Pos), f xs p = true → Q (.List xs p)) (e : PySem.Expr) : dLst e f = true → Q e :=
  @PySem.Expr.casesOn (fun e => dLst e f = true → Q e) e (fun Z Z Z h => ff h) (fun Z Z Z h => ff h) (fun Z Z Z Z h => ff h) (fun Z Z Z h => ff h) (fun Z Z Z Z h => ff h) (fun Z Z Z Z h => ff h) (fun Z Z Z h => ff h) (fun Z Z Z h => ff h) (fun Z Z Z Z h => ff h) (fun Z Z Z Z h => ff h) (fun Z Z Z Z Z h => ff h) (fun Z Z Z Z h => ff h) (fun Z Z h => ff h) (fun Z Z h => ff h) (fun Z Z h => ff h) (fun Z Z Z Z h => ff h) (fun Z Z Z Z h => ff h) (fun Z Z Z Z h => ff h) (fun Z Z h => ff h) (fun Z Z Z h => ff h) (fun Z Z Z h => ff h) (fun Z Z Z h => ff h) (fun Z Z h => ff h) (fun Z Z h => ff h) q (fun Z Z Z h => ff h) (fun Z Z Z Z h => ff h)
noncomputable def dDic (e : PySem.Expr) (f : List (Option PySem.Expr) → List PySem.Expr → Pos → Bool) : Bool := @PySem.Expr.casesOn (fun Z => Bool) e (fun Z Z Z => false) (fun Z Z Z => false) (fun Z Z Z Z => false) (fun Z Z Z => false) (fun Z Z Z Z => false) (fun Z Z Z Z => false) (fun ks vs p => f ks vs p) (fun Z Z Z => false) (fun Z Z Z Z => false) (fun Z Z Z Z => false) (fun Z Z Z Z Z => false) (fun Z Z Z Z => false) (fun Z Z => false) (fun Z Z => false) (fun Z Z => false) (fun Z Z Z Z => false) (fun Z Z Z Z => false) (fun Z Z Z Z => false) (fun Z Z => false) (fun Z Z Z => false) (fun Z Z Z => false) (fun Z Z Z => false) (fun Z Z => false) (fun Z Z => false) (fun Z Z => false) (fun Z Z Z => false) (fun Z Z Z Z => false)
theorem dDic_ind {Q : PySem.Expr → Prop} {f : List (Option PySem.Expr) → List PySem.Expr → Pos → Bool} (q : ∀ (ks : List (Option PySem.Expr)) (vs : List PySem.Expr) (p : Pos), f ks vs p = true → Q (.Dict ks vs p)) (e : PySem.Expr) : dDic e f = true → Q e :=
  @PySem.Expr.casesOn (fun e => dDic e f = true → Q e) e (fun Z Z Z h => ff h) (fun Z Z Z h => ff h) (fun Z Z Z Z h => ff h) (fun Z Z Z h => ff h) (fun Z Z Z Z h => ff h) (fun Z Z Z Z h => ff h) q (fun Z Z Z h => ff h) (fun Z Z Z Z h => ff h) (fun Z Z Z Z h => ff h) (fun Z Z Z Z Z h => ff h) (fun Z Z Z Z h => ff h) (fun Z Z h => ff h) (fun Z Z h => ff h) (fun Z Z h => ff h) (fun Z Z Z Z h => ff h) (fun Z Z Z Z h => ff h) (fun Z Z Z Z h => ff h) (fun Z Z h => ff h) (fun Z Z Z h => ff h) (fun Z Z Z h => ff h) (fun Z Z Z h => ff h) (fun Z Z h => ff h) (fun Z Z h => ff h) (fun Z Z h => ff h) (fun Z Z Z h => ff h) (fun Z Z Z Z h => ff h)
noncomputable def dBin (e : PySem.Expr) (f : PySem.Expr → Operator → PySem.Expr → Pos → Bool) : Bool := @PySem.Expr.casesOn (fun Z => Bool) e (fun Z Z Z => false) (fun Z Z Z => false) (fun l o r p => f l o r p) (fun Z Z Z => false) (fun Z Z Z Z => false) (fun Z Z Z Z => false) (fun Z Z Z => false) (fun Z Z Z => false) (fun Z Z Z Z => false) (fun Z Z Z Z => false) (fun Z Z Z Z Z => false) (fun Z Z Z Z => false) (fun Z Z => false) (fun Z Z => false) (fun Z Z => false) (fun Z Z Z Z => false) (fun Z Z Z Z => false) (fun Z Z Z Z => false) (fun Z Z => false) (fun Z Z Z => false) (fun Z Z Z => false) (fun Z Z Z => false) (fun Z Z => false) (fun Z Z => false) (fun Z Z => false) (fun Z Z Z => false) (fun Z Z Z Z => false)
theorem dBin_ind {Q : PySem.Expr → Prop} {f : PySem.Expr → Operator → PySem.Expr → Pos → Bool} (q : ∀ (l : PySem.Expr) (o : Operator) (r : PySem.Expr) (p : Pos), f l o r p = true → Q (.BinOp l o r p)) (e : PySem.Expr) : dBin e f = true → Q e :=
  @PySem.Expr.casesOn (fun e => dBin e f = true → Q e) e (fun Z Z Z h => ff h) (fun Z Z Z h => ff h) q (fun Z Z Z h => ff h) (fun Z Z Z Z h => ff h) (fun Z Z Z Z h => ff h) (fun Z Z Z h => ff h) (fun Z Z Z h => ff h) (fun Z Z Z Z h => ff h) (fun Z Z Z Z h => ff h) (fun Z Z Z Z Z h => ff h) (fun Z Z Z Z h => ff h) (fun Z Z h => ff h) (fun Z Z h => ff h) (fun Z Z h => ff h) (fun Z Z Z Z h => ff h) (fun Z Z Z Z h => ff h) (fun Z Z Z Z h => ff h) (fun Z Z h => ff h) (fun Z Z Z h => ff h) (fun Z Z Z h => ff h) (fun Z Z Z h => ff h) (fun Z Z h => ff h) (fun Z Z h => ff h) (fun Z Z h => ff h) (fun Z Z Z h => ff h) (fun Z Z Z Z h => ff h)
noncomputable def dCmp (e : PySem.Expr) (f : PySem.Expr → List CmpOp → List PySem.Expr → Pos → Bool) : Bool := @PySem.Expr.casesOn (fun Z => Bool) e (fun Z Z Z => false) (fun Z Z Z => false) (fun Z Z Z Z => false) (fun Z Z Z => false) (fun Z Z Z Z => false) (fun Z Z Z Z => false) (fun Z Z Z => false) (fun Z Z Z => false) (fun Z Z Z Z => false) (fun Z Z Z Z => false) (fun Z Z Z Z Z => false) (fun Z Z Z Z => false) (fun Z Z => false) (fun Z Z => false) (fun Z Z => false) (fun l os rs p => f l os rs p) (fun Z Z Z Z => false) (fun Z Z Z Z => false) (fun Z Z => false) (fun Z Z Z => false) (fun Z Z Z => false) (fun Z Z Z => false) (fun Z Z => false) (fun Z Z => false) (fun Z Z => false) (fun Z Z Z => false) (fun Z Z Z Z => false)
theorem dCmp_ind {Q : PySem.Expr → Prop} {f : PySem.Expr → List CmpOp → List PySem.Expr → Pos → Bool} (q : ∀ (l : PySem.Expr) (os : List CmpOp) (rs : List PySem.Expr) (p : Pos), f l os rs p = true → Q (.Compare l os rs p)) (e : PySem.Expr) : dCmp e f = true → Q e :=
  @PySem.Expr.casesOn (fun e => dCmp e f = true → Q e) e (fun Z Z Z h => ff h) (fun Z Z Z h => ff h) (fun Z Z Z Z h => ff h) (fun Z Z Z h => ff h) (fun Z Z Z Z h => ff h) (fun Z Z Z Z h => ff h) (fun Z Z Z h => ff h) (fun Z Z Z h => ff h) (fun Z Z Z Z h => ff h) (fun Z Z Z Z h => ff h) (fun Z Z Z Z Z h => ff h) (fun Z Z Z Z h => ff h) (fun Z Z h => ff h) (fun Z Z h => ff h) (fun Z Z h => ff h) q (fun Z Z Z Z h => ff h) (fun Z Z Z Z h => ff h) (fun Z Z h => ff h) (fun Z Z Z h => ff h) (fun Z Z Z h => ff h) (fun Z Z Z h => ff h) (fun Z Z h => ff h) (fun Z Z h => ff h) (fun Z Z h => ff h) (fun Z Z Z h => ff h) (fun Z Z Z Z h => ff h)
noncomputable def dSub (e : PySem.Expr) (f : PySem.Expr → PySem.Expr → Pos → Bool) : Bool := @PySem.Expr.casesOn (fun Z => Bool) e (fun Z Z Z => false) (fun Z Z Z => false) (fun Z Z Z Z => false) (fun Z Z Z => false) (fun Z Z Z Z => false) (fun Z Z Z Z => false) (fun Z Z Z => false) (fun Z Z Z => false) (fun Z Z Z Z => false) (fun Z Z Z Z => false) (fun Z Z Z Z Z => false) (fun Z Z Z Z => false) (fun Z Z => false) (fun Z Z => false) (fun Z Z => false) (fun Z Z Z Z => false) (fun Z Z Z Z => false) (fun Z Z Z Z => false) (fun Z Z => false) (fun Z Z Z => false) (fun Z Z Z => false) (fun x k p => f x k p) (fun Z Z => false) (fun Z Z => false) (fun Z Z => false) (fun Z Z Z => false) (fun Z Z Z Z => false)
theorem dSub_ind {Q : PySem.Expr → Prop} {f : PySem.Expr → PySem.Expr → Pos → Bool} (q : ∀ (x : PySem.Expr) (k : PySem.Expr) (p : Pos), f x k p = true → Q (.Subscript x k p)) (e : PySem.Expr) : dSub e f = true → Q e :=
  @PySem.Expr.casesOn (fun e => dSub e f = true → Q e) e (fun Z Z Z h => ff h) (fun Z Z Z h => ff h) (fun Z Z Z Z h => ff h) (fun Z Z Z h => ff h) (fun Z Z Z Z h => ff h) (fun Z Z Z Z h => ff h) (fun Z Z Z h => ff h) (fun Z Z Z h => ff h) (fun Z Z Z Z h => ff h) (fun Z Z Z Z h => ff h) (fun Z Z Z Z Z h => ff h) (fun Z Z Z Z h => ff h) (fun Z Z h => ff h) (fun Z Z h => ff h) (fun Z Z h => ff h) (fun Z Z Z Z h => ff h) (fun Z Z Z Z h => ff h) (fun Z Z Z Z h => ff h) (fun Z Z h => ff h) (fun Z Z Z h => ff h) (fun Z Z Z h => ff h) q (fun Z Z h => ff h) (fun Z Z h => ff h) (fun Z Z h => ff h) (fun Z Z Z h => ff h) (fun Z Z Z Z h => ff h)
noncomputable def dAtt (e : PySem.Expr) (f : PySem.Expr → Str → Pos → Bool) : Bool := @PySem.Expr.casesOn (fun Z => Bool) e (fun Z Z Z => false) (fun Z Z Z => false) (fun Z Z Z Z => false) (fun Z Z Z => false) (fun Z Z Z Z => false) (fun Z Z Z Z => false) (fun Z Z Z => false) (fun Z Z Z => false) (fun Z Z Z Z => false) (fun Z Z Z Z => false) (fun Z Z Z Z Z => false) (fun Z Z Z Z => false) (fun Z Z => false) (fun Z Z => false) (fun Z Z => false) (fun Z Z Z Z => false) (fun Z Z Z Z => false) (fun Z Z Z Z => false) (fun Z Z => false) (fun Z Z Z => false) (fun o n p => f o n p) (fun Z Z Z => false) (fun Z Z => false) (fun Z Z => false) (fun Z Z => false) (fun Z Z Z => false) (fun Z Z Z Z => false)
theorem dAtt_ind {Q : PySem.Expr → Prop} {f : PySem.Expr → Str → Pos → Bool} (q : ∀ (o : PySem.Expr) (n : Str) (p : Pos), f o n p = true → Q (.Attribute o n p)) (e : PySem.Expr) : dAtt e f = true → Q e :=
  @PySem.Expr.casesOn (fun e => dAtt e f = true → Q e) e (fun Z Z Z h => ff h) (fun Z Z Z h => ff h) (fun Z Z Z Z h => ff h) (fun Z Z Z h => ff h) (fun Z Z Z Z h => ff h) (fun Z Z Z Z h => ff h) (fun Z Z Z h => ff h) (fun Z Z Z h => ff h) (fun Z Z Z Z h => ff h) (fun Z Z Z Z h => ff h) (fun Z Z Z Z Z h => ff h) (fun Z Z Z Z h => ff h) (fun Z Z h => ff h) (fun Z Z h => ff h) (fun Z Z h => ff h) (fun Z Z Z Z h => ff h) (fun Z Z Z Z h => ff h) (fun Z Z Z Z h => ff h) (fun Z Z h => ff h) (fun Z Z Z h => ff h) q (fun Z Z Z h => ff h) (fun Z Z h => ff h) (fun Z Z h => ff h) (fun Z Z h => ff h) (fun Z Z Z h => ff h) (fun Z Z Z Z h => ff h)
noncomputable def dJoi (e : PySem.Expr) (f : List PySem.Expr → Pos → Bool) : Bool := @PySem.Expr.casesOn (fun Z => Bool) e (fun Z Z Z => false) (fun Z Z Z => false) (fun Z Z Z Z => false) (fun Z Z Z => false) (fun Z Z Z Z => false) (fun Z Z Z Z => false) (fun Z Z Z => false) (fun Z Z Z => false) (fun Z Z Z Z => false) (fun Z Z Z Z => false) (fun Z Z Z Z Z => false) (fun Z Z Z Z => false) (fun Z Z => false) (fun Z Z => false) (fun Z Z => false) (fun Z Z Z Z => false) (fun Z Z Z Z => false) (fun Z Z Z Z => false) (fun xs p => f xs p) (fun Z Z Z => false) (fun Z Z Z => false) (fun Z Z Z => false) (fun Z Z => false) (fun Z Z => false) (fun Z Z => false) (fun Z Z Z => false) (fun Z Z Z Z => false)
theorem dJoi_ind {Q : PySem.Expr → Prop} {f : List PySem.Expr → Pos → Bool} (q : ∀ (xs : List PySem.Expr) (p : Pos), f xs p = true → Q (.JoinedStr xs p)) (e : PySem.Expr) : dJoi e f = true → Q e :=
  @PySem.Expr.casesOn (fun e => dJoi e f = true → Q e) e (fun Z Z Z h => ff h) (fun Z Z Z h => ff h) (fun Z Z Z Z h => ff h) (fun Z Z Z h => ff h) (fun Z Z Z Z h => ff h) (fun Z Z Z Z h => ff h) (fun Z Z Z h => ff h) (fun Z Z Z h => ff h) (fun Z Z Z Z h => ff h) (fun Z Z Z Z h => ff h) (fun Z Z Z Z Z h => ff h) (fun Z Z Z Z h => ff h) (fun Z Z h => ff h) (fun Z Z h => ff h) (fun Z Z h => ff h) (fun Z Z Z Z h => ff h) (fun Z Z Z Z h => ff h) (fun Z Z Z Z h => ff h) q (fun Z Z Z h => ff h) (fun Z Z Z h => ff h) (fun Z Z Z h => ff h) (fun Z Z h => ff h) (fun Z Z h => ff h) (fun Z Z h => ff h) (fun Z Z Z h => ff h) (fun Z Z Z Z h => ff h)
noncomputable def dLCo (e : PySem.Expr) (f : PySem.Expr → List Comprehension → Scope → Pos → Bool) : Bool := @PySem.Expr.casesOn (fun Z => Bool) e (fun Z Z Z => false) (fun Z Z Z => false) (fun Z Z Z Z => false) (fun Z Z Z => false) (fun Z Z Z Z => false) (fun Z Z Z Z => false) (fun Z Z Z => false) (fun Z Z Z => false) (fun e1 gs sc p => f e1 gs sc p) (fun Z Z Z Z => false) (fun Z Z Z Z Z => false) (fun Z Z Z Z => false) (fun Z Z => false) (fun Z Z => false) (fun Z Z => false) (fun Z Z Z Z => false) (fun Z Z Z Z => false) (fun Z Z Z Z => false) (fun Z Z => false) (fun Z Z Z => false) (fun Z Z Z => false) (fun Z Z Z => false) (fun Z Z => false) (fun Z Z => false) (fun Z Z => false) (fun Z Z Z => false) (fun Z Z Z Z => false)
theorem dLCo_ind {Q : PySem.Expr → Prop} {f : PySem.Expr → List Comprehension → Scope → Pos → Bool} (q : ∀ (e1 : PySem.Expr) (gs : List Comprehension) (sc : Scope) (p : Pos), f e1 gs sc p = true → Q (.ListComp e1 gs sc p)) (e : PySem.Expr) : dLCo e f = true → Q e :=
  @PySem.Expr.casesOn (fun e => dLCo e f = true → Q e) e (fun Z Z Z h => ff h) (fun Z Z Z h => ff h) (fun Z Z Z Z h => ff h) (fun Z Z Z h => ff h) (fun Z Z Z Z h => ff h) (fun Z Z Z Z h => ff h) (fun Z Z Z h => ff h) (fun Z Z Z h => ff h) q (fun Z Z Z Z h => ff h) (fun Z Z Z Z Z h => ff h) (fun Z Z Z Z h => ff h) (fun Z Z h => ff h) (fun Z Z h => ff h) (fun Z Z h => ff h) (fun Z Z Z Z h => ff h) (fun Z Z Z Z h => ff h) (fun Z Z Z Z h => ff h) (fun Z Z h => ff h) (fun Z Z Z h => ff h) (fun Z Z Z h => ff h) (fun Z Z Z h => ff h) (fun Z Z h => ff h) (fun Z Z h => ff h) (fun Z Z h => ff h) (fun Z Z Z h => ff h) (fun Z Z Z Z h => ff h)
noncomputable def dGen (e : PySem.Expr) (f : PySem.Expr → List Comprehension → Scope → Pos → Bool) : Bool := @PySem.Expr.casesOn (fun Z => Bool) e (fun Z Z Z => false) (fun Z Z Z => false) (fun Z Z Z Z => false) (fun Z Z Z => false) (fun Z Z Z Z => false) (fun Z Z Z Z => false) (fun Z Z Z => false) (fun Z Z Z => false) (fun Z Z Z Z => false) (fun Z Z Z Z => false) (fun Z Z Z Z Z => false) (fun e1 gs sc p => f e1 gs sc p) (fun Z Z => false) (fun Z Z => false) (fun Z Z => false) (fun Z Z Z Z => false) (fun Z Z Z Z => false) (fun Z Z Z Z => false) (fun Z Z => false) (fun Z Z Z => false) (fun Z Z Z => false) (fun Z Z Z => false) (fun Z Z => false) (fun Z Z => false) (fun Z Z => false) (fun Z Z Z => false) (fun Z Z Z Z => false)
theorem dGen_ind {Q : PySem.Expr → Prop} {f : PySem.Expr → List Comprehension → Scope → Pos → Bool} (q : ∀ (e1 : PySem.Expr) (gs : List Comprehension) (sc : Scope) (p : Pos), f e1 gs sc p = true → Q (.GeneratorExp e1 gs sc p)) (e : PySem.Expr) : dGen e f = true → Q e :=
  @PySem.Expr.casesOn (fun e => dGen e f = true → Q e) e (fun Z Z Z h => ff h) (fun Z Z Z h => ff h) (fun Z Z Z Z h => ff h) (fun Z Z Z h => ff h) (fun Z Z Z Z h => ff h) (fun Z Z Z Z h => ff h) (fun Z Z Z h => ff h) (fun Z Z Z h => ff h) (fun Z Z Z Z h => ff h) (fun Z Z Z Z h => ff h) (fun Z Z Z Z Z h => ff h) q (fun Z Z h => ff h) (fun Z Z h => ff h) (fun Z Z h => ff h) (fun Z Z Z Z h => ff h) (fun Z Z Z Z h => ff h) (fun Z Z Z Z h => ff h) (fun Z Z h => ff h) (fun Z Z Z h => ff h) (fun Z Z Z h => ff h) (fun Z Z Z h => ff h) (fun Z Z h => ff h) (fun Z Z h => ff h) (fun Z Z h => ff h) (fun Z Z Z h => ff h) (fun Z Z Z Z h => ff h)
noncomputable def dBoo (e : PySem.Expr) (f : BoolOp → List PySem.Expr → Pos → Bool) : Bool := @PySem.Expr.casesOn (fun Z => Bool) e (fun o xs p => f o xs p) (fun Z Z Z => false) (fun Z Z Z Z => false) (fun Z Z Z => false) (fun Z Z Z Z => false) (fun Z Z Z Z => false) (fun Z Z Z => false) (fun Z Z Z => false) (fun Z Z Z Z => false) (fun Z Z Z Z => false) (fun Z Z Z Z Z => false) (fun Z Z Z Z => false) (fun Z Z => false) (fun Z Z => false) (fun Z Z => false) (fun Z Z Z Z => false) (fun Z Z Z Z => false) (fun Z Z Z Z => false) (fun Z Z => false) (fun Z Z Z => false) (fun Z Z Z => false) (fun Z Z Z => false) (fun Z Z => false) (fun Z Z => false) (fun Z Z => false) (fun Z Z Z => false) (fun Z Z Z Z => false)
theorem dBoo_ind {Q : PySem.Expr → Prop} {f : BoolOp → List PySem.Expr → Pos → Bool} (q : ∀ (o : BoolOp) (xs : List PySem.Expr) (p : Pos), f o xs p = true → Q (.BoolOp o xs p)) (e : PySem.Expr) : dBoo e f = true → Q e :=
  @PySem.Expr.casesOn (fun e => dBoo e f = true → Q e) e q (fun Z Z Z h => ff h) (fun Z Z Z Z h => ff h) (fun Z Z Z h => ff h) (fun Z Z Z Z h => ff h) (fun Z Z Z Z h => ff h) (fun Z Z Z h => ff h) (fun Z Z Z h => ff h) (fun Z Z Z Z h => ff h) (fun Z Z Z Z h => ff h) (fun Z Z Z Z Z h => ff h) (fun Z Z Z Z h => ff h) (fun Z Z h => ff h) (fun Z Z h => ff h) (fun Z Z h => ff h) (fun Z Z Z Z h => ff h) (fun Z Z Z Z h => ff h) (fun Z Z Z Z h => ff h) (fun Z Z h => ff h) (fun Z Z Z h => ff h) (fun Z Z Z h => ff h) (fun Z Z Z h => ff h) (fun Z Z h => ff h) (fun Z Z h => ff h) (fun Z Z h => ff h) (fun Z Z Z h => ff h) (fun Z Z Z Z h => ff h)
noncomputable def dCal (e : PySem.Expr) (f : PySem.Expr → List PySem.Expr → Pos → Bool) : Bool := @PySem.Expr.casesOn (fun Z => Bool) e (fun Z Z Z => false) (fun Z Z Z => false) (fun Z Z Z Z => false) (fun Z Z Z => false) (fun Z Z Z Z => false) (fun Z Z Z Z => false) (fun Z Z Z => false) (fun Z Z Z => false) (fun Z Z Z Z => false) (fun Z Z Z Z => false) (fun Z Z Z Z Z => false) (fun Z Z Z Z => false) (fun Z Z => false) (fun Z Z => false) (fun Z Z => false) (fun Z Z Z Z => false) (fun g xs ks p => l0 ks (f g xs p)) (fun Z Z Z Z => false) (fun Z Z => false) (fun Z Z Z => false) (fun Z Z Z => false) (fun Z Z Z => false) (fun Z Z => false) (fun Z Z => false) (fun Z Z => false) (fun Z Z Z => false) (fun Z Z Z Z => false)
theorem dCal_ind {Q : PySem.Expr → Prop} {f : PySem.Expr → List PySem.Expr → Pos → Bool} (q : ∀ (g : PySem.Expr) (xs : List PySem.Expr) (p : Pos), f g xs p = true → Q (.Call g xs [] p)) (e : PySem.Expr) : dCal e f = true → Q e :=
  @PySem.Expr.casesOn (fun e => dCal e f = true → Q e) e (fun Z Z Z h => ff h) (fun Z Z Z h => ff h) (fun Z Z Z Z h => ff h) (fun Z Z Z h => ff h) (fun Z Z Z Z h => ff h) (fun Z Z Z Z h => ff h) (fun Z Z Z h => ff h) (fun Z Z Z h => ff h) (fun Z Z Z Z h => ff h) (fun Z Z Z Z h => ff h) (fun Z Z Z Z Z h => ff h) (fun Z Z Z Z h => ff h) (fun Z Z h => ff h) (fun Z Z h => ff h) (fun Z Z h => ff h) (fun Z Z Z Z h => ff h) (fun g xs ks p h => l0_ind (Q := fun ks => Q (.Call g xs ks p)) (q g xs p) ks h) (fun Z Z Z Z h => ff h) (fun Z Z h => ff h) (fun Z Z Z h => ff h) (fun Z Z Z h => ff h) (fun Z Z Z h => ff h) (fun Z Z h => ff h) (fun Z Z h => ff h) (fun Z Z h => ff h) (fun Z Z Z h => ff h) (fun Z Z Z Z h => ff h)
noncomputable def dSli (e : PySem.Expr) (f : Option PySem.Expr → Option PySem.Expr → Pos → Bool) : Bool := @PySem.Expr.casesOn (fun Z => Bool) e (fun Z Z Z => false) (fun Z Z Z => false) (fun Z Z Z Z => false) (fun Z Z Z => false) (fun Z Z Z Z => false) (fun Z Z Z Z => false) (fun Z Z Z => false) (fun Z Z Z => false) (fun Z Z Z Z => false) (fun Z Z Z Z => false) (fun Z Z Z Z Z => false) (fun Z Z Z Z => false) (fun Z Z => false) (fun Z Z => false) (fun Z Z => false) (fun Z Z Z Z => false) (fun Z Z Z Z => false) (fun Z Z Z Z => false) (fun Z Z => false) (fun Z Z Z => false) (fun Z Z Z => false) (fun Z Z Z => false) (fun Z Z => false) (fun Z Z => false) (fun Z Z => false) (fun Z Z Z => false) (fun lo hi st p => oN st (f lo hi p))
theorem dSli_ind {Q : PySem.Expr → Prop} {f : Option PySem.Expr → Option PySem.Expr → Pos → Bool} (q : ∀ (lo : Option PySem.Expr) (hi : Option PySem.Expr) (p : Pos), f lo hi p = true → Q (.Slice lo hi Option.none p)) (e : PySem.Expr) : dSli e f = true → Q e :=
  @PySem.Expr.casesOn (fun e => dSli e f = true → Q e) e (fun Z Z Z h => ff h) (fun Z Z Z h => ff h) (fun Z Z Z Z h => ff h) (fun Z Z Z h => ff h) (fun Z Z Z Z h => ff h) (fun Z Z Z Z h => ff h) (fun Z Z Z h => ff h) (fun Z Z Z h => ff h) (fun Z Z Z Z h => ff h) (fun Z Z Z Z h => ff h) (fun Z Z Z Z Z h => ff h) (fun Z Z Z Z h => ff h) (fun Z Z h => ff h) (fun Z Z h => ff h) (fun Z Z h => ff h) (fun Z Z Z Z h => ff h) (fun Z Z Z Z h => ff h) (fun Z Z Z Z h => ff h) (fun Z Z h => ff h) (fun Z Z Z h => ff h) (fun Z Z Z h => ff h) (fun Z Z Z h => ff h) (fun Z Z h => ff h) (fun Z Z h => ff h) (fun Z Z h => ff h) (fun Z Z Z h => ff h) (fun lo hi st p h => oN_ind (Q := fun st => Q (.Slice lo hi st p)) (q lo hi p) st h)
noncomputable def dFmt (e : PySem.Expr) (f : PySem.Expr → Int → Pos → Bool) : Bool := @PySem.Expr.casesOn (fun Z => Bool) e (fun Z Z Z => false) (fun Z Z Z => false) (fun Z Z Z Z => false) (fun Z Z Z => false) (fun Z Z Z Z => false) (fun Z Z Z Z => false) (fun Z Z Z => false) (fun Z Z Z => false) (fun Z Z Z Z => false) (fun Z Z Z Z => false) (fun Z Z Z Z Z => false) (fun Z Z Z Z => false) (fun Z Z => false) (fun Z Z => false) (fun Z Z => false) (fun Z Z Z Z => false) (fun Z Z Z Z => false) (fun x c st p => oN st (f x c p)) (fun Z Z => false) (fun Z Z Z => false) (fun Z Z Z => false) (fun Z Z Z => false) (fun Z Z => false) (fun Z Z => false) (fun Z Z => false) (fun Z Z Z => false) (fun Z Z Z Z => false)
theorem dFmt_ind {Q : PySem.Expr → Prop} {f : PySem.Expr → Int → Pos → Bool} (q : ∀ (x : PySem.Expr) (c : Int) (p : Pos), f x c p = true → Q (.FormattedValue x c Option.none p)) (e : PySem.Expr) : dFmt e f = true → Q e :=
  @PySem.Expr.casesOn (fun e => dFmt e f = true → Q e) e (fun Z Z Z h => ff h) (fun Z Z Z h => ff h) (fun Z Z Z Z h => ff h) (fun Z Z Z h => ff h) (fun Z Z Z Z h => ff h) (fun Z Z Z Z h => ff h) (fun Z Z Z h => ff h) (fun Z Z Z h => ff h) (fun Z Z Z Z h => ff h) (fun Z Z Z Z h => ff h) (fun Z Z Z Z Z h => ff h) (fun Z Z Z Z h => ff h) (fun Z Z h => ff h) (fun Z Z h => ff h) (fun Z Z h => ff h) (fun Z Z Z Z h => ff h) (fun Z Z Z Z h => ff h) (fun x c st p h => oN_ind (Q := fun st => Q (.FormattedValue x c st p)) (q x c p) st h) (fun Z Z h => ff h) (fun Z Z Z h => ff h) (fun Z Z Z h => ff h) (fun Z Z Z h => ff h) (fun Z Z h => ff h) (fun Z Z h => ff h) (fun Z Z h => ff h) (fun Z Z Z h => ff h) (fun Z Z Z Z h => ff h)
noncomputable def sAsg (e : PySem.Stmt) (f : PySem.Expr → PySem.Expr → Pos → Bool) : Bool := @PySem.Stmt.casesOn (fun Z => Bool) e (fun Z Z Z Z Z Z Z Z Z Z => false) (fun Z Z Z Z Z Z Z Z Z Z => false) (fun Z Z Z Z Z Z Z Z Z Z Z => false) (fun Z Z => false) (fun Z Z => false) (fun ts v p => l1 ts (fun t => f t v p)) (fun Z Z Z Z Z Z Z => false) (fun Z Z Z Z => false) (fun Z Z Z Z Z => false) (fun Z Z Z Z Z => false) (fun Z Z Z Z Z => false) (fun Z Z Z Z => false) (fun Z Z Z Z => false) (fun Z Z Z => false) (fun Z Z Z => false) (fun Z Z Z => false) (fun Z Z Z => false) (fun Z Z Z Z Z => false) (fun Z Z Z Z Z => false) (fun Z Z Z => false) (fun Z Z => false) (fun Z Z Z Z => false) (fun Z Z => false) (fun Z Z => false) (fun Z Z => false) (fun Z => false) (fun Z => false) (fun Z => false)
theorem sAsg_ind {Q : PySem.Stmt → Prop} {f : PySem.Expr → PySem.Expr → Pos → Bool} (q : ∀ (t : PySem.Expr) (v : PySem.Expr) (p : Pos), f t v p = true → Q (.Assign [t] v p)) (e : PySem.Stmt) : sAsg e f = true → Q e :=
  @PySem.Stmt.casesOn (fun e => sAsg e f = true → Q e) e (fun Z Z Z Z Z Z Z Z Z Z h => ff h) (fun Z Z Z Z Z Z Z Z Z Z h => ff h) (fun Z Z Z Z Z Z Z Z Z Z Z h => ff h) (fun Z Z h => ff h) (fun Z Z h => ff h) (fun ts v p h => l1_ind (Q := fun ts => Q (.Assign ts v p)) (fun t => q t v p) ts h) (fun Z Z Z Z Z Z Z h => ff h) (fun Z Z Z Z h => ff h) (fun Z Z Z Z Z h => ff h) (fun Z Z Z Z Z h => ff h) (fun Z Z Z Z Z h => ff h) (fun Z Z Z Z h => ff h) (fun Z Z Z Z h => ff h) (fun Z Z Z h => ff h) (fun Z Z Z h => ff h) (fun Z Z Z h => ff h) (fun Z Z Z h => ff h) (fun Z Z Z Z Z h => ff h) (fun Z Z Z Z Z h => ff h) (fun Z Z Z h => ff h) (fun Z Z h => ff h) (fun Z Z Z Z h => ff h) (fun Z Z h => ff h) (fun Z Z h => ff h) (fun Z Z h => ff h) (fun Z h => ff h) (fun Z h => ff h) (fun Z h => ff h)
noncomputable def sAug (e : PySem.Stmt) (f : PySem.Expr → Operator → PySem.Expr → Pos → Bool) : Bool := @PySem.Stmt.casesOn (fun Z => Bool) e (fun Z Z Z Z Z Z Z Z Z Z => false) (fun Z Z Z Z Z Z Z Z Z Z => false) (fun Z Z Z Z Z Z Z Z Z Z Z => false) (fun Z Z => false) (fun Z Z => false) (fun Z Z Z => false) (fun Z Z Z Z Z Z Z => false) (fun t o v p => f t o v p) (fun Z Z Z Z Z => false) (fun Z Z Z Z Z => false) (fun Z Z Z Z Z => false) (fun Z Z Z Z => false) (fun Z Z Z Z => false) (fun Z Z Z => false) (fun Z Z Z => false) (fun Z Z Z => false) (fun Z Z Z => false) (fun Z Z Z Z Z => false) (fun Z Z Z Z Z => false) (fun Z Z Z => false) (fun Z Z => false) (fun Z Z Z Z => false) (fun Z Z => false) (fun Z Z => false) (fun Z Z => false) (fun Z => false) (fun Z => false) (fun Z => false)
theorem sAug_ind {Q : PySem.Stmt → Prop} {f : PySem.Expr → Operator → PySem.Expr → Pos → Bool} (q : ∀ (t : PySem.Expr) (o : Operator) (v : PySem.Expr) (p : Pos), f t o v p = true → Q (.AugAssign t o v p)) (e : PySem.Stmt) : sAug e f = true → Q e :=
  @PySem.Stmt.casesOn (fun e => sAug e f = true → Q e) e (fun Z Z Z Z Z Z Z Z Z Z h => ff h) (fun Z Z Z Z Z Z Z Z Z Z h => ff h) (fun Z Z Z Z Z Z Z Z Z Z Z h => ff h) (fun Z Z h => ff h) (fun Z Z h => ff h) (fun Z Z Z h => ff h) (fun Z Z Z Z Z Z Z h => ff h) q (fun Z Z Z Z Z h => ff h) (fun Z Z Z Z Z h => ff h) (fun Z Z Z Z Z h => ff h) (fun Z Z Z Z h => ff h) (fun Z Z Z Z h => ff h) (fun Z Z Z h => ff h) (fun Z Z Z h => ff h) (fun Z Z Z h => ff h) (fun Z Z Z h => ff h) (fun Z Z Z Z Z h => ff h) (fun Z Z Z Z Z h => ff h) (fun Z Z Z h => ff h) (fun Z Z h => ff h) (fun Z Z Z Z h => ff h) (fun Z Z h => ff h) (fun Z Z h => ff h) (fun Z Z h => ff h) (fun Z h => ff h) (fun Z h => ff h) (fun Z h => ff h)
noncomputable def sExp (e : PySem.Stmt) (f : PySem.Expr → Pos → Bool) : Bool := @PySem.Stmt.casesOn (fun Z => Bool) e (fun Z Z Z Z Z Z Z Z Z Z => false) (fun Z Z Z Z Z Z Z Z Z Z => false) (fun Z Z Z Z Z Z Z Z Z Z Z => false) (fun Z Z => false) (fun Z Z => false) (fun Z Z Z => false) (fun Z Z Z Z Z Z Z => false) (fun Z Z Z Z => false) (fun Z Z Z Z Z => false) (fun Z Z Z Z Z => false) (fun Z Z Z Z Z => false) (fun Z Z Z Z => false) (fun Z Z Z Z => false) (fun Z Z Z => false) (fun Z Z Z => false) (fun Z Z Z => false) (fun Z Z Z => false) (fun Z Z Z Z Z => false) (fun Z Z Z Z Z => false) (fun Z Z Z => false) (fun Z Z => false) (fun Z Z Z Z => false) (fun Z Z => false) (fun Z Z => false) (fun v p => f v p) (fun Z => false) (fun Z => false) (fun Z => false)
theorem sExp_ind {Q : PySem.Stmt → Prop} {f : PySem.Expr → Pos → Bool} (q : ∀ (v : PySem.Expr) (p : Pos), f v p = true → Q (.Expr v p)) (e : PySem.Stmt) : sExp e f = true → Q e :=
  @PySem.Stmt.casesOn (fun e => sExp e f = true → Q e) e (fun Z Z Z Z Z Z Z Z Z Z h => ff h) (fun Z Z Z Z Z Z Z Z Z Z h => ff h) (fun Z Z Z Z Z Z Z Z Z Z Z h => ff h) (fun Z Z h => ff h) (fun Z Z h => ff h) (fun Z Z Z h => ff h) (fun Z Z Z Z Z Z Z h => ff h) (fun Z Z Z Z h => ff h) (fun Z Z Z Z Z h => ff h) (fun Z Z Z Z Z h => ff h) (fun Z Z Z Z Z h => ff h) (fun Z Z Z Z h => ff h) (fun Z Z Z Z h => ff h) (fun Z Z Z h => ff h) (fun Z Z Z h => ff h) (fun Z Z Z h => ff h) (fun Z Z Z h => ff h) (fun Z Z Z Z Z h => ff h) (fun Z Z Z Z Z h => ff h) (fun Z Z Z h => ff h) (fun Z Z h => ff h) (fun Z Z Z Z h => ff h) (fun Z Z h => ff h) (fun Z Z h => ff h) q (fun Z h => ff h) (fun Z h => ff h) (fun Z h => ff h)
noncomputable def sIf (e : PySem.Stmt) (f : PySem.Expr → List Stmt → List Stmt → Pos → Bool) : Bool := @PySem.Stmt.casesOn (fun Z => Bool) e (fun Z Z Z Z Z Z Z Z Z Z => false) (fun Z Z Z Z Z Z Z Z Z Z => false) (fun Z Z Z Z Z Z Z Z Z Z Z => false) (fun Z Z => false) (fun Z Z => false) (fun Z Z Z => false) (fun Z Z Z Z Z Z Z => false) (fun Z Z Z Z => false) (fun Z Z Z Z Z => false) (fun Z Z Z Z Z => false) (fun Z Z Z Z Z => false) (fun Z Z Z Z => false) (fun t a b p => f t a b p) (fun Z Z Z => false) (fun Z Z Z => false) (fun Z Z Z => false) (fun Z Z Z => false) (fun Z Z Z Z Z => false) (fun Z Z Z Z Z => false) (fun Z Z Z => false) (fun Z Z => false) (fun Z Z Z Z => false) (fun Z Z => false) (fun Z Z => false) (fun Z Z => false) (fun Z => false) (fun Z => false) (fun Z => false)
theorem sIf_ind {Q : PySem.Stmt → Prop} {f : PySem.Expr → List Stmt → List Stmt → Pos → Bool} (q : ∀ (t : PySem.Expr) (a : List Stmt) (b : List Stmt) (p : Pos), f t a b p = true → Q (.If t a b p)) (e : PySem.Stmt) : sIf e f = true → Q e :=
  @PySem.Stmt.casesOn (fun e => sIf e f = true → Q e) e (fun Z Z Z Z Z Z Z Z Z Z h => ff h) (fun Z Z Z Z Z Z Z Z Z Z h => ff h) (fun Z Z Z Z Z Z Z Z Z Z Z h => ff h) (fun Z Z h => ff h) (fun Z Z h => ff h) (fun Z Z Z h => ff h) (fun Z Z Z Z Z Z Z h => ff h) (fun Z Z Z Z h => ff h) (fun Z Z Z Z Z h => ff h) (fun Z Z Z Z Z h => ff h) (fun Z Z Z Z Z h => ff h) (fun Z Z Z Z h => ff h) q (fun Z Z Z h => ff h) (fun Z Z Z h => ff h) (fun Z Z Z h => ff h) (fun Z Z Z h => ff h) (fun Z Z Z Z Z h => ff h) (fun Z Z Z Z Z h => ff h) (fun Z Z Z h => ff h) (fun Z Z h => ff h) (fun Z Z Z Z h => ff h) (fun Z Z h => ff h) (fun Z Z h => ff h) (fun Z Z h => ff h) (fun Z h => ff h) (fun Z h => ff h) (fun Z h => ff h)
noncomputable def sWhl (e : PySem.Stmt) (f : PySem.Expr → List Stmt → Pos → Bool) : Bool := @PySem.Stmt.casesOn (fun Z => Bool) e (fun Z Z Z Z Z Z Z Z Z Z => false) (fun Z Z Z Z Z Z Z Z Z Z => false) (fun Z Z Z Z Z Z Z Z Z Z Z => false) (fun Z Z => false) (fun Z Z => false) (fun Z Z Z => false) (fun Z Z Z Z Z Z Z => false) (fun Z Z Z Z => false) (fun Z Z Z Z Z => false) (fun Z Z Z Z Z => false) (fun Z Z Z Z Z => false) (fun t a b p => l0 b (f t a p)) (fun Z Z Z Z => false) (fun Z Z Z => false) (fun Z Z Z => false) (fun Z Z Z => false) (fun Z Z Z => false) (fun Z Z Z Z Z => false) (fun Z Z Z Z Z => false) (fun Z Z Z => false) (fun Z Z => false) (fun Z Z Z Z => false) (fun Z Z => false) (fun Z Z => false) (fun Z Z => false) (fun Z => false) (fun Z => false) (fun Z => false)
theorem sWhl_ind {Q : PySem.Stmt → Prop} {f : PySem.Expr → List Stmt → Pos → Bool} (q : ∀ (t : PySem.Expr) (a : List Stmt) (p : Pos), f t a p = true → Q (.While t a [] p)) (e : PySem.Stmt) : sWhl e f = true → Q e :=
  @PySem.Stmt.casesOn (fun e => sWhl e f = true → Q e) e (fun Z Z Z Z Z Z Z Z Z Z h => ff h) (fun Z Z Z Z Z Z Z Z Z Z h => ff h) (fun Z Z Z Z Z Z Z Z Z Z Z h => ff h) (fun Z Z h => ff h) (fun Z Z h => ff h) (fun Z Z Z h => ff h) (fun Z Z Z Z Z Z Z h => ff h) (fun Z Z Z Z h => ff h) (fun Z Z Z Z Z h => ff h) (fun Z Z Z Z Z h => ff h) (fun Z Z Z Z Z h => ff h) (fun t a b p h => l0_ind (Q := fun b => Q (.While t a b p)) (q t a p) b h) (fun Z Z Z Z h => ff h) (fun Z Z Z h => ff h) (fun Z Z Z h => ff h) (fun Z Z Z h => ff h) (fun Z Z Z h => ff h) (fun Z Z Z Z Z h => ff h) (fun Z Z Z Z Z h => ff h) (fun Z Z Z h => ff h) (fun Z Z h => ff h) (fun Z Z Z Z h => ff h) (fun Z Z h => ff h) (fun Z Z h => ff h) (fun Z Z h => ff h) (fun Z h => ff h) (fun Z h => ff h) (fun Z h => ff h)
noncomputable def sFor (e : PySem.Stmt) (f : PySem.Expr → PySem.Expr → List Stmt → Pos → Bool) : Bool := @PySem.Stmt.casesOn (fun Z => Bool) e (fun Z Z Z Z Z Z Z Z Z Z => false) (fun Z Z Z Z Z Z Z Z Z Z => false) (fun Z Z Z Z Z Z Z Z Z Z Z => false) (fun Z Z => false) (fun Z Z => false) (fun Z Z Z => false) (fun Z Z Z Z Z Z Z => false) (fun Z Z Z Z => false) (fun Z Z Z Z Z => false) (fun t i a b p => l0 b (f t i a p)) (fun Z Z Z Z Z => false) (fun Z Z Z Z => false) (fun Z Z Z Z => false) (fun Z Z Z => false) (fun Z Z Z => false) (fun Z Z Z => false) (fun Z Z Z => false) (fun Z Z Z Z Z => false) (fun Z Z Z Z Z => false) (fun Z Z Z => false) (fun Z Z => false) (fun Z Z Z Z => false) (fun Z Z => false) (fun Z Z => false) (fun Z Z => false) (fun Z => false) (fun Z => false) (fun Z => false)
theorem sFor_ind {Q : PySem.Stmt → Prop} {f : PySem.Expr → PySem.Expr → List Stmt → Pos → Bool} (q : ∀ (t : PySem.Expr) (i : PySem.Expr) (a : List Stmt) (p : Pos), f t i a p = true → Q (.For t i a [] p)) (e : PySem.Stmt) : sFor e f = true → Q e :=
  @PySem.Stmt.casesOn (fun e => sFor e f = true → Q e) e (fun Z Z Z Z Z Z Z Z Z Z h => ff h) (fun Z Z Z Z Z Z Z Z Z Z h => ff h) (fun Z Z Z Z Z Z Z Z Z Z Z h => ff h) (fun Z Z h => ff h) (fun Z Z h => ff h) (fun Z Z Z h => ff h) (fun Z Z Z Z Z Z Z h => ff h) (fun Z Z Z Z h => ff h) (fun Z Z Z Z Z h => ff h) (fun t i a b p h => l0_ind (Q := fun b => Q (.For t i a b p)) (q t i a p) b h) (fun Z Z Z Z Z h => ff h) (fun Z Z Z Z h => ff h) (fun Z Z Z Z h => ff h) (fun Z Z Z h => ff h) (fun Z Z Z h => ff h) (fun Z Z Z h => ff h) (fun Z Z Z h => ff h) (fun Z Z Z Z Z h => ff h) (fun Z Z Z Z Z h => ff h) (fun Z Z Z h => ff h) (fun Z Z h => ff h) (fun Z Z Z Z h => ff h) (fun Z Z h => ff h) (fun Z Z h => ff h) (fun Z Z h => ff h) (fun Z h => ff h) (fun Z h => ff h) (fun Z h => ff h)
noncomputable def sRet (e : PySem.Stmt) (f : PySem.Expr → Pos → Bool) : Bool := @PySem.Stmt.casesOn (fun Z => Bool) e (fun Z Z Z Z Z Z Z Z Z Z => false) (fun Z Z Z Z Z Z Z Z Z Z => false) (fun Z Z Z Z Z Z Z Z Z Z Z => false) (fun v p => oS v (fun v => f v p)) (fun Z Z => false) (fun Z Z Z => false) (fun Z Z Z Z Z Z Z => false) (fun Z Z Z Z => false) (fun Z Z Z Z Z => false) (fun Z Z Z Z Z => false) (fun Z Z Z Z Z => false) (fun Z Z Z Z => false) (fun Z Z Z Z => false) (fun Z Z Z => false) (fun Z Z Z => false) (fun Z Z Z => false) (fun Z Z Z => false) (fun Z Z Z Z Z => false) (fun Z Z Z Z Z => false) (fun Z Z Z => false) (fun Z Z => false) (fun Z Z Z Z => false) (fun Z Z => false) (fun Z Z => false) (fun Z Z => false) (fun Z => false) (fun Z => false) (fun Z => false)
theorem sRet_ind {Q : PySem.Stmt → Prop} {f : PySem.Expr → Pos → Bool} (q : ∀ (v : PySem.Expr) (p : Pos), f v p = true → Q (.Return (some v) p)) (e : PySem.Stmt) : sRet e f = true → Q e :=
  @PySem.Stmt.casesOn (fun e => sRet e f = true → Q e) e (fun Z Z Z Z Z Z Z Z Z Z h => ff h) (fun Z Z Z Z Z Z Z Z Z Z h => ff h) (fun Z Z Z Z Z Z Z Z Z Z Z h => ff h) (fun v p h => oS_ind (Q := fun v => Q (.Return v p)) (fun v => q v p) v h) (fun Z Z h => ff h) (fun Z Z Z h => ff h) (fun Z Z Z Z Z Z Z h => ff h) (fun Z Z Z Z h => ff h) (fun Z Z Z Z Z h => ff h) (fun Z Z Z Z Z h => ff h) (fun Z Z Z Z Z h => ff h) (fun Z Z Z Z h => ff h) (fun Z Z Z Z h => ff h) (fun Z Z Z h => ff h) (fun Z Z Z h => ff h) (fun Z Z Z h => ff h) (fun Z Z Z h => ff h) (fun Z Z Z Z Z h => ff h) (fun Z Z Z Z Z h => ff h) (fun Z Z Z h => ff h) (fun Z Z h => ff h) (fun Z Z Z Z h => ff h) (fun Z Z h => ff h) (fun Z Z h => ff h) (fun Z Z h => ff h) (fun Z h => ff h) (fun Z h => ff h) (fun Z h => ff h)
noncomputable def dictOk : List (Str × Str) → List (Option Expr) → List Expr → Bool
  | [], ks, vs => l0 ks (l0 vs true)
  | kv :: r, ks, vs => lc ks fun a ks => lc vs fun b vs => oS a fun a => dCst a fun c Z Z => dCst b fun d Z Z => eqb c (.str kv.1) (eqb d (.str kv.2) (sOk kv.1 && sOk kv.2 && dictOk r ks vs))
noncomputable def compOk (S : Tab) (N : List Str) (caps : List Nat) (x : Str) (scope : Scope) : Option (List Str) :=
  match mapO (fun i => N[i]?) caps with
  | some cs =>
    if scope.kind == .function && scope.names.lookup x == some .local && scope.names.all (fun y => y.2 != .cell) && decide (scope.names.map (·.1)).Nodup
        && !scope.isCoroutine
        && scope.names.all (fun y => y.2 != .free || (cs.contains y.1 && S.lookup y.1 == some .cell))
        && cs.all (fun c => scope.names.lookup c == some .free && c != x) && decide cs.Nodup
      then some (x :: cs) else Option.none
  | Option.none => Option.none
noncomputable def isNone (e : PE) : Bool := @PE.casesOn (fun Z => Bool) e (fun Z => false) true (fun Z => false) (fun Z => false) (fun Z => false) (fun Z => false) (fun Z => false) (fun Z => false) (fun Z => false) (fun Z => false) (fun Z Z Z => false) (fun Z Z Z => false) (fun Z => false) (fun Z Z => false) (fun Z Z Z => false) (fun Z Z Z => false) (fun Z => false) (fun Z Z => false) (fun Z Z => false) (fun Z => false) (fun Z => false) (fun Z => false) (fun Z => false) (fun Z => false) (fun Z => false) (fun Z Z Z => false) (fun Z Z Z Z => false) (fun Z Z Z => false) (fun Z => false) (fun Z Z => false) (fun Z Z Z => false) (fun Z Z => false) (fun Z Z Z => false) (fun Z => false) (fun Z => false) (fun Z => false) (fun Z => false)
noncomputable def isCompE (e : PE) : Bool := @PE.casesOn (fun Z => Bool) e (fun Z => false) false (fun Z => false) (fun Z => false) (fun Z => false) (fun Z => false) (fun Z => false) (fun Z => false) (fun Z => false) (fun Z => false) (fun Z Z Z => false) (fun Z Z Z => false) (fun Z => false) (fun Z Z => false) (fun Z Z Z => false) (fun Z Z Z => false) (fun Z => false) (fun Z Z => false) (fun Z Z => false) (fun Z => false) (fun Z => false) (fun Z => false) (fun Z => false) (fun Z => false) (fun Z => false) (fun Z Z Z => true) (fun Z Z Z Z => true) (fun Z Z Z => false) (fun Z => false) (fun Z Z => false) (fun Z Z Z => false) (fun Z Z => false) (fun Z Z Z => false) (fun Z => false) (fun Z => false) (fun Z => false) (fun Z => false)
noncomputable def isVarE (e : PE) : Bool := @PE.casesOn (fun Z => Bool) e (fun Z => true) false (fun Z => false) (fun Z => false) (fun Z => false) (fun Z => false) (fun Z => false) (fun Z => false) (fun Z => false) (fun Z => false) (fun Z Z Z => false) (fun Z Z Z => false) (fun Z => false) (fun Z Z => false) (fun Z Z Z => false) (fun Z Z Z => false) (fun Z => false) (fun Z Z => false) (fun Z Z => false) (fun Z => false) (fun Z => false) (fun Z => false) (fun Z => false) (fun Z => false) (fun Z => false) (fun Z Z Z => false) (fun Z Z Z Z => false) (fun Z Z Z => false) (fun Z => false) (fun Z Z => false) (fun Z Z Z => false) (fun Z Z => false) (fun Z Z Z => false) (fun Z => false) (fun Z => false) (fun Z => false) (fun Z => false)
noncomputable def strOf (e : PE) : Option Str := @PE.casesOn (fun Z => Option Str) e (fun Z => Option.none) Option.none (fun Z => Option.none) (fun Z => Option.none) (fun Z => Option.none) (fun s => some s) (fun Z => Option.none) (fun Z => Option.none) (fun Z => Option.none) (fun Z => Option.none) (fun Z Z Z => Option.none) (fun Z Z Z => Option.none) (fun Z => Option.none) (fun Z Z => Option.none) (fun Z Z Z => Option.none) (fun Z Z Z => Option.none) (fun Z => Option.none) (fun Z Z => Option.none) (fun Z Z => Option.none) (fun Z => Option.none) (fun Z => Option.none) (fun Z => Option.none) (fun Z => Option.none) (fun Z => Option.none) (fun Z => Option.none) (fun Z Z Z => Option.none) (fun Z Z Z Z => Option.none) (fun Z Z Z => Option.none) (fun Z => Option.none) (fun Z Z => Option.none) (fun Z Z Z => Option.none) (fun Z Z => Option.none) (fun Z Z Z => Option.none) (fun Z => Option.none) (fun Z => Option.none) (fun Z => Option.none) (fun Z => Option.none)
noncomputable def isFreeze (e : PS) : Bool := @PS.casesOn (fun Z => Bool) e (fun Z Z => false) (fun Z => false) (fun Z => false) (fun Z Z => false) (fun Z Z Z Z => false) (fun Z Z Z => false) (fun Z Z => false) (fun Z Z => false) (fun Z Z Z => false) (fun Z Z Z Z => false) (fun Z Z Z => false) (fun Z Z => false) (fun Z Z Z => false) (fun Z Z Z Z => false) (fun Z => false) (fun Z => true)
noncomputable def qAny (e : PE) (f : List Nat → PE → PE → Bool) : Bool := @PE.casesOn (fun Z => Bool) e (fun Z => false) false (fun Z => false) (fun Z => false) (fun Z => false) (fun Z => false) (fun Z => false) (fun Z => false) (fun Z => false) (fun Z => false) (fun Z Z Z => false) (fun Z Z Z => false) (fun Z => false) (fun Z Z => false) (fun Z Z Z => false) (fun Z Z Z => false) (fun Z => false) (fun Z Z => false) (fun Z Z => false) (fun Z => false) (fun Z => false) (fun Z => false) (fun Z => false) (fun Z => false) (fun Z => false) (fun Z Z Z => false) (fun Z Z Z Z => false) f (fun Z => false) (fun Z Z => false) (fun Z Z Z => false) (fun Z Z => false) (fun Z Z Z => false) (fun Z => false) (fun Z => false) (fun Z => false) (fun Z => false)
theorem qAny_ind {Q : PE → Prop} {f : List Nat → PE → PE → Bool} (q : ∀ (x0 : List Nat) (x1 : PE) (x2 : PE), f x0 x1 x2 = true → Q (.anyg x0 x1 x2)) (e : PE) : qAny e f = true → Q e :=
  @PE.casesOn (fun e => qAny e f = true → Q e) e (fun Z h => ff h) (fun h => ff h) (fun Z h => ff h) (fun Z h => ff h) (fun Z h => ff h) (fun Z h => ff h) (fun Z h => ff h) (fun Z h => ff h) (fun Z h => ff h) (fun Z h => ff h) (fun Z Z Z h => ff h) (fun Z Z Z h => ff h) (fun Z h => ff h) (fun Z Z h => ff h) (fun Z Z Z h => ff h) (fun Z Z Z h => ff h) (fun Z h => ff h) (fun Z Z h => ff h) (fun Z Z h => ff h) (fun Z h => ff h) (fun Z h => ff h) (fun Z h => ff h) (fun Z h => ff h) (fun Z h => ff h) (fun Z h => ff h) (fun Z Z Z h => ff h) (fun Z Z Z Z h => ff h) q (fun Z h => ff h) (fun Z Z h => ff h) (fun Z Z Z h => ff h) (fun Z Z h => ff h) (fun Z Z Z h => ff h) (fun Z h => ff h) (fun Z h => ff h) (fun Z h => ff h) (fun Z h => ff h)
noncomputable def qCmp (e : PE) (f : COp → PE → PE → Bool) : Bool := @PE.casesOn (fun Z => Bool) e (fun Z => false) false (fun Z => false) (fun Z => false) (fun Z => false) (fun Z => false) (fun Z => false) (fun Z => false) (fun Z => false) (fun Z => false) (fun Z Z Z => false) f (fun Z => false) (fun Z Z => false) (fun Z Z Z => false) (fun Z Z Z => false) (fun Z => false) (fun Z Z => false) (fun Z Z => false) (fun Z => false) (fun Z => false) (fun Z => false) (fun Z => false) (fun Z => false) (fun Z => false) (fun Z Z Z => false) (fun Z Z Z Z => false) (fun Z Z Z => false) (fun Z => false) (fun Z Z => false) (fun Z Z Z => false) (fun Z Z => false) (fun Z Z Z => false) (fun Z => false) (fun Z => false) (fun Z => false) (fun Z => false)
theorem qCmp_ind {Q : PE → Prop} {f : COp → PE → PE → Bool} (q : ∀ (x0 : COp) (x1 : PE) (x2 : PE), f x0 x1 x2 = true → Q (.cmp x0 x1 x2)) (e : PE) : qCmp e f = true → Q e :=
  @PE.casesOn (fun e => qCmp e f = true → Q e) e (fun Z h => ff h) (fun h => ff h) (fun Z h => ff h) (fun Z h => ff h) (fun Z h => ff h) (fun Z h => ff h) (fun Z h => ff h) (fun Z h => ff h) (fun Z h => ff h) (fun Z h => ff h) (fun Z Z Z h => ff h) q (fun Z h => ff h) (fun Z Z h => ff h) (fun Z Z Z h => ff h) (fun Z Z Z h => ff h) (fun Z h => ff h) (fun Z Z h => ff h) (fun Z Z h => ff h) (fun Z h => ff h) (fun Z h => ff h) (fun Z h => ff h) (fun Z h => ff h) (fun Z h => ff h) (fun Z h => ff h) (fun Z Z Z h => ff h) (fun Z Z Z Z h => ff h) (fun Z Z Z h => ff h) (fun Z h => ff h) (fun Z Z h => ff h) (fun Z Z Z h => ff h) (fun Z Z h => ff h) (fun Z Z Z h => ff h) (fun Z h => ff h) (fun Z h => ff h) (fun Z h => ff h) (fun Z h => ff h)
noncomputable def qAbs (e : PE) (f : PE → Bool) : Bool := @PE.casesOn (fun Z => Bool) e (fun Z => false) false (fun Z => false) (fun Z => false) (fun Z => false) (fun Z => false) (fun Z => false) (fun Z => false) (fun Z => false) (fun Z => false) (fun Z Z Z => false) (fun Z Z Z => false) (fun Z => false) (fun Z Z => false) (fun Z Z Z => false) (fun Z Z Z => false) (fun Z => false) (fun Z Z => false) (fun Z Z => false) f (fun Z => false) (fun Z => false) (fun Z => false) (fun Z => false) (fun Z => false) (fun Z Z Z => false) (fun Z Z Z Z => false) (fun Z Z Z => false) (fun Z => false) (fun Z Z => false) (fun Z Z Z => false) (fun Z Z => false) (fun Z Z Z => false) (fun Z => false) (fun Z => false) (fun Z => false) (fun Z => false)
theorem qAbs_ind {Q : PE → Prop} {f : PE → Bool} (q : ∀ (x0 : PE), f x0 = true → Q (.abs x0)) (e : PE) : qAbs e f = true → Q e :=
  @PE.casesOn (fun e => qAbs e f = true → Q e) e (fun Z h => ff h) (fun h => ff h) (fun Z h => ff h) (fun Z h => ff h) (fun Z h => ff h) (fun Z h => ff h) (fun Z h => ff h) (fun Z h => ff h) (fun Z h => ff h) (fun Z h => ff h) (fun Z Z Z h => ff h) (fun Z Z Z h => ff h) (fun Z h => ff h) (fun Z Z h => ff h) (fun Z Z Z h => ff h) (fun Z Z Z h => ff h) (fun Z h => ff h) (fun Z Z h => ff h) (fun Z Z h => ff h) q (fun Z h => ff h) (fun Z h => ff h) (fun Z h => ff h) (fun Z h => ff h) (fun Z h => ff h) (fun Z Z Z h => ff h) (fun Z Z Z Z h => ff h) (fun Z Z Z h => ff h) (fun Z h => ff h) (fun Z Z h => ff h) (fun Z Z Z h => ff h) (fun Z Z h => ff h) (fun Z Z Z h => ff h) (fun Z h => ff h) (fun Z h => ff h) (fun Z h => ff h) (fun Z h => ff h)
noncomputable def qBin (e : PE) (f : BOp → PE → PE → Bool) : Bool := @PE.casesOn (fun Z => Bool) e (fun Z => false) false (fun Z => false) (fun Z => false) (fun Z => false) (fun Z => false) (fun Z => false) (fun Z => false) (fun Z => false) (fun Z => false) f (fun Z Z Z => false) (fun Z => false) (fun Z Z => false) (fun Z Z Z => false) (fun Z Z Z => false) (fun Z => false) (fun Z Z => false) (fun Z Z => false) (fun Z => false) (fun Z => false) (fun Z => false) (fun Z => false) (fun Z => false) (fun Z => false) (fun Z Z Z => false) (fun Z Z Z Z => false) (fun Z Z Z => false) (fun Z => false) (fun Z Z => false) (fun Z Z Z => false) (fun Z Z => false) (fun Z Z Z => false) (fun Z => false) (fun Z => false) (fun Z => false) (fun Z => false)
theorem qBin_ind {Q : PE → Prop} {f : BOp → PE → PE → Bool} (q : ∀ (x0 : BOp) (x1 : PE) (x2 : PE), f x0 x1 x2 = true → Q (.bin x0 x1 x2)) (e : PE) : qBin e f = true → Q e :=
  @PE.casesOn (fun e => qBin e f = true → Q e) e (fun Z h => ff h) (fun h => ff h) (fun Z h => ff h) (fun Z h => ff h) (fun Z h => ff h) (fun Z h => ff h) (fun Z h => ff h) (fun Z h => ff h) (fun Z h => ff h) (fun Z h => ff h) q (fun Z Z Z h => ff h) (fun Z h => ff h) (fun Z Z h => ff h) (fun Z Z Z h => ff h) (fun Z Z Z h => ff h) (fun Z h => ff h) (fun Z Z h => ff h) (fun Z Z h => ff h) (fun Z h => ff h) (fun Z h => ff h) (fun Z h => ff h) (fun Z h => ff h) (fun Z h => ff h) (fun Z h => ff h) (fun Z Z Z h => ff h) (fun Z Z Z Z h => ff h) (fun Z Z Z h => ff h) (fun Z h => ff h) (fun Z Z h => ff h) (fun Z Z Z h => ff h) (fun Z Z h => ff h) (fun Z Z Z h => ff h) (fun Z h => ff h) (fun Z h => ff h) (fun Z h => ff h) (fun Z h => ff h)
noncomputable def qVar (e : PE) (f : Nat → Bool) : Bool := @PE.casesOn (fun Z => Bool) e f false (fun Z => false) (fun Z => false) (fun Z => false) (fun Z => false) (fun Z => false) (fun Z => false) (fun Z => false) (fun Z => false) (fun Z Z Z => false) (fun Z Z Z => false) (fun Z => false) (fun Z Z => false) (fun Z Z Z => false) (fun Z Z Z => false) (fun Z => false) (fun Z Z => false) (fun Z Z => false) (fun Z => false) (fun Z => false) (fun Z => false) (fun Z => false) (fun Z => false) (fun Z => false) (fun Z Z Z => false) (fun Z Z Z Z => false) (fun Z Z Z => false) (fun Z => false) (fun Z Z => false) (fun Z Z Z => false) (fun Z Z => false) (fun Z Z Z => false) (fun Z => false) (fun Z => false) (fun Z => false) (fun Z => false)
theorem qVar_ind {Q : PE → Prop} {f : Nat → Bool} (q : ∀ (x0 : Nat), f x0 = true → Q (.var x0)) (e : PE) : qVar e f = true → Q e :=
  @PE.casesOn (fun e => qVar e f = true → Q e) e q (fun h => ff h) (fun Z h => ff h) (fun Z h => ff h) (fun Z h => ff h) (fun Z h => ff h) (fun Z h => ff h) (fun Z h => ff h) (fun Z h => ff h) (fun Z h => ff h) (fun Z Z Z h => ff h) (fun Z Z Z h => ff h) (fun Z h => ff h) (fun Z Z h => ff h) (fun Z Z Z h => ff h) (fun Z Z Z h => ff h) (fun Z h => ff h) (fun Z Z h => ff h) (fun Z Z h => ff h) (fun Z h => ff h) (fun Z h => ff h) (fun Z h => ff h) (fun Z h => ff h) (fun Z h => ff h) (fun Z h => ff h) (fun Z Z Z h => ff h) (fun Z Z Z Z h => ff h) (fun Z Z Z h => ff h) (fun Z h => ff h) (fun Z Z h => ff h) (fun Z Z Z h => ff h) (fun Z Z h => ff h) (fun Z Z Z h => ff h) (fun Z h => ff h) (fun Z h => ff h) (fun Z h => ff h) (fun Z h => ff h)
noncomputable def qCal (e : PE) (f : Nat → Str → PEs → Bool) : Bool := @PE.casesOn (fun Z => Bool) e (fun Z => false) false (fun Z => false) (fun Z => false) (fun Z => false) (fun Z => false) (fun Z => false) (fun Z => false) (fun Z => false) (fun Z => false) (fun Z Z Z => false) (fun Z Z Z => false) (fun Z => false) (fun Z Z => false) (fun Z Z Z => false) f (fun Z => false) (fun Z Z => false) (fun Z Z => false) (fun Z => false) (fun Z => false) (fun Z => false) (fun Z => false) (fun Z => false) (fun Z => false) (fun Z Z Z => false) (fun Z Z Z Z => false) (fun Z Z Z => false) (fun Z => false) (fun Z Z => false) (fun Z Z Z => false) (fun Z Z => false) (fun Z Z Z => false) (fun Z => false) (fun Z => false) (fun Z => false) (fun Z => false)
theorem qCal_ind {Q : PE → Prop} {f : Nat → Str → PEs → Bool} (q : ∀ (x0 : Nat) (x1 : Str) (x2 : PEs), f x0 x1 x2 = true → Q (.call x0 x1 x2)) (e : PE) : qCal e f = true → Q e :=
  @PE.casesOn (fun e => qCal e f = true → Q e) e (fun Z h => ff h) (fun h => ff h) (fun Z h => ff h) (fun Z h => ff h) (fun Z h => ff h) (fun Z h => ff h) (fun Z h => ff h) (fun Z h => ff h) (fun Z h => ff h) (fun Z h => ff h) (fun Z Z Z h => ff h) (fun Z Z Z h => ff h) (fun Z h => ff h) (fun Z Z h => ff h) (fun Z Z Z h => ff h) q (fun Z h => ff h) (fun Z Z h => ff h) (fun Z Z h => ff h) (fun Z h => ff h) (fun Z h => ff h) (fun Z h => ff h) (fun Z h => ff h) (fun Z h => ff h) (fun Z h => ff h) (fun Z Z Z h => ff h) (fun Z Z Z Z h => ff h) (fun Z Z Z h => ff h) (fun Z h => ff h) (fun Z Z h => ff h) (fun Z Z Z h => ff h) (fun Z Z h => ff h) (fun Z Z Z h => ff h) (fun Z h => ff h) (fun Z h => ff h) (fun Z h => ff h) (fun Z h => ff h)
mutual
noncomputable def chk (S : Tab) (N : List Str) : PE → Expr → Bool
  | .var i, e => dName e fun x Z => N[i]? == some x && isVar S x
  | .none, e => dCst e fun c Z Z => eqb c .none true
  | .bool b, e => dCst e fun c Z Z => eqb c (.bool b) true
  | .int i, e => dCst e fun c Z Z => eqb c (.int i) true
  | .neg a, e => dUn e fun o x Z => eqb o .USub (chk S N a x)
  | .str s, e => dCst e fun c Z Z => eqb c (.str s) (sOk s)
  | .glob k, e => dName e fun y Z => (glUsed[k]?).map (·.1) == some y && isGlob S y
  | .tup es, e => dTup e fun xs Z Z => chks S N es xs
  | .lst es, e => dLst e fun xs Z => chks S N es xs
  | .dstr kvs, e => dDic e fun ks vs Z => !kvs.isEmpty && decide (kvs.length ≤ 15) && decide (kvs.map (·.1)).Nodup && dictOk kvs ks vs
  | .bin op a b, e => dBin e fun l o r Z => opOk op o && chk S N a l && chk S N b r
  | .cmp op a b, e => dCmp e fun l os rs Z => l1 os fun o => l1 rs fun r => copOk op o && notSet r && chk S N a l && chk S N b r
  | .typeNotInt a, e => dCmp e fun l os rs Z => l1 os fun o => l1 rs fun r => dCal l fun g xs Z => dName g fun n Z => l1 xs fun x => dName r fun k Z => eqb o .IsNot (eqb n ("type" : Str) (eqb k ("int" : Str) (isGlob S ("type" : Str) && isGlob S ("int" : Str) && notStar x && chk S N a x)))
  | .idx a i, e => dSub e fun x k Z => notSlice k && chk S N a x && chk S N i k
  | .sl a l h, e => dSub e fun x k Z => dSli k fun lo hi Z => chk S N a x && (match lo with | Option.none => isNone l | some y => chk S N l y) && (match hi with | Option.none => isNone h | some y => chk S N h y)
  | .call k n args, e => dCal e fun g xs Z => dName g fun f Z => eqb f n ((fns[k]?).map (·.name) == some n && isGlob S n && chks S N args xs)
  | .len a, e => dCal e fun g xs Z => dName g fun f Z => l1 xs fun x => eqb f ("len" : Str) (isGlob S ("len" : Str) && notStar x && chk S N a x)
  | .mx a b, e => dCal e fun g xs Z => dName g fun f Z => l2 xs fun x y => eqb f ("max" : Str) (isGlob S ("max" : Str) && notStar x && notStar y && chk S N a x && chk S N b y)
  | .mn a b, e => dCal e fun g xs Z => dName g fun f Z => l2 xs fun x y => eqb f ("min" : Str) (isGlob S ("min" : Str) && notStar x && notStar y && chk S N a x && chk S N b y)
  | .abs a, e => dCal e fun g xs Z => dName g fun f Z => l1 xs fun x => eqb f ("abs" : Str) (isGlob S ("abs" : Str) && notStar x && chk S N a x)
  | .list a, e => dCal e fun g xs Z => dName g fun f Z => l1 xs fun x => eqb f ("list" : Str) (isGlob S ("list" : Str) && notStar x && chk S N a x)
  | .join a, e => dCal e fun g xs cp => dAtt g fun o n ap => dCst o fun c Z Z => l1 xs fun x => eqb c (.str ("" : Str)) (eqb n ("join" : Str) (ap.endLine == cp.line && notStar x && chk S N a x))
  | .splitnl a, e => dCal e fun g xs cp => dAtt g fun o n ap => l1 xs fun y => dCst y fun c Z Z => eqb c (.str ("\n" : Str)) (eqb n ("split" : Str) (ap.endLine == cp.line && isName o && chk S N a o))
  | .lower a, e => dCal e fun g xs cp => dAtt g fun o n ap => l0 xs (eqb n ("lower" : Str) (ap.endLine == cp.line && isName o && chk S N a o))
  | .fstr es, e => dJoi e fun xs Z => decide (2 ≤ xs.length) && chkF S N es xs
  | .comp caps elt it, e => dLCo e fun el gs scope Z => l1 gs fun g => dCom g fun t i ifs => dName t fun x Z => l0 ifs ((match compOk S N caps x scope with | some N' => chk scope.names N' elt el | Option.none => false) && notSet i && chk S N it i)
  | .compIf caps elt it cond, e => dLCo e fun el gs scope Z => l1 gs fun g => dCom g fun t i ifs => dName t fun x Z => l1 ifs fun c =>
      (match compOk S N caps x scope with | some N' => chk scope.names N' elt el && chk scope.names N' cond c | Option.none => false) && notSet i && chk S N it i
  | .anyg caps elt it, e => dCal e fun g xs Z => dName g fun f Z => l1 xs fun y => dGen y fun el gs scope Z => l1 gs fun g => dCom g fun t i ifs => dName t fun x Z => l0 ifs
      (eqb f ("any" : Str) (isGlob S ("any" : Str) && (match compOk S N caps x scope with | some N' => chk scope.names N' elt el | Option.none => false) && notSet i && isName i && chk S N it i && scope.names.lookup (".0" : Str) == some .local))
  | .range1 a, e => dCal e fun g xs Z => dName g fun f Z => l1 xs fun x => eqb f ("range" : Str) (isGlob S ("range" : Str) && notStar x && chk S N a x)
  | .range2 a b, e => dCal e fun g xs Z => dName g fun f Z => l2 xs fun x y => eqb f ("range" : Str) (isGlob S ("range" : Str) && notStar x && notStar y && chk S N a x && chk S N b y)
  | .range3 a b c, e => dCal e fun g xs Z => dName g fun f Z => l3 xs fun x y z => eqb f ("range" : Str) (isGlob S ("range" : Str) && notStar x && notStar y && notStar z && chk S N a x && chk S N b y && chk S N c z)
  | .ownIdx i a, e => dSub e fun n k Z => dName n fun x Z => N[i]? == some x && isVar S x && notSlice k && chk S N a k
  | .ownIdx2 i a b, e => dSub e fun m l Z => dSub m fun n k Z => dName n fun x Z => N[i]? == some x && isVar S x && notSlice k && notSlice l && chk S N a k && chk S N b l
  | .ownNeNil i, e => dCmp e fun n os rs Z => dName n fun x Z => l1 os fun o => l1 rs fun r => dLst r fun ys Z => l0 ys (eqb o .NotEq (N[i]? == some x && isVar S x))
  | .andE es, e => dBoo e fun o xs Z => eqb o .And (chks S N es xs)
  | .orE es, e => dBoo e fun o xs Z => eqb o .Or (chks S N es xs)
  | .notE a, e => dUn e fun o x Z => eqb o .Not (chk S N a x)
noncomputable def chks (S : Tab) (N : List Str) : PEs → List Expr → Bool
  | .nil, l => l0 l true
  | .cons e es, l => lc l fun x xs => notStar x && chk S N e x && chks S N es xs
noncomputable def chkF (S : Tab) (N : List Str) : PEs → List Expr → Bool
  | .nil, l => l0 l true
  | .cons e es, l => lc l fun x xs => ((oS (strOf e) fun s => dCst x fun c Z Z => eqb c (.str s) (sOk s)) || dFmt x fun y c Z => eqb c (-1) (chk S N e y)) && chkF S N es xs
end
noncomputable def nameAt (S : Tab) (N : List Str) (i : Nat) (x : Str) : Bool := N[i]? == some x && canStore S x && isVar S x
mutual
noncomputable def chkS (S : Tab) (N : List Str) : PS → Stmt → Bool
  | .asg i e, st => sAsg st fun t v Z => dName t fun x Z => nameAt S N i x && chk S N e v
  | .ownL i, st => sAsg st fun t v Z => dName t fun x Z => dLst v fun ys Z => l0 ys (nameAt S N i x)
  | .ownD i, st => sAsg st fun t v Z => dName t fun x Z => dDic v fun ks vs Z => l0 ks (l0 vs (nameAt S N i x))
  | .ownC i e, st => sAsg st fun t v Z => dName t fun x Z => nameAt S N i x && isComp v && chk S N e v
  | .ownT i caps w h, st => sAsg st fun t v Z => dName t fun x Z => dLCo v fun el gs scope Z => dBin el fun l o we Z => dLst l fun zs Z => l1 zs fun z => dCst z fun c Z Z => l1 gs fun g => dCom g fun t' it ifs => dName t' fun y Z => l0 ifs (eqb o .Mult (eqb c (.int 0)
      (nameAt S N i x && (match compOk S N caps y scope with | some N' => chk scope.names N' w we | Option.none => false) && notSet it && chk S N h it)))
  | .unp i j e, st => sAsg st fun t v Z => dTup t fun xs Z Z => l2 xs fun a b => dName a fun x Z => dName b fun y Z => nameAt S N i x && nameAt S N j y && notTup v && chk S N e v
  | .aug i e, st => sAug st fun t o v Z => dName t fun x Z => eqb o .Add (nameAt S N i x && chk S N e v)
  | .app i e, st => sExp st fun c Z => dCal c fun g xs cp => dAtt g fun o n ap => dName o fun x Z => l1 xs fun v => eqb n ("append" : Str) (ap.endLine == cp.line && nameAt S N i x && notStar v && chk S N e v)
  | .put i k e, st => sAsg st fun t v Z => dSub t fun n kx Z => dName n fun x Z => nameAt S N i x && notSlice kx && chk S N k kx && chk S N e v
  | .put2 i k l e, st => sAsg st fun t v Z => dSub t fun m lx Z => dSub m fun n kx Z => dName n fun x Z => nameAt S N i x && notSlice kx && notSlice lx && chk S N k kx && chk S N l lx && chk S N e v
  | .ite t a b, st => sIf st fun tx as bs Z => chk S N t tx && chkSs S N a as && chkSs S N b bs
  | .whl t b, st => sWhl st fun tx bs Z => chk S N t tx && chkSs S N b bs
  | .for1 i it b, st => sFor st fun t ix bs Z => dName t fun x Z => nameAt S N i x && notSet ix && chk S N it ix && chkSs S N b bs
  | .for2 i j it b, st => sFor st fun t ix bs Z => dTup t fun xs Z Z => l2 xs fun a b' => dName a fun x Z => dName b' fun y Z => nameAt S N i x && nameAt S N j y && notSet ix && chk S N it ix && chkSs S N b bs
  | .ret e, st => sRet st fun v Z => chk S N e v
  | .freeze _, _ => false
noncomputable def chkSs (S : Tab) (N : List Str) : PSs → List Stmt → Bool
  | .nil, l => l0 l true
  | .cons s ss, l => cond (isFreeze s) (chkSs S N ss l) (lc l fun x xs => chkS S N s x && chkSs S N ss xs)
end
noncomputable def chkFn (fn : Fn) (params : Arguments) (body : List Stmt) (scope : Scope) : Bool :=
  params.posonlyargs.isEmpty && params.vararg.isNone && params.kwonlyargs.isEmpty && params.kw_defaults.isEmpty && params.kwarg.isNone && params.defaults.isEmpty
  && decide (params.args.map (·.arg) = fn.names.take fn.arity) && params.args.length == fn.arity
  && decide fn.names.Nodup && scope.kind == .function && !scope.isCoroutine && !scope.isGenerator
  && decide (scope.names.map (·.1)).Nodup && fn.names.all (fun x => canStore scope.names x) && scope.names.all (fun y => y.2 != .free)
  && chkSs scope.names fn.names fn.body body
end Mine
namespace Mine
open PySem
section
variable {S : Tab} {N : List Str}
@[elab_as_elim] theorem chk_var {i : Nat} {Q : PySem.Expr → Prop} (e : PySem.Expr) (h : chk S N (.var i) e = true) (q : ∀ x pos, N[i]? = some x → isVar S x = true → Q (.Name x pos)) : Q e := by
  refine dName_ind (Q := Q) (fun xz pz h => ?_) e h
  exact q xz pz (eq_of_beq ((bb h).1)) ((bb h).2)
@[elab_as_elim] theorem chk_none {Q : PySem.Expr → Prop} (e : PySem.Expr) (h : chk S N (.none) e = true) (q : ∀ k pos, Q (.Constant .none k pos)) : Q e := by
  refine dCst_ind (Q := Q) (fun cz kz pz h => ?_) e h
  refine eqb_ind (Q := (fun cz => Q (.Constant cz kz pz))) (fun h => ?_) cz h
  exact q kz pz
@[elab_as_elim] theorem chk_bool {b : Bool} {Q : PySem.Expr → Prop} (e : PySem.Expr) (h : chk S N (.bool b) e = true) (q : ∀ k pos, Q (.Constant (.bool b) k pos)) : Q e := by
  refine dCst_ind (Q := Q) (fun cz kz pz h => ?_) e h
  refine eqb_ind (Q := (fun cz => Q (.Constant cz kz pz))) (fun h => ?_) cz h
  exact q kz pz
@[elab_as_elim] theorem chk_int {b : Int} {Q : PySem.Expr → Prop} (e : PySem.Expr) (h : chk S N (.int b) e = true) (q : ∀ k pos, Q (.Constant (.int b) k pos)) : Q e := by
  refine dCst_ind (Q := Q) (fun cz kz pz h => ?_) e h
  refine eqb_ind (Q := (fun cz => Q (.Constant cz kz pz))) (fun h => ?_) cz h
  exact q kz pz
@[elab_as_elim] theorem chk_str {x : Str} {Q : PySem.Expr → Prop} (e : PySem.Expr) (h : chk S N (.str x) e = true) (q : ∀ k pos, sOk x = true → Q (.Constant (.str x) k pos)) : Q e := by
  refine dCst_ind (Q := Q) (fun cz kz pz h => ?_) e h
  refine eqb_ind (Q := (fun cz => Q (.Constant cz kz pz))) (fun h => ?_) cz h
  exact q kz pz (h)
@[elab_as_elim] theorem chk_neg {a : PE} {Q : PySem.Expr → Prop} (e : PySem.Expr) (h : chk S N (.neg a) e = true) (q : ∀ x pos, chk S N a x = true → Q (.UnaryOp .USub x pos)) : Q e := by
  refine dUn_ind (Q := Q) (fun oz xz pz h => ?_) e h
  refine eqb_ind (Q := (fun oz => Q (.UnaryOp oz xz pz))) (fun h => ?_) oz h
  exact q xz pz (h)
@[elab_as_elim] theorem chk_notE {a : PE} {Q : PySem.Expr → Prop} (e : PySem.Expr) (h : chk S N (.notE a) e = true) (q : ∀ x pos, chk S N a x = true → Q (.UnaryOp .Not x pos)) : Q e := by
  refine dUn_ind (Q := Q) (fun oz xz pz h => ?_) e h
  refine eqb_ind (Q := (fun oz => Q (.UnaryOp oz xz pz))) (fun h => ?_) oz h
  exact q xz pz (h)
@[elab_as_elim] theorem chk_glob {k : Nat} {Q : PySem.Expr → Prop} (e : PySem.Expr) (h : chk S N (.glob k) e = true) (q : ∀ x pos, (glUsed[k]?).map (·.1) = some x → isGlob S x = true → Q (.Name x pos)) : Q e := by
  refine dName_ind (Q := Q) (fun xz pz h => ?_) e h
  exact q xz pz (eq_of_beq ((bb h).1)) ((bb h).2)
@[elab_as_elim] theorem chk_tup {es : PEs} {Q : PySem.Expr → Prop} (e : PySem.Expr) (h : chk S N (.tup es) e = true) (q : ∀ xs k pos, chks S N es xs = true → Q (.Tuple xs k pos)) : Q e := by
  refine dTup_ind (Q := Q) (fun xsz kz pz h => ?_) e h
  exact q xsz kz pz (h)
@[elab_as_elim] theorem chk_lst {es : PEs} {Q : PySem.Expr → Prop} (e : PySem.Expr) (h : chk S N (.lst es) e = true) (q : ∀ xs pos, chks S N es xs = true → Q (.List xs pos)) : Q e := by
  refine dLst_ind (Q := Q) (fun xsz pz h => ?_) e h
  exact q xsz pz (h)
@[elab_as_elim] theorem chk_dstr {kvs : List (Str × Str)} {Q : PySem.Expr → Prop} (e : PySem.Expr) (h : chk S N (.dstr kvs) e = true) (q : ∀ ks vs pos, kvs ≠ [] → kvs.length ≤ 15 → (kvs.map (·.1)).Nodup → dictOk kvs ks vs = true → Q (.Dict ks vs pos)) : Q e := by
  refine dDic_ind (Q := Q) (fun ks vs p h => ?_) e h
  exact q ks vs p (fun q => by subst q; exact ff (bb (bb (bb h).1).1).1) (of_decide_eq_true (bb (bb (bb h).1).1).2) (of_decide_eq_true (bb (bb h).1).2) (bb h).2
@[elab_as_elim] theorem chk_bin {op : BOp} {a b : PE} {Q : PySem.Expr → Prop} (e : PySem.Expr) (h : chk S N (.bin op a b) e = true) (q : ∀ l o r pos, opOk op o = true → chk S N a l = true → chk S N b r = true → Q (.BinOp l o r pos)) : Q e := by
  refine dBin_ind (Q := Q) (fun lz oz rz pz h => ?_) e h
  exact q lz oz rz pz ((bb (bb h).1).1) ((bb (bb h).1).2) ((bb h).2)
@[elab_as_elim] theorem chk_cmp {op : COp} {a b : PE} {Q : PySem.Expr → Prop} (e : PySem.Expr) (h : chk S N (.cmp op a b) e = true) (q : ∀ l o r pos, copOk op o = true → notSet r = true → chk S N a l = true → chk S N b r = true → Q (.Compare l [o] [r] pos)) : Q e := by
  refine dCmp_ind (Q := Q) (fun lz osz rsz pz h => ?_) e h
  refine l1_ind (Q := (fun osz => Q (.Compare lz osz rsz pz))) (fun oz h => ?_) osz h
  refine l1_ind (Q := (fun rsz => Q (.Compare lz [oz] rsz pz))) (fun rz h => ?_) rsz h
  exact q lz oz rz pz ((bb (bb (bb h).1).1).1) ((bb (bb (bb h).1).1).2) ((bb (bb h).1).2) ((bb h).2)
@[elab_as_elim] theorem chk_typeNotInt {a : PE} {Q : PySem.Expr → Prop} (e : PySem.Expr) (h : chk S N (.typeNotInt a) e = true) (q : ∀ p1 x p2 p3 p4, isGlob S (Str.ofString "type") = true → isGlob S (Str.ofString "int") = true → notStar x = true → chk S N a x = true → Q (.Compare (.Call (.Name (Str.ofString "type") p1) [x] [] p2) [.IsNot] [.Name (Str.ofString "int") p3] p4)) : Q e := by
  refine dCmp_ind (Q := Q) (fun lz osz rsz p4z h => ?_) e h
  refine l1_ind (Q := (fun osz => Q (.Compare lz osz rsz p4z))) (fun oz h => ?_) osz h
  refine l1_ind (Q := (fun rsz => Q (.Compare lz [oz] rsz p4z))) (fun rz h => ?_) rsz h
  refine dCal_ind (Q := (fun lz => Q (.Compare lz [oz] [rz] p4z))) (fun gz xsz p2z h => ?_) lz h
  refine dName_ind (Q := (fun gz => Q (.Compare (.Call gz xsz [] p2z) [oz] [rz] p4z))) (fun nz p1z h => ?_) gz h
  refine l1_ind (Q := (fun xsz => Q (.Compare (.Call (.Name nz p1z) xsz [] p2z) [oz] [rz] p4z))) (fun xz h => ?_) xsz h
  refine dName_ind (Q := (fun rz => Q (.Compare (.Call (.Name nz p1z) [xz] [] p2z) [oz] [rz] p4z))) (fun kz p3z h => ?_) rz h
  refine eqb_ind (Q := (fun oz => Q (.Compare (.Call (.Name nz p1z) [xz] [] p2z) [oz] [(.Name kz p3z)] p4z))) (fun h => ?_) oz h
  refine eqb_ind (Q := (fun nz => Q (.Compare (.Call (.Name nz p1z) [xz] [] p2z) [(CmpOp.IsNot)] [(.Name kz p3z)] p4z))) (fun h => ?_) nz h
  refine eqb_ind (Q := (fun kz => Q (.Compare (.Call (.Name (Str.ofString "type") p1z) [xz] [] p2z) [(CmpOp.IsNot)] [(.Name kz p3z)] p4z))) (fun h => ?_) kz h
  exact q p1z xz p2z p3z p4z ((bb (bb (bb h).1).1).1) ((bb (bb (bb h).1).1).2) ((bb (bb h).1).2) ((bb h).2)
@[elab_as_elim] theorem chk_idx {a i : PE} {Q : PySem.Expr → Prop} (e : PySem.Expr) (h : chk S N (.idx a i) e = true) (q : ∀ x k pos, notSlice k = true → chk S N a x = true → chk S N i k = true → Q (.Subscript x k pos)) : Q e := by
  refine dSub_ind (Q := Q) (fun xz kz pz h => ?_) e h
  exact q xz kz pz ((bb (bb h).1).1) ((bb (bb h).1).2) ((bb h).2)
@[elab_as_elim] theorem chk_sl {a l u : PE} {Q : PySem.Expr → Prop} (e : PySem.Expr) (h : chk S N (.sl a l u) e = true) (q : ∀ x lo hi p pos, chk S N a x = true → (match lo with | Option.none => isNone l | some y => chk S N l y) = true → (match hi with | Option.none => isNone u | some y => chk S N u y) = true → Q (.Subscript x (.Slice lo hi Option.none p) pos)) : Q e := by
  refine dSub_ind (Q := Q) (fun xz kz posz h => ?_) e h
  refine dSli_ind (Q := (fun kz => Q (.Subscript xz kz posz))) (fun loz hiz pz h => ?_) kz h
  exact q xz loz hiz pz posz ((bb (bb h).1).1) ((bb (bb h).1).2) ((bb h).2)
@[elab_as_elim] theorem chk_call {k : Nat} {n : Str} {args : PEs} {Q : PySem.Expr → Prop} (e : PySem.Expr) (h : chk S N (.call k n args) e = true) (q : ∀ p xs pos, (fns[k]?).map (·.name) = some n → isGlob S n = true → chks S N args xs = true → Q (.Call (.Name n p) xs [] pos)) : Q e := by
  refine dCal_ind (Q := Q) (fun gz xsz posz h => ?_) e h
  refine dName_ind (Q := (fun gz => Q (.Call gz xsz [] posz))) (fun fz pz h => ?_) gz h
  refine eqb_ind (Q := (fun fz => Q (.Call (.Name fz pz) xsz [] posz))) (fun h => ?_) fz h
  exact q pz xsz posz (eq_of_beq ((bb (bb h).1).1)) ((bb (bb h).1).2) ((bb h).2)
@[elab_as_elim] theorem chk_len {a : PE} {Q : PySem.Expr → Prop} (e : PySem.Expr) (h : chk S N (.len a) e = true) (q : ∀ p x pos, isGlob S (Str.ofString "len") = true → notStar x = true → chk S N a x = true → Q (.Call (.Name (Str.ofString "len") p) [x] [] pos)) : Q e := by
  refine dCal_ind (Q := Q) (fun gz xsz posz h => ?_) e h
  refine dName_ind (Q := (fun gz => Q (.Call gz xsz [] posz))) (fun fz pz h => ?_) gz h
  refine l1_ind (Q := (fun xsz => Q (.Call (.Name fz pz) xsz [] posz))) (fun xz h => ?_) xsz h
  refine eqb_ind (Q := (fun fz => Q (.Call (.Name fz pz) [xz] [] posz))) (fun h => ?_) fz h
  exact q pz xz posz ((bb (bb h).1).1) ((bb (bb h).1).2) ((bb h).2)
@[elab_as_elim] theorem chk_abs {a : PE} {Q : PySem.Expr → Prop} (e : PySem.Expr) (h : chk S N (.abs a) e = true) (q : ∀ p x pos, isGlob S (Str.ofString "abs") = true → notStar x = true → chk S N a x = true → Q (.Call (.Name (Str.ofString "abs") p) [x] [] pos)) : Q e := by
  refine dCal_ind (Q := Q) (fun gz xsz posz h => ?_) e h
  refine dName_ind (Q := (fun gz => Q (.Call gz xsz [] posz))) (fun fz pz h => ?_) gz h
  refine l1_ind (Q := (fun xsz => Q (.Call (.Name fz pz) xsz [] posz))) (fun xz h => ?_) xsz h
  refine eqb_ind (Q := (fun fz => Q (.Call (.Name fz pz) [xz] [] posz))) (fun h => ?_) fz h
  exact q pz xz posz ((bb (bb h).1).1) ((bb (bb h).1).2) ((bb h).2)
@[elab_as_elim] theorem chk_list {a : PE} {Q : PySem.Expr → Prop} (e : PySem.Expr) (h : chk S N (.list a) e = true) (q : ∀ p x pos, isGlob S (Str.ofString "list") = true → notStar x = true → chk S N a x = true → Q (.Call (.Name (Str.ofString "list") p) [x] [] pos)) : Q e := by
  refine dCal_ind (Q := Q) (fun gz xsz posz h => ?_) e h
  refine dName_ind (Q := (fun gz => Q (.Call gz xsz [] posz))) (fun fz pz h => ?_) gz h
  refine l1_ind (Q := (fun xsz => Q (.Call (.Name fz pz) xsz [] posz))) (fun xz h => ?_) xsz h
  refine eqb_ind (Q := (fun fz => Q (.Call (.Name fz pz) [xz] [] posz))) (fun h => ?_) fz h
  exact q pz xz posz ((bb (bb h).1).1) ((bb (bb h).1).2) ((bb h).2)
@[elab_as_elim] theorem chk_range1 {a : PE} {Q : PySem.Expr → Prop} (e : PySem.Expr) (h : chk S N (.range1 a) e = true) (q : ∀ p x pos, isGlob S (Str.ofString "range") = true → notStar x = true → chk S N a x = true → Q (.Call (.Name (Str.ofString "range") p) [x] [] pos)) : Q e := by
  refine dCal_ind (Q := Q) (fun gz xsz posz h => ?_) e h
  refine dName_ind (Q := (fun gz => Q (.Call gz xsz [] posz))) (fun fz pz h => ?_) gz h
  refine l1_ind (Q := (fun xsz => Q (.Call (.Name fz pz) xsz [] posz))) (fun xz h => ?_) xsz h
  refine eqb_ind (Q := (fun fz => Q (.Call (.Name fz pz) [xz] [] posz))) (fun h => ?_) fz h
  exact q pz xz posz ((bb (bb h).1).1) ((bb (bb h).1).2) ((bb h).2)
@[elab_as_elim] theorem chk_mx {a b : PE} {Q : PySem.Expr → Prop} (e : PySem.Expr) (h : chk S N (.mx a b) e = true) (q : ∀ p x y pos, isGlob S (Str.ofString "max") = true → notStar x = true → notStar y = true → chk S N a x = true → chk S N b y = true → Q (.Call (.Name (Str.ofString "max") p) [x, y] [] pos)) : Q e := by
  refine dCal_ind (Q := Q) (fun gz xsz posz h => ?_) e h
  refine dName_ind (Q := (fun gz => Q (.Call gz xsz [] posz))) (fun fz pz h => ?_) gz h
  refine l2_ind (Q := (fun xsz => Q (.Call (.Name fz pz) xsz [] posz))) (fun xz yz h => ?_) xsz h
  refine eqb_ind (Q := (fun fz => Q (.Call (.Name fz pz) [xz, yz] [] posz))) (fun h => ?_) fz h
  exact q pz xz yz posz ((bb (bb (bb (bb h).1).1).1).1) ((bb (bb (bb (bb h).1).1).1).2) ((bb (bb (bb h).1).1).2) ((bb (bb h).1).2) ((bb h).2)
@[elab_as_elim] theorem chk_mn {a b : PE} {Q : PySem.Expr → Prop} (e : PySem.Expr) (h : chk S N (.mn a b) e = true) (q : ∀ p x y pos, isGlob S (Str.ofString "min") = true → notStar x = true → notStar y = true → chk S N a x = true → chk S N b y = true → Q (.Call (.Name (Str.ofString "min") p) [x, y] [] pos)) : Q e := by
  refine dCal_ind (Q := Q) (fun gz xsz posz h => ?_) e h
  refine dName_ind (Q := (fun gz => Q (.Call gz xsz [] posz))) (fun fz pz h => ?_) gz h
  refine l2_ind (Q := (fun xsz => Q (.Call (.Name fz pz) xsz [] posz))) (fun xz yz h => ?_) xsz h
  refine eqb_ind (Q := (fun fz => Q (.Call (.Name fz pz) [xz, yz] [] posz))) (fun h => ?_) fz h
  exact q pz xz yz posz ((bb (bb (bb (bb h).1).1).1).1) ((bb (bb (bb (bb h).1).1).1).2) ((bb (bb (bb h).1).1).2) ((bb (bb h).1).2) ((bb h).2)
@[elab_as_elim] theorem chk_range2 {a b : PE} {Q : PySem.Expr → Prop} (e : PySem.Expr) (h : chk S N (.range2 a b) e = true) (q : ∀ p x y pos, isGlob S (Str.ofString "range") = true → notStar x = true → notStar y = true → chk S N a x = true → chk S N b y = true → Q (.Call (.Name (Str.ofString "range") p) [x, y] [] pos)) : Q e := by
  refine dCal_ind (Q := Q) (fun gz xsz posz h => ?_) e h
  refine dName_ind (Q := (fun gz => Q (.Call gz xsz [] posz))) (fun fz pz h => ?_) gz h
  refine l2_ind (Q := (fun xsz => Q (.Call (.Name fz pz) xsz [] posz))) (fun xz yz h => ?_) xsz h
  refine eqb_ind (Q := (fun fz => Q (.Call (.Name fz pz) [xz, yz] [] posz))) (fun h => ?_) fz h
  exact q pz xz yz posz ((bb (bb (bb (bb h).1).1).1).1) ((bb (bb (bb (bb h).1).1).1).2) ((bb (bb (bb h).1).1).2) ((bb (bb h).1).2) ((bb h).2)
@[elab_as_elim] theorem chk_range3 {a b d : PE} {Q : PySem.Expr → Prop} (e : PySem.Expr) (h : chk S N (.range3 a b d) e = true) (q : ∀ p x y z pos, isGlob S (Str.ofString "range") = true → notStar x = true → notStar y = true → notStar z = true → chk S N a x = true → chk S N b y = true → chk S N d z = true → Q (.Call (.Name (Str.ofString "range") p) [x, y, z] [] pos)) : Q e := by
  refine dCal_ind (Q := Q) (fun gz xsz posz h => ?_) e h
  refine dName_ind (Q := (fun gz => Q (.Call gz xsz [] posz))) (fun fz pz h => ?_) gz h
  refine l3_ind (Q := (fun xsz => Q (.Call (.Name fz pz) xsz [] posz))) (fun xz yz zz h => ?_) xsz h
  refine eqb_ind (Q := (fun fz => Q (.Call (.Name fz pz) [xz, yz, zz] [] posz))) (fun h => ?_) fz h
  exact q pz xz yz zz posz ((bb (bb (bb (bb (bb (bb h).1).1).1).1).1).1) ((bb (bb (bb (bb (bb (bb h).1).1).1).1).1).2) ((bb (bb (bb (bb (bb h).1).1).1).1).2) ((bb (bb (bb (bb h).1).1).1).2) ((bb (bb (bb h).1).1).2) ((bb (bb h).1).2) ((bb h).2)
@[elab_as_elim] theorem chk_join {a : PE} {Q : PySem.Expr → Prop} (e : PySem.Expr) (h : chk S N (.join a) e = true) (q : ∀ k p ap x cp, ap.endLine = cp.line → notStar x = true → chk S N a x = true → Q (.Call (.Attribute (.Constant (.str (Str.ofString "")) k p) (Str.ofString "join") ap) [x] [] cp)) : Q e := by
  refine dCal_ind (Q := Q) (fun gz xsz cpz h => ?_) e h
  refine dAtt_ind (Q := (fun gz => Q (.Call gz xsz [] cpz))) (fun oz nmz apz h => ?_) gz h
  refine dCst_ind (Q := (fun oz => Q (.Call (.Attribute oz nmz apz) xsz [] cpz))) (fun cz kz pz h => ?_) oz h
  refine l1_ind (Q := (fun xsz => Q (.Call (.Attribute (.Constant cz kz pz) nmz apz) xsz [] cpz))) (fun xz h => ?_) xsz h
  refine eqb_ind (Q := (fun cz => Q (.Call (.Attribute (.Constant cz kz pz) nmz apz) [xz] [] cpz))) (fun h => ?_) cz h
  refine eqb_ind (Q := (fun nmz => Q (.Call (.Attribute (.Constant (Const.str (Str.ofString "")) kz pz) nmz apz) [xz] [] cpz))) (fun h => ?_) nmz h
  exact q kz pz apz xz cpz (eq_of_beq ((bb (bb h).1).1)) ((bb (bb h).1).2) ((bb h).2)
@[elab_as_elim] theorem chk_splitnl {a : PE} {Q : PySem.Expr → Prop} (e : PySem.Expr) (h : chk S N (.splitnl a) e = true) (q : ∀ o ap k p cp, ap.endLine = cp.line → isName o = true → chk S N a o = true → Q (.Call (.Attribute o (Str.ofString "split") ap) [.Constant (.str (Str.ofString "\n")) k p] [] cp)) : Q e := by
  refine dCal_ind (Q := Q) (fun gz xsz cpz h => ?_) e h
  refine dAtt_ind (Q := (fun gz => Q (.Call gz xsz [] cpz))) (fun oz nmz apz h => ?_) gz h
  refine l1_ind (Q := (fun xsz => Q (.Call (.Attribute oz nmz apz) xsz [] cpz))) (fun yz h => ?_) xsz h
  refine dCst_ind (Q := (fun yz => Q (.Call (.Attribute oz nmz apz) [yz] [] cpz))) (fun cz kz pz h => ?_) yz h
  refine eqb_ind (Q := (fun cz => Q (.Call (.Attribute oz nmz apz) [(.Constant cz kz pz)] [] cpz))) (fun h => ?_) cz h
  refine eqb_ind (Q := (fun nmz => Q (.Call (.Attribute oz nmz apz) [(.Constant (Const.str (Str.ofString "\n")) kz pz)] [] cpz))) (fun h => ?_) nmz h
  exact q oz apz kz pz cpz (eq_of_beq ((bb (bb h).1).1)) ((bb (bb h).1).2) ((bb h).2)
@[elab_as_elim] theorem chk_lower {a : PE} {Q : PySem.Expr → Prop} (e : PySem.Expr) (h : chk S N (.lower a) e = true) (q : ∀ o ap cp, ap.endLine = cp.line → isName o = true → chk S N a o = true → Q (.Call (.Attribute o (Str.ofString "lower") ap) [] [] cp)) : Q e := by
  refine dCal_ind (Q := Q) (fun gz xsz cpz h => ?_) e h
  refine dAtt_ind (Q := (fun gz => Q (.Call gz xsz [] cpz))) (fun oz nmz apz h => ?_) gz h
  refine l0_ind (Q := (fun xsz => Q (.Call (.Attribute oz nmz apz) xsz [] cpz))) (fun h => ?_) xsz h
  refine eqb_ind (Q := (fun nmz => Q (.Call (.Attribute oz nmz apz) [] [] cpz))) (fun h => ?_) nmz h
  exact q oz apz cpz (eq_of_beq ((bb (bb h).1).1)) ((bb (bb h).1).2) ((bb h).2)
@[elab_as_elim] theorem chk_fstr {es : PEs} {Q : PySem.Expr → Prop} (e : PySem.Expr) (h : chk S N (.fstr es) e = true) (q : ∀ xs pos, 2 ≤ xs.length → chkF S N es xs = true → Q (.JoinedStr xs pos)) : Q e := by
  refine dJoi_ind (Q := Q) (fun xsz pz h => ?_) e h
  exact q xsz pz (of_decide_eq_true (bb h).1) ((bb h).2)
@[elab_as_elim] theorem chk_comp {caps : List Nat} {elt it : PE} {Q : PySem.Expr → Prop} (e : PySem.Expr) (h : chk S N (.comp caps elt it) e = true) (q : ∀ el x p1 i scope pos, (match compOk S N caps x scope with | some N' => chk scope.names N' elt el | Option.none => false) = true → notSet i = true → chk S N it i = true → Q (.ListComp el [⟨.Name x p1, i, [], 0⟩] scope pos)) : Q e := by
  refine dLCo_ind (Q := Q) (fun elz gsz scopez posz h => ?_) e h
  refine l1_ind (Q := (fun gsz => Q (.ListComp elz gsz scopez posz))) (fun gz h => ?_) gsz h
  refine dCom_ind (Q := (fun gz => Q (.ListComp elz [gz] scopez posz))) (fun tz iz ifsz h => ?_) gz h
  refine dName_ind (Q := (fun tz => Q (.ListComp elz [⟨tz, iz, ifsz, 0⟩] scopez posz))) (fun xz p1z h => ?_) tz h
  refine l0_ind (Q := (fun ifsz => Q (.ListComp elz [⟨(.Name xz p1z), iz, ifsz, 0⟩] scopez posz))) (fun h => ?_) ifsz h
  exact q elz xz p1z iz scopez posz ((bb (bb h).1).1) ((bb (bb h).1).2) ((bb h).2)
@[elab_as_elim] theorem chk_compIf {caps : List Nat} {elt it cond : PE} {Q : PySem.Expr → Prop} (e : PySem.Expr) (h : chk S N (.compIf caps elt it cond) e = true) (q : ∀ el x p1 i c scope pos, (match compOk S N caps x scope with | some N' => chk scope.names N' elt el && chk scope.names N' cond c | Option.none => false) = true → notSet i = true → chk S N it i = true → Q (.ListComp el [⟨.Name x p1, i, [c], 0⟩] scope pos)) : Q e := by
  refine dLCo_ind (Q := Q) (fun elz gsz scopez posz h => ?_) e h
  refine l1_ind (Q := (fun gsz => Q (.ListComp elz gsz scopez posz))) (fun gz h => ?_) gsz h
  refine dCom_ind (Q := (fun gz => Q (.ListComp elz [gz] scopez posz))) (fun tz iz ifsz h => ?_) gz h
  refine dName_ind (Q := (fun tz => Q (.ListComp elz [⟨tz, iz, ifsz, 0⟩] scopez posz))) (fun xz p1z h => ?_) tz h
  refine l1_ind (Q := (fun ifsz => Q (.ListComp elz [⟨(.Name xz p1z), iz, ifsz, 0⟩] scopez posz))) (fun cz h => ?_) ifsz h
  exact q elz xz p1z iz cz scopez posz ((bb (bb h).1).1) ((bb (bb h).1).2) ((bb h).2)
@[elab_as_elim] theorem chk_anyg {caps : List Nat} {elt it : PE} {Q : PySem.Expr → Prop} (e : PySem.Expr) (h : chk S N (.anyg caps elt it) e = true) (q : ∀ p0 el x p1 i scope p2 pos, isGlob S (Str.ofString "any") = true → (match compOk S N caps x scope with | some N' => chk scope.names N' elt el | Option.none => false) = true → notSet i = true → isName i = true → chk S N it i = true → scope.names.lookup (Str.ofString ".0") = some .local → Q (.Call (.Name (Str.ofString "any") p0) [.GeneratorExp el [⟨.Name x p1, i, [], 0⟩] scope p2] [] pos)) : Q e := by
  refine dCal_ind (Q := Q) (fun g0z xsz posz h => ?_) e h
  refine dName_ind (Q := (fun g0z => Q (.Call g0z xsz [] posz))) (fun fz p0z h => ?_) g0z h
  refine l1_ind (Q := (fun xsz => Q (.Call (.Name fz p0z) xsz [] posz))) (fun yz h => ?_) xsz h
  refine dGen_ind (Q := (fun yz => Q (.Call (.Name fz p0z) [yz] [] posz))) (fun elz gsz scopez p2z h => ?_) yz h
  refine l1_ind (Q := (fun gsz => Q (.Call (.Name fz p0z) [(.GeneratorExp elz gsz scopez p2z)] [] posz))) (fun gz h => ?_) gsz h
  refine dCom_ind (Q := (fun gz => Q (.Call (.Name fz p0z) [(.GeneratorExp elz [gz] scopez p2z)] [] posz))) (fun tz iz ifsz h => ?_) gz h
  refine dName_ind (Q := (fun tz => Q (.Call (.Name fz p0z) [(.GeneratorExp elz [⟨tz, iz, ifsz, 0⟩] scopez p2z)] [] posz))) (fun xz p1z h => ?_) tz h
  refine l0_ind (Q := (fun ifsz => Q (.Call (.Name fz p0z) [(.GeneratorExp elz [⟨(.Name xz p1z), iz, ifsz, 0⟩] scopez p2z)] [] posz))) (fun h => ?_) ifsz h
  refine eqb_ind (Q := (fun fz => Q (.Call (.Name fz p0z) [(.GeneratorExp elz [⟨(.Name xz p1z), iz, [], 0⟩] scopez p2z)] [] posz))) (fun h => ?_) fz h
  exact q p0z elz xz p1z iz scopez p2z posz ((bb (bb (bb (bb (bb h).1).1).1).1).1) ((bb (bb (bb (bb (bb h).1).1).1).1).2) ((bb (bb (bb (bb h).1).1).1).2) ((bb (bb (bb h).1).1).2) ((bb (bb h).1).2) (eq_of_beq ((bb h).2))
@[elab_as_elim] theorem chk_ownIdx {i : Nat} {a : PE} {Q : PySem.Expr → Prop} (e : PySem.Expr) (h : chk S N (.ownIdx i a) e = true) (q : ∀ x p k pos, N[i]? = some x → isVar S x = true → notSlice k = true → chk S N a k = true → Q (.Subscript (.Name x p) k pos)) : Q e := by
  refine dSub_ind (Q := Q) (fun nz kz posz h => ?_) e h
  refine dName_ind (Q := (fun nz => Q (.Subscript nz kz posz))) (fun xz pz h => ?_) nz h
  exact q xz pz kz posz (eq_of_beq ((bb (bb (bb h).1).1).1)) ((bb (bb (bb h).1).1).2) ((bb (bb h).1).2) ((bb h).2)
@[elab_as_elim] theorem chk_ownIdx2 {i : Nat} {a b : PE} {Q : PySem.Expr → Prop} (e : PySem.Expr) (h : chk S N (.ownIdx2 i a b) e = true) (q : ∀ x p k p2 l pos, N[i]? = some x → isVar S x = true → notSlice k = true → notSlice l = true → chk S N a k = true → chk S N b l = true → Q (.Subscript (.Subscript (.Name x p) k p2) l pos)) : Q e := by
  refine dSub_ind (Q := Q) (fun mz lz posz h => ?_) e h
  refine dSub_ind (Q := (fun mz => Q (.Subscript mz lz posz))) (fun nz kz p2z h => ?_) mz h
  refine dName_ind (Q := (fun nz => Q (.Subscript (.Subscript nz kz p2z) lz posz))) (fun xz pz h => ?_) nz h
  exact q xz pz kz p2z lz posz (eq_of_beq ((bb (bb (bb (bb (bb h).1).1).1).1).1)) ((bb (bb (bb (bb (bb h).1).1).1).1).2) ((bb (bb (bb (bb h).1).1).1).2) ((bb (bb (bb h).1).1).2) ((bb (bb h).1).2) ((bb h).2)
@[elab_as_elim] theorem chk_ownNeNil {i : Nat} {Q : PySem.Expr → Prop} (e : PySem.Expr) (h : chk S N (.ownNeNil i) e = true) (q : ∀ x p p2 pos, N[i]? = some x → isVar S x = true → Q (.Compare (.Name x p) [.NotEq] [.List [] p2] pos)) : Q e := by
  refine dCmp_ind (Q := Q) (fun nz osz rsz posz h => ?_) e h
  refine dName_ind (Q := (fun nz => Q (.Compare nz osz rsz posz))) (fun xz pz h => ?_) nz h
  refine l1_ind (Q := (fun osz => Q (.Compare (.Name xz pz) osz rsz posz))) (fun oz h => ?_) osz h
  refine l1_ind (Q := (fun rsz => Q (.Compare (.Name xz pz) [oz] rsz posz))) (fun rz h => ?_) rsz h
  refine dLst_ind (Q := (fun rz => Q (.Compare (.Name xz pz) [oz] [rz] posz))) (fun ysz p2z h => ?_) rz h
  refine l0_ind (Q := (fun ysz => Q (.Compare (.Name xz pz) [oz] [(.List ysz p2z)] posz))) (fun h => ?_) ysz h
  refine eqb_ind (Q := (fun oz => Q (.Compare (.Name xz pz) [oz] [(.List [] p2z)] posz))) (fun h => ?_) oz h
  exact q xz pz p2z posz (eq_of_beq ((bb h).1)) ((bb h).2)
@[elab_as_elim] theorem chk_andE {es : PEs} {Q : PySem.Expr → Prop} (e : PySem.Expr) (h : chk S N (.andE es) e = true) (q : ∀ xs pos, chks S N es xs = true → Q (.BoolOp .And xs pos)) : Q e := by
  refine dBoo_ind (Q := Q) (fun oz xsz pz h => ?_) e h
  refine eqb_ind (Q := (fun oz => Q (.BoolOp oz xsz pz))) (fun h => ?_) oz h
  exact q xsz pz (h)
@[elab_as_elim] theorem chk_orE {es : PEs} {Q : PySem.Expr → Prop} (e : PySem.Expr) (h : chk S N (.orE es) e = true) (q : ∀ xs pos, chks S N es xs = true → Q (.BoolOp .Or xs pos)) : Q e := by
  refine dBoo_ind (Q := Q) (fun oz xsz pz h => ?_) e h
  refine eqb_ind (Q := (fun oz => Q (.BoolOp oz xsz pz))) (fun h => ?_) oz h
  exact q xsz pz (h)
theorem chk_comp_ex {e : PySem.Expr} {caps : List Nat} {elt it : PE} (h : chk S N (.comp caps elt it) e = true) : ∃ el x p1 i scope pos, e = .ListComp el [⟨.Name x p1, i, [], 0⟩] scope pos ∧ (match compOk S N caps x scope with | some N' => chk scope.names N' elt el | Option.none => false) = true ∧ notSet i = true ∧ chk S N it i = true :=
  chk_comp (Q := fun e => ∃ el x p1 i scope pos, e = .ListComp el [⟨.Name x p1, i, [], 0⟩] scope pos ∧ (match compOk S N caps x scope with | some N' => chk scope.names N' elt el | Option.none => false) = true ∧ notSet i = true ∧ chk S N it i = true) e h fun el x p1 i scope pos h1 h2 h3 => ⟨el, x, p1, i, scope, pos, rfl, h1, h2, h3⟩
theorem chk_compIf_ex {e : PySem.Expr} {caps : List Nat} {elt it cond : PE} (h : chk S N (.compIf caps elt it cond) e = true) : ∃ el x p1 i c scope pos, e = .ListComp el [⟨.Name x p1, i, [c], 0⟩] scope pos ∧ (match compOk S N caps x scope with | some N' => chk scope.names N' elt el && chk scope.names N' cond c | Option.none => false) = true ∧ notSet i = true ∧ chk S N it i = true :=
  chk_compIf (Q := fun e => ∃ el x p1 i c scope pos, e = .ListComp el [⟨.Name x p1, i, [c], 0⟩] scope pos ∧ (match compOk S N caps x scope with | some N' => chk scope.names N' elt el && chk scope.names N' cond c | Option.none => false) = true ∧ notSet i = true ∧ chk S N it i = true) e h fun el x p1 i c scope pos h1 h2 h3 => ⟨el, x, p1, i, c, scope, pos, rfl, h1, h2, h3⟩
end
end Mine
namespace Mine
open PySem PyProof.Rows
section
variable {S : Tab} {N : List Str}
@[elab_as_elim] theorem chkS_asg {i : Nat} {e : PE} {Q : PySem.Stmt → Prop} (st : PySem.Stmt) (h : chkS S N (.asg i e) st = true) (q : ∀ x p v pos, nameAt S N i x = true → chk S N e v = true → Q (.Assign [.Name x p] v pos)) : Q st := by
  refine sAsg_ind (Q := Q) (fun tz vz posz h => ?_) st h
  refine dName_ind (Q := (fun tz => Q (.Assign [tz] vz posz))) (fun xz pz h => ?_) tz h
  exact q xz pz vz posz ((bb h).1) ((bb h).2)
@[elab_as_elim] theorem chkS_ownL {i : Nat} {Q : PySem.Stmt → Prop} (st : PySem.Stmt) (h : chkS S N (.ownL i) st = true) (q : ∀ x p p2 pos, nameAt S N i x = true → Q (.Assign [.Name x p] (.List [] p2) pos)) : Q st := by
  refine sAsg_ind (Q := Q) (fun tz vz posz h => ?_) st h
  refine dName_ind (Q := (fun tz => Q (.Assign [tz] vz posz))) (fun xz pz h => ?_) tz h
  refine dLst_ind (Q := (fun vz => Q (.Assign [(.Name xz pz)] vz posz))) (fun ysz p2z h => ?_) vz h
  refine l0_ind (Q := (fun ysz => Q (.Assign [(.Name xz pz)] (.List ysz p2z) posz))) (fun h => ?_) ysz h
  exact q xz pz p2z posz (h)
@[elab_as_elim] theorem chkS_ownD {i : Nat} {Q : PySem.Stmt → Prop} (st : PySem.Stmt) (h : chkS S N (.ownD i) st = true) (q : ∀ x p p2 pos, nameAt S N i x = true → Q (.Assign [.Name x p] (.Dict [] [] p2) pos)) : Q st := by
  refine sAsg_ind (Q := Q) (fun tz vz posz h => ?_) st h
  refine dName_ind (Q := (fun tz => Q (.Assign [tz] vz posz))) (fun xz pz h => ?_) tz h
  refine dDic_ind (Q := (fun vz => Q (.Assign [(.Name xz pz)] vz posz))) (fun ksz vsz p2z h => ?_) vz h
  refine l0_ind (Q := (fun ksz => Q (.Assign [(.Name xz pz)] (.Dict ksz vsz p2z) posz))) (fun h => ?_) ksz h
  refine l0_ind (Q := (fun vsz => Q (.Assign [(.Name xz pz)] (.Dict [] vsz p2z) posz))) (fun h => ?_) vsz h
  exact q xz pz p2z posz (h)
@[elab_as_elim] theorem chkS_ownC {i : Nat} {e : PE} {Q : PySem.Stmt → Prop} (st : PySem.Stmt) (h : chkS S N (.ownC i e) st = true) (q : ∀ x p v pos, nameAt S N i x = true → isComp v = true → chk S N e v = true → Q (.Assign [.Name x p] v pos)) : Q st := by
  refine sAsg_ind (Q := Q) (fun tz vz posz h => ?_) st h
  refine dName_ind (Q := (fun tz => Q (.Assign [tz] vz posz))) (fun xz pz h => ?_) tz h
  exact q xz pz vz posz ((bb (bb h).1).1) ((bb (bb h).1).2) ((bb h).2)
@[elab_as_elim] theorem chkS_ownT {i : Nat} {caps : List Nat} {w h0 : PE} {Q : PySem.Stmt → Prop} (st : PySem.Stmt) (h : chkS S N (.ownT i caps w h0) st = true) (q : ∀ x p k1 p1 p2 we p3 y p4 it scope p5 pos, nameAt S N i x = true → (match compOk S N caps y scope with | some N' => chk scope.names N' w we | Option.none => false) = true → notSet it = true → chk S N h0 it = true → Q (.Assign [.Name x p] (.ListComp (.BinOp (.List [.Constant (.int 0) k1 p1] p2) .Mult we p3) [⟨.Name y p4, it, [], 0⟩] scope p5) pos)) : Q st := by
  refine sAsg_ind (Q := Q) (fun tz vz posz h => ?_) st h
  refine dName_ind (Q := (fun tz => Q (.Assign [tz] vz posz))) (fun xz pz h => ?_) tz h
  refine dLCo_ind (Q := (fun vz => Q (.Assign [(.Name xz pz)] vz posz))) (fun elz gsz scopez p5z h => ?_) vz h
  refine dBin_ind (Q := (fun elz => Q (.Assign [(.Name xz pz)] (.ListComp elz gsz scopez p5z) posz))) (fun lz oz wez p3z h => ?_) elz h
  refine dLst_ind (Q := (fun lz => Q (.Assign [(.Name xz pz)] (.ListComp (.BinOp lz oz wez p3z) gsz scopez p5z) posz))) (fun zsz p2z h => ?_) lz h
  refine l1_ind (Q := (fun zsz => Q (.Assign [(.Name xz pz)] (.ListComp (.BinOp (.List zsz p2z) oz wez p3z) gsz scopez p5z) posz))) (fun zz h => ?_) zsz h
  refine dCst_ind (Q := (fun zz => Q (.Assign [(.Name xz pz)] (.ListComp (.BinOp (.List [zz] p2z) oz wez p3z) gsz scopez p5z) posz))) (fun cz k1z p1z h => ?_) zz h
  refine l1_ind (Q := (fun gsz => Q (.Assign [(.Name xz pz)] (.ListComp (.BinOp (.List [(.Constant cz k1z p1z)] p2z) oz wez p3z) gsz scopez p5z) posz))) (fun gz h => ?_) gsz h
  refine dCom_ind (Q := (fun gz => Q (.Assign [(.Name xz pz)] (.ListComp (.BinOp (.List [(.Constant cz k1z p1z)] p2z) oz wez p3z) [gz] scopez p5z) posz))) (fun t'z itz ifsz h => ?_) gz h
  refine dName_ind (Q := (fun t'z => Q (.Assign [(.Name xz pz)] (.ListComp (.BinOp (.List [(.Constant cz k1z p1z)] p2z) oz wez p3z) [⟨t'z, itz, ifsz, 0⟩] scopez p5z) posz))) (fun yz p4z h => ?_) t'z h
  refine l0_ind (Q := (fun ifsz => Q (.Assign [(.Name xz pz)] (.ListComp (.BinOp (.List [(.Constant cz k1z p1z)] p2z) oz wez p3z) [⟨(.Name yz p4z), itz, ifsz, 0⟩] scopez p5z) posz))) (fun h => ?_) ifsz h
  refine eqb_ind (Q := (fun oz => Q (.Assign [(.Name xz pz)] (.ListComp (.BinOp (.List [(.Constant cz k1z p1z)] p2z) oz wez p3z) [⟨(.Name yz p4z), itz, [], 0⟩] scopez p5z) posz))) (fun h => ?_) oz h
  refine eqb_ind (Q := (fun cz => Q (.Assign [(.Name xz pz)] (.ListComp (.BinOp (.List [(.Constant cz k1z p1z)] p2z) (Operator.Mult) wez p3z) [⟨(.Name yz p4z), itz, [], 0⟩] scopez p5z) posz))) (fun h => ?_) cz h
  exact q xz pz k1z p1z p2z wez p3z yz p4z itz scopez p5z posz ((bb (bb (bb h).1).1).1) ((bb (bb (bb h).1).1).2) ((bb (bb h).1).2) ((bb h).2)
@[elab_as_elim] theorem chkS_unp {i j : Nat} {e : PE} {Q : PySem.Stmt → Prop} (st : PySem.Stmt) (h : chkS S N (.unp i j e) st = true) (q : ∀ x p y p2 k p3 v pos, nameAt S N i x = true → nameAt S N j y = true → notTup v = true → chk S N e v = true → Q (.Assign [.Tuple [.Name x p, .Name y p2] k p3] v pos)) : Q st := by
  refine sAsg_ind (Q := Q) (fun tz vz posz h => ?_) st h
  refine dTup_ind (Q := (fun tz => Q (.Assign [tz] vz posz))) (fun xsz kz p3z h => ?_) tz h
  refine l2_ind (Q := (fun xsz => Q (.Assign [(.Tuple xsz kz p3z)] vz posz))) (fun az bz h => ?_) xsz h
  refine dName_ind (Q := (fun az => Q (.Assign [(.Tuple [az, bz] kz p3z)] vz posz))) (fun xz pz h => ?_) az h
  refine dName_ind (Q := (fun bz => Q (.Assign [(.Tuple [(.Name xz pz), bz] kz p3z)] vz posz))) (fun yz p2z h => ?_) bz h
  exact q xz pz yz p2z kz p3z vz posz ((bb (bb (bb h).1).1).1) ((bb (bb (bb h).1).1).2) ((bb (bb h).1).2) ((bb h).2)
@[elab_as_elim] theorem chkS_aug {i : Nat} {e : PE} {Q : PySem.Stmt → Prop} (st : PySem.Stmt) (h : chkS S N (.aug i e) st = true) (q : ∀ x p v pos, nameAt S N i x = true → chk S N e v = true → Q (.AugAssign (.Name x p) .Add v pos)) : Q st := by
  refine sAug_ind (Q := Q) (fun tz oz vz posz h => ?_) st h
  refine dName_ind (Q := (fun tz => Q (.AugAssign tz oz vz posz))) (fun xz pz h => ?_) tz h
  refine eqb_ind (Q := (fun oz => Q (.AugAssign (.Name xz pz) oz vz posz))) (fun h => ?_) oz h
  exact q xz pz vz posz ((bb h).1) ((bb h).2)
@[elab_as_elim] theorem chkS_app {i : Nat} {e : PE} {Q : PySem.Stmt → Prop} (st : PySem.Stmt) (h : chkS S N (.app i e) st = true) (q : ∀ x p ap v cp pos, ap.endLine = cp.line → nameAt S N i x = true → notStar v = true → chk S N e v = true → Q (.Expr (.Call (.Attribute (.Name x p) (Str.ofString "append") ap) [v] [] cp) pos)) : Q st := by
  refine sExp_ind (Q := Q) (fun cz posz h => ?_) st h
  refine dCal_ind (Q := (fun cz => Q (.Expr cz posz))) (fun gz xsz cpz h => ?_) cz h
  refine dAtt_ind (Q := (fun gz => Q (.Expr (.Call gz xsz [] cpz) posz))) (fun oz nmz apz h => ?_) gz h
  refine dName_ind (Q := (fun oz => Q (.Expr (.Call (.Attribute oz nmz apz) xsz [] cpz) posz))) (fun xz pz h => ?_) oz h
  refine l1_ind (Q := (fun xsz => Q (.Expr (.Call (.Attribute (.Name xz pz) nmz apz) xsz [] cpz) posz))) (fun vz h => ?_) xsz h
  refine eqb_ind (Q := (fun nmz => Q (.Expr (.Call (.Attribute (.Name xz pz) nmz apz) [vz] [] cpz) posz))) (fun h => ?_) nmz h
  exact q xz pz apz vz cpz posz (eq_of_beq ((bb (bb (bb h).1).1).1)) ((bb (bb (bb h).1).1).2) ((bb (bb h).1).2) ((bb h).2)
@[elab_as_elim] theorem chkS_put {i : Nat} {k e : PE} {Q : PySem.Stmt → Prop} (st : PySem.Stmt) (h : chkS S N (.put i k e) st = true) (q : ∀ x p kx p2 v pos, nameAt S N i x = true → notSlice kx = true → chk S N k kx = true → chk S N e v = true → Q (.Assign [.Subscript (.Name x p) kx p2] v pos)) : Q st := by
  refine sAsg_ind (Q := Q) (fun tz vz posz h => ?_) st h
  refine dSub_ind (Q := (fun tz => Q (.Assign [tz] vz posz))) (fun nz kxz p2z h => ?_) tz h
  refine dName_ind (Q := (fun nz => Q (.Assign [(.Subscript nz kxz p2z)] vz posz))) (fun xz pz h => ?_) nz h
  exact q xz pz kxz p2z vz posz ((bb (bb (bb h).1).1).1) ((bb (bb (bb h).1).1).2) ((bb (bb h).1).2) ((bb h).2)
@[elab_as_elim] theorem chkS_put2 {i : Nat} {k l e : PE} {Q : PySem.Stmt → Prop} (st : PySem.Stmt) (h : chkS S N (.put2 i k l e) st = true) (q : ∀ x p kx p2 lx p3 v pos, nameAt S N i x = true → notSlice kx = true → notSlice lx = true → chk S N k kx = true → chk S N l lx = true → chk S N e v = true → Q (.Assign [.Subscript (.Subscript (.Name x p) kx p2) lx p3] v pos)) : Q st := by
  refine sAsg_ind (Q := Q) (fun tz vz posz h => ?_) st h
  refine dSub_ind (Q := (fun tz => Q (.Assign [tz] vz posz))) (fun mz lxz p3z h => ?_) tz h
  refine dSub_ind (Q := (fun mz => Q (.Assign [(.Subscript mz lxz p3z)] vz posz))) (fun nz kxz p2z h => ?_) mz h
  refine dName_ind (Q := (fun nz => Q (.Assign [(.Subscript (.Subscript nz kxz p2z) lxz p3z)] vz posz))) (fun xz pz h => ?_) nz h
  exact q xz pz kxz p2z lxz p3z vz posz ((bb (bb (bb (bb (bb h).1).1).1).1).1) ((bb (bb (bb (bb (bb h).1).1).1).1).2) ((bb (bb (bb (bb h).1).1).1).2) ((bb (bb (bb h).1).1).2) ((bb (bb h).1).2) ((bb h).2)
@[elab_as_elim] theorem chkS_ite {t : PE} {a b : PSs} {Q : PySem.Stmt → Prop} (st : PySem.Stmt) (h : chkS S N (.ite t a b) st = true) (q : ∀ tx as bs pos, chk S N t tx = true → chkSs S N a as = true → chkSs S N b bs = true → Q (.If tx as bs pos)) : Q st := by
  refine sIf_ind (Q := Q) (fun txz asz bsz posz h => ?_) st h
  exact q txz asz bsz posz ((bb (bb h).1).1) ((bb (bb h).1).2) ((bb h).2)
@[elab_as_elim] theorem chkS_whl {t : PE} {b : PSs} {Q : PySem.Stmt → Prop} (st : PySem.Stmt) (h : chkS S N (.whl t b) st = true) (q : ∀ tx bs pos, chk S N t tx = true → chkSs S N b bs = true → Q (.While tx bs [] pos)) : Q st := by
  refine sWhl_ind (Q := Q) (fun txz bsz posz h => ?_) st h
  exact q txz bsz posz ((bb h).1) ((bb h).2)
@[elab_as_elim] theorem chkS_for1 {i : Nat} {it : PE} {b : PSs} {Q : PySem.Stmt → Prop} (st : PySem.Stmt) (h : chkS S N (.for1 i it b) st = true) (q : ∀ x p ix bs pos, nameAt S N i x = true → notSet ix = true → chk S N it ix = true → chkSs S N b bs = true → Q (.For (.Name x p) ix bs [] pos)) : Q st := by
  refine sFor_ind (Q := Q) (fun tz ixz bsz posz h => ?_) st h
  refine dName_ind (Q := (fun tz => Q (.For tz ixz bsz [] posz))) (fun xz pz h => ?_) tz h
  exact q xz pz ixz bsz posz ((bb (bb (bb h).1).1).1) ((bb (bb (bb h).1).1).2) ((bb (bb h).1).2) ((bb h).2)
@[elab_as_elim] theorem chkS_for2 {i j : Nat} {it : PE} {b : PSs} {Q : PySem.Stmt → Prop} (st : PySem.Stmt) (h : chkS S N (.for2 i j it b) st = true) (q : ∀ x p y p2 k p3 ix bs pos, nameAt S N i x = true → nameAt S N j y = true → notSet ix = true → chk S N it ix = true → chkSs S N b bs = true → Q (.For (.Tuple [.Name x p, .Name y p2] k p3) ix bs [] pos)) : Q st := by
  refine sFor_ind (Q := Q) (fun tz ixz bsz posz h => ?_) st h
  refine dTup_ind (Q := (fun tz => Q (.For tz ixz bsz [] posz))) (fun xsz kz p3z h => ?_) tz h
  refine l2_ind (Q := (fun xsz => Q (.For (.Tuple xsz kz p3z) ixz bsz [] posz))) (fun az b'z h => ?_) xsz h
  refine dName_ind (Q := (fun az => Q (.For (.Tuple [az, b'z] kz p3z) ixz bsz [] posz))) (fun xz pz h => ?_) az h
  refine dName_ind (Q := (fun b'z => Q (.For (.Tuple [(.Name xz pz), b'z] kz p3z) ixz bsz [] posz))) (fun yz p2z h => ?_) b'z h
  exact q xz pz yz p2z kz p3z ixz bsz posz ((bb (bb (bb (bb h).1).1).1).1) ((bb (bb (bb (bb h).1).1).1).2) ((bb (bb (bb h).1).1).2) ((bb (bb h).1).2) ((bb h).2)
@[elab_as_elim] theorem chkS_ret {e : PE} {Q : PySem.Stmt → Prop} (st : PySem.Stmt) (h : chkS S N (.ret e) st = true) (q : ∀ v pos, chk S N e v = true → Q (.Return (some v) pos)) : Q st := by
  refine sRet_ind (Q := Q) (fun vz posz h => ?_) st h
  exact q vz posz (h)
theorem nameAt_facts {i : Nat} {x : Str} (h : nameAt S N i x = true) : N[i]? = some x ∧ canStore S x = true ∧ isVar S x = true :=
  ⟨eq_of_beq (bb (bb h).1).1, (bb (bb h).1).2, (bb h).2⟩
theorem chkSs_nil {xs : List Stmt} (h : chkSs S N .nil xs = true) : xs = [] := l0_ind (Q := fun l => l = []) (fun Z => rfl) xs h
theorem chkSs_freeze {i : Nat} {ss : PSs} {xs : List Stmt} (h : chkSs S N (.cons (.freeze i) ss) xs = true) : chkSs S N ss xs = true := h
end
abbrev Fl : Value → Shared → Prop := fun Z Z => False
structure Fm where
  env : Env
  S : Tab
  names : List Str
  Kb : List Addr
  Xb : Addr → Prop
  A0 : Addr → Prop
  own : Bool
  Pc : Addr → Prop
  T : Heap → Prop
noncomputable def Fm.X (fm : Fm) (Ow : List Addr) (a : Addr) : Prop := fm.Xb a ∨ a ∈ fm.Kb ∨ a ∈ Ow
noncomputable def Fm.O (fm : Fm) (Ow : List Addr) (a : Addr) : Prop := a ∈ fm.Kb ∨ a ∈ Ow
theorem Fm.O_X {fm : Fm} {Ow : List Addr} {a : Addr} (h : fm.O Ow a) : fm.X Ow a := .inr h
structure FmOk (hb : Heap) (fm : Fm) : Prop where
  kind : fm.env.scope.kind = .function
  globals : fm.env.globals = mainGlobals
  builtins : fm.env.builtins = builtinsNs
  loc : ∀ x, fm.S.lookup x = some .local → fm.env.kindOf x = some .local
  glo : ∀ x, fm.S.lookup x = some .globalImplicit → fm.env.kindOf x = some .globalImplicit
  cel : ∀ x, fm.S.lookup x = some .cell → fm.env.kindOf x = some .cell
  fre : ∀ x, fm.S.lookup x = some .free → fm.env.kindOf x = some .cell ∨ fm.env.kindOf x = some .free
  locK : fm.env.locals ∈ fm.Kb
  hb0 : ∀ b o, hb.get? b = some o → fm.A0 b
  xb : ∀ a, fm.Xb a → fm.A0 a ∧ ¬ Al hb a
  celK : fm.own = true → ∀ x c, fm.env.cells.lookup x = some c → c ∈ fm.Kb
  celHas : ∀ x, fm.S.lookup x = some .cell → ∃ c, fm.env.cells.lookup x = some c
  celInj : ∀ x y c, fm.env.cells.lookup x = some c → fm.env.cells.lookup y = some c → x = y
  nodup : fm.names.Nodup
  newK : ∀ a ∈ fm.Kb, ¬ fm.A0 a
  pcX : ∀ a, fm.Pc a → fm.Xb a
noncomputable def HasVar (env : Env) (m : Str → Option Value) (h : Heap) (x : Str) (v : Value) : Prop :=
  (env.kindOf x = some .local ∧ m x = some v) ∨ ((env.kindOf x = some .cell ∨ env.kindOf x = some .free) ∧ ∃ c, env.cells.lookup x = some c ∧ h.IsCell c (some v))
inductive Rows (h : Heap) (X : Addr → Prop) : List Addr → List (List PyData) → Prop
  | nil : Rows h X [] []
  | cons {r : Addr} {rs : List Addr} {vs : Array Value} {n : Nat} {xs : List PyData} {xss : List (List PyData)} :
      vs.size ≤ sizeLine → h.get? r = some { cls := .type "list", data := .seq vs n } → RepL h X vs.toList xs → Rows h X rs xss → Rows h X (r :: rs) (xs :: xss)
noncomputable def DiRel (m : List (Int × Int)) (g : Int → Option Value) : Prop := ∀ k, match m.lookup k with | Option.none => g k = Option.none | some i => ∃ t, g k = some (.int i t)
noncomputable def OwnRep (h : Heap) (X : Addr → Prop) (Ow : List Addr) (a : Addr) : OV → Prop
  | .lst xs => a ∈ Ow ∧ ∃ vs n, vs.size ≤ sizeLine ∧ h.get? a = some { cls := .type "list", data := .seq vs n } ∧ RepL h X vs.toList xs
  | .dict m => a ∈ Ow ∧ ∃ g, h.IntMap a g ∧ DiRel m g ∧ h.DictLe a m.length
  | .tab rows => a ∈ Ow ∧ ∃ vs n as, vs.size ≤ sizeLine ∧ h.get? a = some { cls := .type "list", data := .seq vs n } ∧ vs.toList = as.map Value.ref ∧ as.Nodup ∧ a ∉ as ∧ (∀ r ∈ as, r ∈ Ow) ∧ Rows h X as rows
section
variable (prog : Program) (w : World) (hb : Heap)
structure Inv (fm : Fm) (s : Shared) (σ : St) (Ow : List Addr) (m : Str → Option Value) : Prop where
  hbk : ∀ b o, hb.get? b = some o → s.heap.get? b = some o
  gens : AllBare s.gens
  ns : s.heap.Ns fm.env.locals m
  alK : ∀ a ∈ fm.Kb, Al s.heap a
  alO : ∀ a ∈ Ow, Al s.heap a
  al0 : ∀ a, fm.A0 a → Al s.heap a
  newO : ∀ a ∈ Ow, ¬ fm.A0 a
  disj : ∀ a ∈ Ow, a ∉ fm.Kb
  cells : ∀ x c, fm.env.cells.lookup x = some c → ∃ v, s.heap.IsCell c v
  vars : ∀ i p, σ.get i = some p → ∃ x v, fm.names[i]? = some x ∧ HasVar fm.env m s.heap x v ∧ RepV prog w s.heap (fm.X Ow) v p
  own : ∀ i ov, σ.ow = some (i, ov) → ∃ x a, fm.names[i]? = some x ∧ HasVar fm.env m s.heap x (.ref a) ∧ OwnRep s.heap (fm.X Ow) Ow a ov
  tab : fm.T s.heap
  tSt : ∀ h h', fm.T h → (∀ b o, (Al hb b ∨ fm.Pc b) → h.get? b = some o → h'.get? b = some o) → fm.T h'
end
theorem Rows.mono {h h' : Heap} {X X' : Addr → Prop} {as : List Addr} (ha : ∀ r ∈ as, ∀ o, h.get? r = some o → h'.get? r = some o) (hk : ∀ b o, ¬ X b → h.get? b = some o → h'.get? b = some o) (hx : ∀ a, Al h a → X' a → X a) :
    ∀ {xss : List (List PyData)}, Rows h X as xss → Rows h' X' as xss := by
  induction as with
  | nil => intro _ r; cases r; exact .nil
  | cons r rs ih =>
    intro _ q
    cases q with
    | cons h1 h2 h3 h4 => exact .cons h1 (ha _ (.head _) _ h2) (h3.mono hk hx) (ih (fun r hr => ha r (.tail _ hr)) h4)
theorem OwnRep.ext {h h' : Heap} {X : Addr → Prop} {Ow : List Addr} {a : Addr} {ov : OV} (hk : ∀ b o, h.get? b = some o → h'.get? b = some o) (r : OwnRep h X Ow a ov) : OwnRep h' X Ow a ov := by
  cases ov with
  | lst xs => obtain ⟨h0, vs, n, h1, h2, h3⟩ := r; exact ⟨h0, vs, n, h1, hk _ _ h2, h3.mono (fun b o Z e => hk b o e) fun Z Z q => q⟩
  | dict m =>
    refine Classical.byContradiction fun hng => ?_
    obtain ⟨h0, g, ⟨o, es, ep, ho, q⟩, h2, h3⟩ := r
    refine hng ?_
    exact ⟨h0, g, ⟨o, es, ep, hk _ _ ho, q⟩, h2, h3.of_same ho (hk _ _ ho)⟩
  | tab rows =>
    refine Classical.byContradiction fun hng => ?_
    obtain ⟨h0, vs, n, as, h1, h2, h3, h4, h5, h6, h7⟩ := r
    refine hng ?_
    exact ⟨h0, vs, n, as, h1, hk _ _ h2, h3, h4, h5, h6, h7.mono (fun r Z o e => hk r o e) (fun b o Z e => hk b o e) fun Z Z q => q⟩
theorem HasVar.keeps {env : Env} {m : Str → Option Value} {h h' : Heap} {x : Str} {v : Value} (r : HasVar env m h x v) (hk : ∀ c, env.cells.lookup x = some c → ∀ o, h.get? c = some o → h'.get? c = some o) : HasVar env m h' x v :=
  r.imp id fun ⟨k, c, hc, o, ho, hd⟩ => ⟨k, c, hc, o, hk c hc o ho, hd⟩
section
variable {prog : Program} {w : World} {hb : Heap} {fm : Fm} {s s' : Shared} {σ : St} {Ow : List Addr} {m : Str → Option Value}
theorem Inv.ext (I : Inv prog w hb fm s σ Ow m) (x : Ext s s') : Inv prog w hb fm s' σ Ow m where
  hbk := fun b o e => x.keep' b o (I.hbk b o e)
  gens := x.gens I.gens
  ns := I.ns.keeps x.keep'
  alK := fun a h => x.al a (I.alK a h)
  alO := fun a h => x.al a (I.alO a h)
  al0 := fun a h => x.al a (I.al0 a h)
  newO := I.newO
  disj := I.disj
  cells := fun y c h => let ⟨v, o, ho, hd⟩ := I.cells y c h; ⟨v, o, x.keep' _ _ ho, hd⟩
  vars := fun i p h => let ⟨y, v, h1, h2, h3⟩ := I.vars i p h; ⟨y, v, h1, h2.keeps fun Z Z o e => x.keep' _ o e, h3.ext x⟩
  own := fun i ov h => let ⟨y, a, h1, h2, h3⟩ := I.own i ov h; ⟨y, a, h1, h2.keeps fun Z Z o e => x.keep' _ o e, h3.ext x.keep'⟩
  tab := I.tSt _ _ I.tab fun b o Z e => x.keep' b o e
  tSt := I.tSt
theorem Inv.alX (I : Inv prog w hb fm s σ Ow m) (K : FmOk hb fm) {a : Addr} (h : fm.X Ow a) : Al s.heap a := by
  rcases h with h | h | h
  · exact I.al0 a (K.xb a h).1
  · exact I.alK a h
  · exact I.alO a h
theorem Inv.newX (I : Inv prog w hb fm s σ Ow m) (K : FmOk hb fm) {a : Addr} (h : ¬ Al s.heap a) : ¬ fm.X Ow a := fun q => h (I.alX K q)
theorem Inv.xhb (I : Inv prog w hb fm s σ Ow m) (K : FmOk hb fm) {a : Addr} (h : fm.X Ow a) : ¬ Al hb a := fun ⟨o, e⟩ => by
  rcases h with h | h | h
  · exact (K.xb a h).2 ⟨o, e⟩
  · exact K.newK a h (K.hb0 a o e)
  · exact I.newO a h (K.hb0 a o e)
theorem Inv.fresh (I : Inv prog w hb fm s σ Ow m) (K : FmOk hb fm) : ¬ fm.X Ow s.heap.objs.size := I.newX K (al_size _)
theorem load_ok {A : Around} {i : Nat} {p : PV} {x : Str} {pos : Pos} {Q : Value → Shared → Prop} (K : FmOk hb fm) (I : Inv prog w hb fm s σ Ow m) (hn : fm.names[i]? = some x) (hv : isVar fm.S x = true)
    (hg : σ.get i = some p) (h : ∀ v, RepV prog w s.heap (fm.X Ow) v p → Q v s) : wpAny (model prog w) A (eval (.Name x pos) fm.env) Q Fl s := by
  refine ea_2_3 (I.vars i p hg) fun y v h1 h2 h3 => ?_
  obtain rfl : x = y := by rw [hn] at h1; exact Option.some.inj h1
  simp only [isVar, Bool.and_eq_true, bne_iff_ne, ne_eq] at hv
  refine wpAny_Name ?_ (by simpa using hv.1.2)
  rcases h2 with ⟨k, e⟩ | ⟨k | k, c, hc, hcell⟩
  · exact wpAny_loadName_local K.kind k I.ns e (h v h3)
  · exact wpAny_loadName_cell K.kind k hc hcell (h v h3)
  · exact wpAny_loadName_free K.kind k hc hcell (h v h3) (by simpa using hv.2)
theorem loadOwn_ok {A : Around} {i : Nat} {ov : OV} {x : Str} {pos : Pos} {Q : Value → Shared → Prop} (K : FmOk hb fm) (I : Inv prog w hb fm s σ Ow m) (hn : fm.names[i]? = some x) (hv : isVar fm.S x = true)
    (hg : σ.ow = some (i, ov)) (h : ∀ a, OwnRep s.heap (fm.X Ow) Ow a ov → HasVar fm.env m s.heap x (.ref a) → Q (.ref a) s) : wpAny (model prog w) A (eval (.Name x pos) fm.env) Q Fl s := by
  refine ea_2_3 (I.own i ov hg) fun y a h1 h2 h3 => ?_
  obtain rfl : x = y := by rw [hn] at h1; exact Option.some.inj h1
  simp only [isVar, Bool.and_eq_true, bne_iff_ne, ne_eq] at hv
  refine wpAny_Name ?_ (by simpa using hv.1.2)
  have h2' := h2
  rcases h2 with ⟨k, e⟩ | ⟨k | k, c, hc, hcell⟩
  · exact wpAny_loadName_local K.kind k I.ns e (h a h3 h2')
  · exact wpAny_loadName_cell K.kind k hc hcell (h a h3 h2')
  · exact wpAny_loadName_free K.kind k hc hcell (h a h3 h2') (by simpa using hv.2)
end
theorem St.get_set {σ : St} {i j : Nat} {p q : PV} (h : (σ.set i p).get j = some q) : (j = i ∧ q = p) ∨ (j ≠ i ∧ σ.get j = some q) := by
  simp only [St.get, St.set, List.getD_eq_getElem?_getD, List.getElem?_set] at h
  by_cases e : i = j
  · subst e
    refine .inl ⟨rfl, ?_⟩
    by_cases l : i < σ.vars.length
    · simp [l] at h; exact h.symm
    · simp [l] at h
  · refine .inr ⟨fun q => e q.symm, ?_⟩
    simpa [e, St.get, List.getD_eq_getElem?_getD] using h
theorem St.ow_set {σ : St} {i j : Nat} {p : PV} {o : OV} (h : (σ.set i p).ow = some (j, o)) : j ≠ i ∧ σ.ow = some (j, o) := by
  simp only [St.set] at h
  split at h
  · rename_i k o' e
    split at h
    · cases h
    · rename_i ne; cases h; exact ⟨ne, e⟩
  · cases h
theorem nodup_idx {l : List Str} (h : l.Nodup) {i j : Nat} {x : Str} (hi : l[i]? = some x) (hj : l[j]? = some x) : i = j := by
  obtain ⟨li, ei⟩ := List.getElem?_eq_some_iff.mp hi
  obtain ⟨lj, ej⟩ := List.getElem?_eq_some_iff.mp hj
  have hp := List.pairwise_iff_getElem.mp h
  rcases Nat.lt_trichotomy i j with q | q | q
  · exact absurd (ei.trans ej.symm) (hp i j li lj q)
  · exact q
  · exact absurd (ej.trans ei.symm) (hp j i lj li q)
section
variable {prog : Program} {w : World} {hb : Heap} {fm : Fm} {s : Shared} {σ : St} {Ow : List Addr} {m : Str → Option Value}
theorem ns_ne_cell {h : Heap} {L c : Addr} {m : Str → Option Value} {v : Option Value} (n : h.Ns L m) (x : h.IsCell c v) : L ≠ c := fun e => by
  refine ea_3_3 (n) fun o es ep ho hd Z => ?_
  refine ea_1_2 (x) fun o' ho' hd' => ?_
  rw [e, ho'] at ho; cases ho; rw [hd'] at hd; cases hd
theorem touch_rep {fm : Fm} {Ow : List Addr} {h h' : Heap} {c : Addr} (hc : c ∈ fm.Kb) (hs : Heap.SameBut c h h') : ∀ b o, ¬ fm.X Ow b → h.get? b = some o → h'.get? b = some o :=
  fun b o hb e => (hs.2 b fun q => hb (.inr (.inl (q ▸ hc)))).trans e
theorem touch_own {fm : Fm} {Ow : List Addr} {h h' : Heap} {c a : Addr} {ov : OV} (hd : ∀ a ∈ Ow, a ∉ fm.Kb) (hc : c ∈ fm.Kb) (hs : Heap.SameBut c h h') (r : OwnRep h (fm.X Ow) Ow a ov) : OwnRep h' (fm.X Ow) Ow a ov := by
  have ho : ∀ b ∈ Ow, ∀ o, h.get? b = some o → h'.get? b = some o := fun b hb o e => (hs.2 b fun q => hd b hb (q ▸ hc)).trans e
  cases ov with
  | lst xs => obtain ⟨h0, vs, n, h1, h2, h3⟩ := r; exact ⟨h0, vs, n, h1, ho _ h0 _ h2, h3.mono (touch_rep hc hs) fun Z Z q => q⟩
  | dict m =>
    refine Classical.byContradiction fun hng => ?_
    obtain ⟨h0, g, ⟨o, es, ep, ho', q⟩, h2, h3⟩ := r
    refine hng ?_
    exact ⟨h0, g, ⟨o, es, ep, ho _ h0 _ ho', q⟩, h2, h3.of_same ho' (ho _ h0 _ ho')⟩
  | tab rows =>
    refine Classical.byContradiction fun hng => ?_
    obtain ⟨h0, vs, n, as, h1, h2, h3, h4, h5, h6, h7⟩ := r
    refine hng ?_
    exact ⟨h0, vs, n, as, h1, ho _ h0 _ h2, h3, h4, h5, h6, h7.mono (fun r hr o e => ho r (h6 r hr) o e) (touch_rep hc hs) fun Z Z q => q⟩
theorem touch_keep {fm : Fm} {s : Shared} {h' : Heap} {tk : Nat} {c : Addr} (hc : c ∈ fm.Kb) (hs : Heap.SameBut c s.heap h') (ha : Al h' c) : Keep (fun a => a ∈ fm.Kb) s { s with heap := h', toks := tk } :=
  ⟨fun b o hb e => (hs.2 b fun q => hb (q ▸ hc)).trans e, fun b ⟨o, e⟩ => by
    by_cases q : b = c
    · exact q ▸ ha
    · exact ⟨o, (hs.2 b q).trans e⟩, rfl, fun e => e⟩
theorem hasVar_ns {env : Env} {m m' : Str → Option Value} {h h' : Heap} {y : Str} {v : Value} (r : HasVar env m h y v) (hm : m' y = m y) (n : h.Ns env.locals m) (hs : Heap.SameBut env.locals h h') : HasVar env m' h' y v :=
  r.imp (fun ⟨k, e⟩ => ⟨k, hm.trans e⟩) fun ⟨k, c, hc, hcell⟩ => ⟨k, c, hc, hcell.sameBut hs (Ne.symm (ns_ne_cell n hcell))⟩
theorem store_core {A : Around} {x : Str} {v : Value} {Q : Unit → Shared → Prop} (K : FmOk hb fm) (I : Inv prog w hb fm s σ Ow m) (hv : canStore fm.S x = true) (hown : fm.own = true)
    (h : ∀ h' tk m' k, k ∈ fm.Kb → Heap.SameBut k s.heap h' → Al h' k → h'.Ns fm.env.locals m' → (∀ y c, fm.env.cells.lookup y = some c → ∃ u, h'.IsCell c u) → HasVar fm.env m' h' x v →
      (∀ y u, y ≠ x → HasVar fm.env m s.heap y u → HasVar fm.env m' h' y u) → Q () { s with heap := h', toks := tk }) :
    wpAny (model prog w) A (storeName fm.env x v) Q Fl s := by
  have hp : (fm.env.scope.kind == .class || (fm.env.scope.kind == .module && fm.env.locals != fm.env.globals)) = false := by rw [K.kind]; rfl
  simp only [canStore, Bool.or_eq_true, beq_iff_eq] at hv
  rcases hv with hv | hv
  · refine wpAny_storeName_local (K.loc x hv) I.ns (fun h' hns hs => ?_) hp
    have hal : Al h' fm.env.locals := let ⟨o, _, _, ho, _⟩ := hns; ⟨o, ho⟩
    refine h _ _ (fun y => if y = x then some v else m y) _ K.locK hs hal hns (fun y c e => ?_) (.inl ⟨K.loc x hv, by simp⟩) fun y u hyx h2 => hasVar_ns h2 (if_neg hyx) I.ns hs
    refine ea_1_1 (I.cells y c e) fun u hu => ?_
    exact ⟨u, hu.sameBut hs (Ne.symm (ns_ne_cell I.ns hu))⟩
  · have kx := K.cel x hv
    cases hc : fm.env.cells.lookup x with
    | none => obtain ⟨c, e⟩ := K.celHas x hv; rw [hc] at e; cases e
    | some c =>
      refine ea_1_1 (I.cells x c hc) fun u hu => ?_
      have hcK := K.celK hown x c hc
      refine wpAny_storeName_cell K.kind kx hc hu fun h' hcell hs => ?_
      have hal : Al h' c := let ⟨o, ho, _⟩ := hcell; ⟨o, ho⟩
      have hLc := ns_ne_cell I.ns hu
      refine h _ s.toks m c hcK hs hal (I.ns.sameBut hs hLc) (fun y c' e => ?_) (.inr ⟨.inl kx, c, hc, hcell⟩) fun y u' hyx h2 => h2.keeps fun c' hc' o e => (hs.2 c' fun q => hyx (K.celInj y x c (q ▸ hc') hc)).trans e
      by_cases q : c' = c
      · exact ⟨_, q ▸ hcell⟩
      · refine ea_1_1 (I.cells y c' e) fun u' hu' => ?_
        exact ⟨u', hu'.sameBut hs q⟩
theorem store_ok {A : Around} {i : Nat} {p : PV} {x : Str} {v : Value} {Q : Unit → Shared → Prop} (K : FmOk hb fm) (I : Inv prog w hb fm s σ Ow m) (hn : fm.names[i]? = some x) (hv : canStore fm.S x = true) (hown : fm.own = true)
    (hr : RepV prog w s.heap (fm.X Ow) v p) (h : ∀ s' m', Inv prog w hb fm s' (σ.set i p) Ow m' → Keep (fun a => a ∈ fm.Kb) s s' → Q () s') :
    wpAny (model prog w) A (storeName fm.env x v) Q Fl s := by
  refine store_core K I hv hown fun h' tk m' k hk hs hal hns hcells hx hoth => ?_
  have kp := touch_keep (tk := tk) hk hs hal
  have hkb : ∀ b, Al hb b ∨ fm.Pc b → b ≠ k := fun b hb' q => by
    rcases hb' with ⟨o, e⟩ | hb'
    · exact K.newK _ hk (q ▸ K.hb0 b o e)
    · exact K.newK _ hk (q ▸ (K.xb b (K.pcX b hb')).1)
  refine h _ m' ?_ kp
  refine ⟨fun b o e => ?_, I.gens, hns, fun a ha => kp.al a (I.alK a ha), fun a ha => kp.al a (I.alO a ha), fun a ha => kp.al a (I.al0 a ha), I.newO, I.disj, hcells, fun j q e => ?_, fun j ov e => ?_, I.tSt _ _ I.tab fun b o hb' e => (hs.2 b (hkb b hb')).trans e, I.tSt⟩
  · exact (hs.2 b fun q => K.newK _ hk (q ▸ K.hb0 b o e)).trans (I.hbk b o e)
  · rcases St.get_set e with ⟨rfl, rfl⟩ | ⟨ne, e⟩
    · exact ⟨x, v, hn, hx, hr.mono (touch_rep hk hs) fun Z Z q => q⟩
    · refine ea_2_3 (I.vars j q e) fun y u h1 h2 h3 => ?_
      have hyx : y ≠ x := fun q => ne (nodup_idx K.nodup (q ▸ h1) hn)
      exact ⟨y, u, h1, hoth y u hyx h2, h3.mono (touch_rep hk hs) fun Z Z q => q⟩
  · refine ea_0_2 (St.ow_set e) fun ne e => ?_
    refine ea_2_3 (I.own j ov e) fun y a h1 h2 h3 => ?_
    have hyx : y ≠ x := fun q => ne (nodup_idx K.nodup (q ▸ h1) hn)
    exact ⟨y, a, h1, hoth y _ hyx h2, touch_own I.disj hk hs h3⟩
theorem St.get_setOw {σ : St} {i j : Nat} {o : OV} {q : PV} (h : (σ.setOw i o).get j = some q) : j ≠ i ∧ σ.get j = some q := by
  simp only [St.get, St.setOw, List.getD_eq_getElem?_getD, List.getElem?_set] at h
  by_cases e : i = j
  · subst e
    by_cases l : i < σ.vars.length <;> simp [l] at h
  · refine ⟨fun q => e q.symm, ?_⟩
    simpa [e, St.get, List.getD_eq_getElem?_getD] using h
theorem storeOwn_ok {A : Around} {i : Nat} {ov : OV} {x : Str} {a : Addr} {Q : Unit → Shared → Prop} (K : FmOk hb fm) (I : Inv prog w hb fm s σ Ow m) (hn : fm.names[i]? = some x) (hv : canStore fm.S x = true) (hown : fm.own = true)
    (hr : OwnRep s.heap (fm.X Ow) Ow a ov) (h : ∀ s' m', Inv prog w hb fm s' (σ.setOw i ov) Ow m' → Keep (fun a => a ∈ fm.Kb) s s' → Q () s') :
    wpAny (model prog w) A (storeName fm.env x (.ref a)) Q Fl s := by
  refine store_core K I hv hown fun h' tk m' k hk hs hal hns hcells hx hoth => ?_
  have kp := touch_keep (tk := tk) hk hs hal
  have hkb : ∀ b, Al hb b ∨ fm.Pc b → b ≠ k := fun b hb' q => by
    rcases hb' with ⟨o, e⟩ | hb'
    · exact K.newK _ hk (q ▸ K.hb0 b o e)
    · exact K.newK _ hk (q ▸ (K.xb b (K.pcX b hb')).1)
  refine h _ m' ?_ kp
  refine ⟨fun b o e => ?_, I.gens, hns, fun a ha => kp.al a (I.alK a ha), fun a ha => kp.al a (I.alO a ha), fun a ha => kp.al a (I.al0 a ha), I.newO, I.disj, hcells, fun j q e => ?_, fun j ov' e => ?_, I.tSt _ _ I.tab fun b o hb' e => (hs.2 b (hkb b hb')).trans e, I.tSt⟩
  · exact (hs.2 b fun q => K.newK _ hk (q ▸ K.hb0 b o e)).trans (I.hbk b o e)
  · refine ea_0_2 (St.get_setOw e) fun ne e => ?_
    refine ea_2_3 (I.vars j q e) fun y u h1 h2 h3 => ?_
    have hyx : y ≠ x := fun q => ne (nodup_idx K.nodup (q ▸ h1) hn)
    exact ⟨y, u, h1, hoth y u hyx h2, h3.mono (touch_rep hk hs) fun Z Z q => q⟩
  · have e' : some (i, ov) = some (j, ov') := e
    cases e'
    exact ⟨x, a, hn, hx, touch_own I.disj hk hs hr⟩
noncomputable def Fm.excl (fm : Fm) (c : Addr) : Fm := { fm with Xb := fun a => fm.Xb a ∨ a = c, A0 := fun a => fm.A0 a ∨ a = c }
theorem Fm.X_excl {fm : Fm} {c : Addr} {Ow : List Addr} {a : Addr} : (fm.excl c).X Ow a ↔ fm.X Ow a ∨ a = c := by
  constructor
  · rintro ((h | h) | h)
    · exact .inl (.inl h)
    · exact .inr h
    · exact .inl (.inr h)
  · rintro ((h | h) | h)
    · exact .inl (.inl h)
    · exact .inr h
    · exact .inl (.inr h)
theorem FmOk.excl (K : FmOk hb fm) (I : Inv prog w hb fm s σ Ow m) {c : Addr} (hc : ¬ Al s.heap c) : FmOk hb (fm.excl c) where
  kind := K.kind
  globals := K.globals
  builtins := K.builtins
  loc := K.loc
  glo := K.glo
  cel := K.cel
  fre := K.fre
  locK := K.locK
  hb0 := fun b o e => .inl (K.hb0 b o e)
  xb := fun a h => by
    rcases h with h | h
    · exact ⟨.inl (K.xb a h).1, (K.xb a h).2⟩
    · exact ⟨.inr h, fun ⟨o, e⟩ => hc (h ▸ ⟨o, I.hbk _ _ e⟩)⟩
  celK := K.celK
  celHas := K.celHas
  celInj := K.celInj
  nodup := K.nodup
  newK := fun a h q => by
    rcases q with q | q
    · exact K.newK a h q
    · exact hc (q ▸ I.alK a h)
  pcX := fun a h => .inl (K.pcX a h)
theorem Inv.grow {s' : Shared} {as : List Addr} {c : Addr} (K : FmOk hb fm) (I : Inv prog w hb fm s σ Ow m) (x : Ext s s') (hc : ¬ Al s.heap c) (hc' : Al s'.heap c) (hca : c ∉ as) (ha : ∀ a ∈ as, ¬ Al s.heap a ∧ Al s'.heap a) :
    Inv prog w hb (fm.excl c) s' σ (as ++ Ow) m where
  hbk := fun b o e => x.keep' b o (I.hbk b o e)
  gens := x.gens I.gens
  ns := I.ns.keeps x.keep'
  alK := fun a h => x.al a (I.alK a h)
  alO := fun a h => by
    rcases List.mem_append.mp h with h | h
    · exact (ha a h).2
    · exact x.al a (I.alO a h)
  al0 := fun a h => by
    rcases h with h | h
    · exact x.al a (I.al0 a h)
    · exact h ▸ hc'
  newO := fun a h q => by
    rcases List.mem_append.mp h with h | h
    · rcases q with q | q
      · exact (ha a h).1 (I.al0 a q)
      · exact hca (q ▸ h)
    · rcases q with q | q
      · exact I.newO a h q
      · exact hc (q ▸ I.alO a h)
  disj := fun a h q => by
    rcases List.mem_append.mp h with h | h
    · exact (ha a h).1 (I.alK a q)
    · exact I.disj a h q
  cells := fun y c h => let ⟨v, o, ho, hd⟩ := I.cells y c h; ⟨v, o, x.keep' _ _ ho, hd⟩
  vars := fun i p h => by
    refine ea_2_3 (I.vars i p h) fun y v h1 h2 h3 => ?_
    refine ⟨y, v, h1, h2.keeps fun Z Z o e => x.keep' _ o e, h3.mono (fun b o Z e => x.keep' b o e) fun a hal q => ?_⟩
    rcases Fm.X_excl.mp q with (q | q | q) | q
    · exact .inl q
    · exact .inr (.inl q)
    · rcases List.mem_append.mp q with q | q
      · exact absurd hal (ha a q).1
      · exact .inr (.inr q)
    · exact absurd (q ▸ hal) hc
  own := fun i ov h => by
    refine ea_2_3 (I.own i ov h) fun y a h1 h2 h3 => ?_
    have hx : ∀ b, Al s.heap b → (fm.excl c).X (as ++ Ow) b → fm.X Ow b := fun b hal q => by
      rcases Fm.X_excl.mp q with (q | q | q) | q
      · exact .inl q
      · exact .inr (.inl q)
      · rcases List.mem_append.mp q with q | q
        · exact absurd hal (ha b q).1
        · exact .inr (.inr q)
      · exact absurd (q ▸ hal) hc
    refine ⟨y, a, h1, h2.keeps fun Z Z o e => x.keep' _ o e, ?_⟩
    have hk := x.keep'
    cases ov with
    | lst xs => obtain ⟨h0, vs, n, e1, e2, e3⟩ := h3; exact ⟨List.mem_append.mpr (.inr h0), vs, n, e1, hk _ _ e2, e3.mono (fun b o Z e => hk b o e) hx⟩
    | dict m =>
      refine Classical.byContradiction fun hng => ?_
      obtain ⟨h0, g, ⟨o, es, ep, ho, q⟩, e2, e3⟩ := h3
      refine hng ?_
      exact ⟨List.mem_append.mpr (.inr h0), g, ⟨o, es, ep, hk _ _ ho, q⟩, e2, e3.of_same ho (hk _ _ ho)⟩
    | tab rows =>
      refine Classical.byContradiction fun hng => ?_
      obtain ⟨h0, vs, n, as', e1, e2, e3, e4, e5, e6, e7⟩ := h3
      refine hng ?_
      exact ⟨List.mem_append.mpr (.inr h0), vs, n, as', e1, hk _ _ e2, e3, e4, e5, fun r hr => List.mem_append.mpr (.inr (e6 r hr)), e7.mono (fun r Z o e => hk r o e) (fun b o Z e => hk b o e) hx⟩
  tab := I.tSt _ _ I.tab fun b o Z e => x.keep' b o e
  tSt := I.tSt
theorem Inv.letGo' {c : Addr} {h' : Heap} {tk : Nat} (K' : FmOk hb (fm.excl c)) (hown : fm.own = true) (I : Inv prog w hb (fm.excl c) s σ Ow m) (hcA : ¬ fm.A0 c) (hpA : ∀ a, fm.Pc a → fm.A0 a) (kp : ∀ b o, b ≠ c → s.heap.get? b = some o → h'.get? b = some o) :
    Inv prog w hb fm { s with heap := h', toks := tk } σ Ow m := by
  have hcO : ∀ a ∈ Ow, a ≠ c := fun a h q => I.newO a h (.inr q)
  have hcK : ∀ a ∈ fm.Kb, a ≠ c := fun a h q => K'.newK a h (.inr q)
  have al : ∀ b, b ≠ c → Al s.heap b → Al h' b := fun b hb' ⟨o, e⟩ => ⟨o, kp b o hb' e⟩
  have hpc : ∀ b, Al hb b ∨ fm.Pc b → b ≠ c := fun b hb' q => by
    rcases hb' with ⟨o, e⟩ | hb'
    · exact (K'.xb c (.inr rfl)).2 (q ▸ ⟨o, e⟩)
    · exact hcA (q ▸ hpA b hb')
  have hX : ∀ b o, ¬ (fm.excl c).X Ow b → s.heap.get? b = some o → h'.get? b = some o := fun b o hb' e => kp b o (fun q => hb' (.inl (.inr q))) e
  have hXX : ∀ a, Al s.heap a → fm.X Ow a → (fm.excl c).X Ow a := fun a Z q => Fm.X_excl.mpr (.inl q)
  have hcell : ∀ y k, fm.env.cells.lookup y = some k → k ≠ c := fun y k e => hcK k (K'.celK hown y k e)
  refine ⟨fun b o e => kp b o (fun q => (K'.xb c (.inr rfl)).2 (q ▸ ⟨o, e⟩)) (I.hbk b o e), I.gens, I.ns.at' fun o e => kp _ o (hcK _ K'.locK) e, fun a h => al a (hcK a h) (I.alK a h), fun a h => al a (hcO a h) (I.alO a h),
    fun a h => al a (fun q => hcA (q ▸ h)) (I.al0 a (.inl h)), fun a h q => I.newO a h (.inl q), I.disj, fun y k e => ?_, fun i p e => ?_, fun i ov e => ?_, I.tSt _ _ I.tab fun b o hb' e => kp b o (hpc b hb') e, I.tSt⟩
  · refine ea_2_2 (I.cells y k e) fun v o ho hd => ?_
    exact ⟨v, o, kp _ _ (hcell y k e) ho, hd⟩
  · refine ea_2_3 (I.vars i p e) fun y v h1 h2 h3 => ?_
    exact ⟨y, v, h1, h2.keeps fun k hk o e => kp _ o (hcell y k hk) e, h3.mono hX hXX⟩
  · refine ea_2_3 (I.own i ov e) fun y a h1 h2 h3 => ?_
    refine ⟨y, a, h1, h2.keeps fun k hk o e => kp _ o (hcell y k hk) e, ?_⟩
    cases ov with
    | lst xs => obtain ⟨h0, vs, n, e1, e2, e3⟩ := h3; exact ⟨h0, vs, n, e1, kp _ _ (hcO a h0) e2, e3.mono hX hXX⟩
    | dict m =>
      refine Classical.byContradiction fun hng => ?_
      obtain ⟨h0, g, ⟨o, es, ep, ho, q⟩, e2, e3⟩ := h3
      refine hng ?_
      exact ⟨h0, g, ⟨o, es, ep, kp _ _ (hcO a h0) ho, q⟩, e2, e3.of_same ho (kp _ _ (hcO a h0) ho)⟩
    | tab rows =>
      refine Classical.byContradiction fun hng => ?_
      obtain ⟨h0, vs, n, as', e1, e2, e3, e4, e5, e6, e7⟩ := h3
      refine hng ?_
      exact ⟨h0, vs, n, as', e1, kp _ _ (hcO a h0) e2, e3, e4, e5, e6, e7.mono (fun r hr o e => kp r o (hcO r (e6 r hr)) e) hX hXX⟩
theorem Inv.letGo {c : Addr} {h' : Heap} (K' : FmOk hb (fm.excl c)) (hown : fm.own = true) (I : Inv prog w hb (fm.excl c) s σ Ow m) (hcA : ¬ fm.A0 c) (hpA : ∀ a, fm.Pc a → fm.A0 a) (hs : Heap.SameBut c s.heap h') : Inv prog w hb fm { s with heap := h' } σ Ow m :=
  Inv.letGo' (tk := s.toks) K' hown I hcA hpA fun b Z hb' e => (hs.2 b hb').trans e
end
theorem lim_line : lim ≤ sizeLine := by rw [sizeLine_eq]; decide
theorem okAll {x : Str} : PyData.strOk x = true ↔ ∀ c ∈ x.cps.toList, c < 0x110000 := by
  unfold PyData.strOk
  rw [Array.all_eq_true_iff_forall_mem]
  simp
theorem sOk_iff {x : Str} (h : sOk x = true) : SOk x := by
  simp only [sOk, Bool.and_eq_true, decide_eq_true_eq] at h
  exact ⟨h.1, Nat.le_trans h.2 lim_line⟩
theorem ok_append {x y : Str} (hx : PyData.strOk x = true) (hy : PyData.strOk y = true) : PyData.strOk (x ++ y) = true := by
  rw [okAll] at *
  intro c hc
  have e : (x ++ y).cps.toList = x.cps.toList ++ y.cps.toList := by
    show (x.cps ++ y.cps).toList = _
    simp
  rw [e] at hc
  rcases List.mem_append.mp hc with h | h
  · exact hx c h
  · exact hy c h
theorem ok_list {l : List Nat} (h : ∀ c ∈ l, c < 0x110000) : PyData.strOk (strOfList l) = true := by
  rw [okAll]; intro c hc; exact h c (by simpa [strOfList] using hc)
theorem ok_one {x : Str} (hx : PyData.strOk x = true) {c : Nat} (hc : c ∈ x.cps.toList) : PyData.strOk ⟨#[c]⟩ = true := by
  rw [okAll]; intro d hd
  have : d = c := by simpa using hd
  exact this ▸ okAll.mp hx c hc
theorem ok_ofString (s : String) : PyData.strOk (Str.ofString s) = true := by
  rw [okAll, Str.ofString_eq_toList]
  intro c hc
  have hc' : c ∈ s.toList.map Char.toNat := by simpa using hc
  refine ea_1_2 (List.mem_map.mp hc') fun ch Z hrf2 => ?_
  subst hrf2
  have h := ch.valid
  simp only [UInt32.isValidChar, Nat.isValidChar] at h
  show ch.val.toNat < _
  lia
section
variable {prog : Program} {w : World} {A : Around} {s : Shared} {X : Addr → Prop}
theorem repL_push {vs : List Value} {xs : List PyData} (o : Obj) (r : RepL s.heap X vs xs) : RepL (s.heap.push o) X vs xs := r.mono (fun Z Z Z e => Heap.get?_push_of_some o e) fun Z Z q => q
theorem rep_newList {vs : List Value} {xs : List PyData} {n : Nat} (hX : ∀ a, X a → Al s.heap a) (hs : vs.length ≤ sizeLine) (r : RepL s.heap X vs xs) :
    Rep (s.heap.push { cls := .type "list", data := .seq vs.toArray n }) X (.ref s.heap.objs.size) (.list xs) :=
  .list (fun q => al_size _ (hX _ q)) (by simpa using hs) ⟨_, Heap.get?_push_size _ rfl, rfl, _, rfl⟩ (by simpa using repL_push _ r)
theorem rep_newTuple {vs : List Value} {xs : List PyData} {n : Nat} (hX : ∀ a, X a → Al s.heap a) (hs : vs.length ≤ sizeLine) (r : RepL s.heap X vs xs) :
    Rep (s.heap.push { cls := .type "tuple", data := .seq vs.toArray n }) X (.ref s.heap.objs.size) (.tuple xs) :=
  .tuple (fun q => al_size _ (hX _ q)) (by simpa using hs) ⟨_, Heap.get?_push_size _ rfl, rfl, _, rfl⟩ (by simpa using repL_push _ r)
theorem ok_mul {x : Str} (hx : PyData.strOk x = true) (n : Int) : PyData.strOk (Txt.mul x n) = true := by
  unfold Txt.mul
  split
  · rw [okAll]; intro c hc; simp [Str.empty] at hc
  · split
    · exact hx
    · rw [okAll]
      have key : ∀ (k : Nat) (acc : Array Nat), (∀ c ∈ acc.toList, c < 0x110000) → ∀ c ∈ ((List.replicate k x.cps).foldl (· ++ ·) acc).toList, c < 0x110000 := by
        intro k
        induction k with
        | zero => intro acc h; simpa using h
        | succ k ih =>
          intro acc h
          rw [List.replicate_succ, List.foldl_cons]
          refine ih _ fun c hc => ?_
          rw [Array.toList_append] at hc
          rcases List.mem_append.mp hc with q | q
          · exact h c q
          · exact okAll.mp hx c q
      exact key _ _ (by simp)
theorem mulOk_small {x : Str} {n : Int} (h0 : 0 ≤ n) (h1 : n ≤ 1000) (hx : x.length ≤ 1000) : MulOk x n := by
  refine ⟨?_, fun h Z => ?_, fun h Z => ?_⟩
  · simp only [Bool.or_eq_false_iff, decide_eq_false_iff_not]; lia
  · have : (1000 : Int) ≤ (2 ^ 63 - 1) / n := by
      rw [Int.le_ediv_iff_mul_le (by lia)]
      lia
    lia
  · have : x.length * n.toNat ≤ 1000 * 1000 := Nat.mul_le_mul hx (by lia)
    show decide (x.length * n.toNat > sizeLine) = false
    rw [decide_eq_false_iff_not, sizeLine_eq]
    lia
theorem len_mul {x : Str} {n : Int} (h0 : 0 ≤ n) (h1 : n ≤ 1000) (hx : x.length ≤ 1000) : (Txt.mul x n).length ≤ sizeLine := by
  unfold Txt.mul
  split
  · exact Nat.zero_le _
  · split
    · rw [sizeLine_eq]; lia
    · have key : ∀ (k : Nat) (acc : Array Nat), ((List.replicate k x.cps).foldl (· ++ ·) acc).size = acc.size + k * x.cps.size := by
        intro k
        induction k with
        | zero => intro acc; simp
        | succ k ih => intro acc; rw [List.replicate_succ, List.foldl_cons, ih, Array.size_append, Nat.succ_mul]; lia
      show ((List.replicate n.toNat x.cps).foldl (· ++ ·) #[]).size ≤ _
      rw [key, sizeLine_eq]
      have : n.toNat * x.cps.size ≤ 1000 * 1000 := Nat.mul_le_mul (by lia) hx
      simp; lia
set_option maxHeartbeats 4000000 in
theorem binD_ok {op : BOp} {a b : Value} {x y : PyData} {p : PV} (h : binop op (.d x) (.d y) = some p) (ra : Rep s.heap X a x) (rb : Rep s.heap X b y)
    (hX : ∀ a, X a → Al s.heap a) : wpAny (model prog w) A (binaryOp (opOf op) a b) (fun v s' => Ext s s' ∧ RepV prog w s'.heap X v p) Fl s := by
  cases x with
  | int i =>
    cases y with
    | int j =>
      refine Rep.intE _ ra fun t => ?_
      refine Rep.intE _ rb fun u => ?_
      cases op with
      | add => cases h; exact add_int ⟨Ext.toks, .int _ _⟩
      | sub => cases h; exact sub_int ⟨Ext.toks, .int _ _⟩
      | mul => exact nn h
      | mod =>
        have h : (if j = 0 then Option.none else some (PV.d (.int (i.fmod j)))) = some p := h
        split at h
        · exact nn h
        · rename_i hb
          cases h
          exact mod_int hb ⟨Ext.toks, .int _ _⟩
    | _ => exact nn h
  | str x =>
    cases y with
    | str y =>
      refine Rep.strE _ ra fun t hx => ?_
      refine Rep.strE _ rb fun u hy => ?_
      cases op with
      | add =>
        have h : (if x.length + y.length ≤ lim then some (PV.d (.str (x ++ y))) else Option.none) = some p := h
        split at h
        · rename_i hl
          cases h
          exact add_str (fun t' tk => ⟨Ext.toks, .str _ _ ⟨ok_append hx.1 hy.1, by rw [Str.length_append]; exact Nat.le_trans hl lim_line⟩⟩) (Nat.le_trans hl lim_line)
        · exact nn h
      | _ => exact nn h
    | int n =>
      refine Rep.strE _ ra fun t hx => ?_
      refine Rep.intE _ rb fun u => ?_
      cases op with
      | mul =>
        have h : (if 0 ≤ n ∧ n ≤ 1000 ∧ x.length ≤ 1000 then some (PV.d (.str (Txt.mul x n))) else Option.none) = some p := h
        split at h
        · rename_i hl
          cases h
          exact SB.mul (mulOk_small hl.1 hl.2.1 hl.2.2) fun t' k => ⟨Ext.toks, .str _ _ ⟨ok_mul hx.1 _, len_mul hl.1 hl.2.1 hl.2.2⟩⟩
        · exact nn h
      | _ => exact nn h
    | _ => exact nn h
  | list xs =>
    cases y with
    | list ys =>
      refine Rep.listE _ ra fun a1 vs hna hsa hga hla => ?_
      refine Rep.listE _ rb fun a2 ws hnb hsb hgb hlb => ?_
      cases op with
      | add =>
        have h : (if xs.length + ys.length ≤ lim then some (PV.d (.list (xs ++ ys))) else Option.none) = some p := h
        split at h
        · rename_i hl
          cases h
          have e1 := hla.length
          have e2 := hlb.length
          simp only [Array.length_toList] at e1 e2
          have hz : vs.size + ws.size ≤ sizeLine := by have := lim_line; lia
          refine Classical.byContradiction fun hng => ?_
          obtain ⟨⟨cls, dd, data, sl⟩, g1, hc, n, hd⟩ := hga
          refine hng ?_
          refine Classical.byContradiction fun hng => ?_
          obtain ⟨⟨cls2, dd2, data2, sl2⟩, g2, hc2, n2, hd2⟩ := hgb
          refine hng ?_
          simp only at hc hd hc2 hd2
          subst hc hd hc2 hd2
          refine concat_meets ⟨_, g1, rfl⟩ ⟨_, g2, rfl⟩ noFill_list_add seq_list_add PySem.F.slot_list_add PySem.F.entry_list_add (PySem.F.args_list_add_2 _ _) (list_addW _ _ vs ws n n2 dd dd2 sl sl2 hz) ⟨g1, g2, ?_⟩
          refine ⟨Ext.push _ (tk := s.toks), ?_⟩
          have := rep_newList (n := 0) hX (by simpa using hz) (hla.append hlb)
          rw [show (vs.toList ++ ws.toList).toArray = vs ++ ws by simp] at this
          exact this
        · exact nn h
      | _ => exact nn h
    | _ => exact nn h
  | _ => exact nn h
theorem binop_ok {op : BOp} {o : Operator} {a b : Value} {x y p : PV} (ho : opOk op o = true) (h : binop op x y = some p) (ra : RepV prog w s.heap X a x) (rb : RepV prog w s.heap X b y)
    (hX : ∀ a, X a → Al s.heap a) : wpAny (model prog w) A (binaryOp o a b) (fun v s' => Ext s s' ∧ RepV prog w s'.heap X v p) Fl s := by
  rw [of_decide_eq_true ho]
  cases x with
  | d x => cases y with
    | d y => exact binD_ok h ra rb hX
    | _ => exact nn h
  | _ => exact nn h
theorem cmpL_ok {b r : Bool} {p : Prop} [Decidable p] (h : (if p then some b else Option.none) = some r) : p ∧ b = r := by
  split at h
  · rename_i q; exact ⟨q, Option.some.inj h⟩
  · exact nn h
set_option maxHeartbeats 4000000 in
theorem cmpD_ok {op : COp} {a b : Value} {x y : PyData} {r : Bool} (h : cmpop op (.d x) (.d y) = some r) (ra : Rep s.heap X a x) (rb : Rep s.heap X b y)
    (hu : A.units + 100 ≤ cLine) : wpAny (model prog w) A (compareOp (copOf op) a b) (fun v s' => Ext s s' ∧ v = .bool r) Fl s := by
  cases x with
  | int i =>
    cases y with
    | int j =>
      refine Rep.intE _ ra fun t => ?_
      refine Rep.intE _ rb fun u => ?_
      cases op with
      | eq => cases h; exact eq_int ⟨Ext.refl _, by congr 1⟩
      | ne => cases h; exact ne_int ⟨Ext.refl _, by congr 1⟩
      | lt => cases h; exact lt_int ⟨Ext.refl _, rfl⟩
      | le => cases h; exact le_int ⟨Ext.refl _, rfl⟩
      | gt => cases h; exact gt_int ⟨Ext.refl _, rfl⟩
      | ge => cases h; exact ge_int ⟨Ext.refl _, rfl⟩
      | isin => exact nn h
    | _ => exact nn h
  | str x =>
    cases y with
    | str y =>
      refine Rep.strE _ ra fun t hx => ?_
      refine Rep.strE _ rb fun u hy => ?_
      cases op with
      | eq => cases h; exact eq_str ⟨Ext.refl _, by congr 1⟩
      | ne => cases h; exact ne_str ⟨Ext.refl _, by congr 1⟩
      | isin => cases h; exact SB.contains ⟨Ext.refl _, rfl⟩
      | _ => exact nn h
    | _ => exact nn h
  | list xs =>
    cases y with
    | list ys =>
      refine ea_1_1 (Rep.reads ra) fun as qa => ?_
      refine ea_1_1 (Rep.reads rb) fun bs qb => ?_
      cases op with
      | eq =>
        refine ea_0_2 (cmpL_ok h) fun hd hrf1 => ?_
        subst hrf1
        exact SeqAt.compareEq_reads qa qb (Rep.canLay ra) (Rep.canLay rb) (by simp only [PyData.depth]; lia) ⟨Ext.refl _, by simp [PyData.eqv]⟩
      | ne =>
        refine ea_0_2 (cmpL_ok h) fun hd hrf1 => ?_
        subst hrf1
        exact SeqAt.compareNe_reads qa qb (Rep.canLay ra) (Rep.canLay rb) (by simp only [PyData.depth]; lia) ⟨Ext.refl _, by simp [PyData.eqv]⟩
      | _ => exact nn h
    | _ => exact nn h
  | _ => exact nn h
theorem cmpop_ok {op : COp} {o : CmpOp} {a b : Value} {x y : PV} {r : Bool} (ho : copOk op o = true) (h : cmpop op x y = some r) (ra : RepV prog w s.heap X a x) (rb : RepV prog w s.heap X b y)
    (hu : A.units + 100 ≤ cLine) : wpAny (model prog w) A (compareOp o a b) (fun v s' => Ext s s' ∧ v = .bool r) Fl s := by
  rw [of_decide_eq_true ho]
  cases x with
  | d x => cases y with
    | d y => exact cmpD_ok h ra rb hu
    | di m =>
      cases x with
      | int k =>
        refine Rep.intE _ ra fun t => ?_
        cases op with
        | isin =>
          cases h
          refine ea_2_4 (rb) fun d g hrf2 hn hm hg => ?_
          subst hrf2
          refine wpAny_in_intMap hm ⟨Ext.toks, ?_⟩
          have := hg k
          split at this
          · rename_i e; rw [this, e]; rfl
          · rename_i e; obtain ⟨t, q⟩ := this; rw [q, e]; rfl
        | _ => exact nn h
      | _ => exact nn h
    | ds m =>
      cases x with
      | str k =>
        refine Rep.strE _ ra fun t hx => ?_
        cases op with
        | isin =>
          cases h
          refine ea_2_5 (rb) fun d g hrf2 hn hsys hm hg => ?_
          subst hrf2
          refine wpAny_in_of (knd := strKind prog w) (k := k) (strKind_is prog w k t) hsys hm ⟨Ext.toks, ?_⟩
          have := hg k
          split at this
          · rename_i e; rw [this, e]; rfl
          · rename_i e; obtain ⟨_, t, q⟩ := this; rw [q, e]; rfl
        | _ => exact nn h
      | _ => exact nn h
  | _ => exact nn h
theorem pidx_seq {α : Type} {xs : List α} {k : Int} {y : α} (h : pidx xs k = some y) : ∃ j, seqIndex? k xs.length = some j ∧ xs[j]? = some y := by
  unfold pidx at h
  unfold seqIndex?
  by_cases hk : k < 0
  · simp only [hk, if_true] at h ⊢
    split at h
    · cases h
    · obtain ⟨hl, _⟩ := List.getElem?_eq_some_iff.mp h
      refine ⟨_, ?_, h⟩
      rw [if_pos]
      simp only [Bool.and_eq_true, decide_eq_true_eq]
      lia
  · simp only [hk, if_false] at h ⊢
    obtain ⟨hl, _⟩ := List.getElem?_eq_some_iff.mp h
    refine ⟨_, ?_, h⟩
    rw [if_pos]
    simp only [Bool.and_eq_true, decide_eq_true_eq]
    lia
theorem seq_bounds {k : Int} {n j : Nat} (h : seqIndex? k n = some j) : -(n : Int) ≤ k ∧ k < n ∧ j = (if k < 0 then k + n else k).toNat := by
  simp only [seqIndex?] at h
  generalize hj : (if k < 0 then k + (n : Int) else k) = jj at h ⊢
  by_cases q : (decide (0 ≤ jj) && decide (jj < n)) = true
  · rw [if_pos q] at h
    simp only [Bool.and_eq_true, decide_eq_true_eq] at q
    cases h
    refine ⟨?_, ?_, rfl⟩ <;> (split at hj <;> lia)
  · rw [if_neg q] at h; cases h
theorem subscripted_plain {k : Expr} (hk : notSlice k = true) (o i : Value) : subscripted k false o i = operate [o, i] (getItem o i) := by
  cases k <;> first | rfl | exact absurd hk Bool.false_ne_true
theorem getItem_rep {a : Addr} {vs : Array Value} {xs : List PyData} {k : Int} {t : Tok} {y : PyData} (hs : vs.size ≤ sizeLine) (hL : s.heap.IsList a vs) (hl : RepL s.heap X vs.toList xs)
    (h : pidx xs k = some y) {Q : Value → Shared → Prop} (hQ : ∀ v, Rep s.heap X v y → Q v s) : wpAny (model prog w) A (getItem (.ref a) (.int k t)) Q Fl s := by
  refine ea_1_2 (pidx_seq h) fun j hj hy => ?_
  refine ea_0_3 (seq_bounds hj) fun b1 b2 hrf2 => ?_
  subst hrf2
  refine ea_1_2 (hl.get hy) fun v hv r => ?_
  have e := hl.length
  simp only [Array.length_toList] at e
  rw [sizeLine_eq] at hs
  by_cases hk : k < 0
  · rw [if_pos hk] at hv
    exact wpAny_getItem_list_neg hL hk (by lia) (by lia) (by simpa [e] using hv) (hQ v r)
  · rw [if_neg hk] at hv
    exact wpAny_getItem_list hL (by lia) (by lia) (by simpa using hv) (hQ v r)
set_option maxHeartbeats 4000000 in
theorem idxop_ok {kx vx : Expr} {a b : Value} {x y p : PV} (hk : notSlice kx = true) (h : idxop x y = some p) (ra : RepV prog w s.heap X a x) (rb : RepV prog w s.heap X b y) :
    wpAny (model prog w) A (subscriptTail vx kx a b) (fun v s' => Ext s s' ∧ RepV prog w s'.heap X v p) Fl s := by
  cases y with
  | d y =>
    cases x with
    | d x =>
      cases y with
      | int k =>
        refine Rep.intE _ rb fun u => ?_
        cases x with
        | list xs =>
          refine Rep.listE _ ra fun a vs hna hsa hga hla => ?_
          refine ea_1_2 (Option.map_eq_some_iff.mp (show (pidx xs k).map PV.d = some p from h)) fun q hq hrf2 => ?_
          subst hrf2
          exact tail_any hga.typeIs slot_list_getitem.lookup (getItem_rep hsa hga hla hq fun v r => ⟨Ext.refl _, r⟩) (subscripted_plain hk _ _)
        | tuple xs =>
          refine Rep.tupleE _ ra fun a vs hna hsa hL hla => ?_
          refine ea_1_2 (Option.map_eq_some_iff.mp (show (pidx xs k).map PV.d = some p from h)) fun q hq hrf2 => ?_
          subst hrf2
          refine ea_1_2 (pidx_seq hq) fun j hj hy => ?_
          refine ea_1_2 (hla.get hy) fun v hv r => ?_
          have e := hla.length
          simp only [Array.length_toList] at e
          have hb := seq_bounds hj
          rw [sizeLine_eq] at hsa
          refine tail_any hL.typeIs slot_tuple_getitem.lookup (getItem_tuple (k := k) hL (by lia) (by lia) (by rw [e]; exact hj) (by simpa using hv) ⟨Ext.refl _, r⟩) (subscripted_plain hk _ _)
        | str x =>
          refine Rep.strE _ ra fun t hx => ?_
          refine ea_1_2 (Option.map_eq_some_iff.mp (show (pidx x.cps.toList k).map (fun c => PV.d (.str ⟨#[c]⟩)) = some p from h)) fun c hc hrf2 => ?_
          subst hrf2
          refine ea_1_2 (pidx_seq hc) fun j hj hy => ?_
          have hb := seq_bounds hj
          have hz := hx.2
          rw [sizeLine_eq] at hz
          have hlen : x.cps.toList.length = x.length := by simp [Str.length]
          rw [hlen] at hj hb
          refine tail_any (typeIs_str s x t) slot_str_getitem.lookup (getItem_str (i := k) (c := c) ?_ ?_ ⟨Ext.toks, .str _ _ ⟨ok_one hx.1 (List.mem_of_getElem? hy), ?_⟩⟩) (subscripted_plain hk _ _)
          · simp only [Bool.or_eq_false_iff, decide_eq_false_iff_not]; lia
          · rw [hj]; simpa using hy
          · show 1 ≤ sizeLine; rw [sizeLine_eq]; decide
        | _ => exact nn h
      | _ => exact nn h
    | di m =>
      cases y with
      | int k =>
        refine Rep.intE _ rb fun u => ?_
        refine ea_2_4 (ra) fun d g hrf2 hn hm hg => ?_
        subst hrf2
        refine ea_1_2 (Option.map_eq_some_iff.mp (show (m.lookup k).map (fun v => PV.d (.int v)) = some p from h)) fun i hi hrf2 => ?_
        subst hrf2
        have := hg k
        rw [hi] at this
        refine ea_1_1 (this) fun t q => ?_
        exact tail_any hm.typeIs slot_dict_getitem.lookup (wpAny_getItem_intMap hm q ⟨Ext.toks, .int _ _⟩) (subscripted_plain hk _ _)
      | _ => exact nn h
    | ds m =>
      cases y with
      | str k =>
        refine Rep.strE _ rb fun t hx => ?_
        refine ea_2_5 (ra) fun d g hrf2 hn hsys hm hg => ?_
        subst hrf2
        refine ea_1_2 (Option.map_eq_some_iff.mp (show (m.lookup k).map (fun v => PV.d (.str v)) = some p from h)) fun i hi hrf2 => ?_
        subst hrf2
        have := hg k
        rw [hi] at this
        obtain ⟨hok, t', q⟩ := this
        exact tail_any hm.typeIs slot_dict_getitem.lookup (wpAny_getItem_of (knd := strKind prog w) (k := k) (strKind_is prog w k t) hm q ⟨Ext.toks, .str _ _ hok⟩) (subscripted_plain hk _ _)
      | _ => exact nn h
  | _ => exact nn h
theorem lenop_ok {a : Value} {x p : PV} (h : lenop x = some p) (ra : RepV prog w s.heap X a x) :
    wpAny (model prog w) A (call (.builtin "len") [a]) (fun v s' => Ext s s' ∧ RepV prog w s'.heap X v p) Fl s := by
  unfold lenop at h
  split at h
  · cases h
    refine Rep.listE _ ra fun Z Z hna hsa hga hla => ?_
    rw [sizeLine_eq] at hsa
    have e := hla.length
    simp only [Array.length_toList] at e
    refine Calls.call_len_list hga (by lia) ⟨Ext.toks, ?_⟩
    rw [e]; exact .int _ _
  · cases h
    refine Rep.tupleE _ ra fun Z Z hna hsa hga hla => ?_
    rw [sizeLine_eq] at hsa
    have e := hla.length
    simp only [Array.length_toList] at e
    refine len_tuple hga (by lia) ⟨Ext.toks, ?_⟩
    rw [e]; exact .int _ _
  · cases h
    refine Rep.strE _ ra fun t hx => ?_
    have hz := hx.2
    rw [sizeLine_eq] at hz
    exact P.len_str (by lia) ⟨Ext.toks, .int _ _⟩
  · cases h
end
theorem pick_range {α : Type} (xs : List α) (a : Nat) : ∀ c : Nat, (List.range c).filterMap (fun k => xs[a + k]?) = (xs.drop a).take c
  | 0 => by simp
  | c + 1 => by
    rw [List.range_succ, List.filterMap_append, pick_range xs a c, List.take_add_one]
    congr 1
    simp only [List.filterMap_cons, List.filterMap_nil, List.getElem?_drop]
    cases xs[a + c]? <;> rfl
theorem sliceRange_one (a b : Int) (h0 : 0 ≤ a) : sliceRange a b 1 = (List.range (b - a).toNat).map fun k => a.toNat + k := by
  unfold sliceRange
  have e : (if (1 : Int) > 0 then (if a < b then (b - a + 1 - 1) / 1 else 0) else (if a > b then (a - b - 1 - 1) / (-1) else 0)).toNat = (b - a).toNat := by
    rw [if_pos (by decide)]
    split
    · rw [Int.ediv_one]; lia
    · lia
  dsimp only
  rw [e]
  apply List.map_congr_left
  intro k _
  lia
noncomputable def lowOf (lo : Option Int) (n : Nat) : Int := match lo with | Option.none => 0 | some i => max 0 (min (if i < 0 then i + n else i) n)
noncomputable def highOf (hi : Option Int) (n : Nat) : Int := match hi with | Option.none => n | some i => max 0 (min (if i < 0 then i + n else i) n)
theorem bounds_one (lo hi : Option Int) (n : Nat) : sliceBounds lo hi Option.none n = (lowOf lo n, highOf hi n, 1) := by
  cases lo <;> cases hi <;> rfl
theorem mmN (j : Int) (n : Nat) : (max 0 (min j n)).toNat = min j.toNat n := by
  rcases Int.le_total j 0 with h | h
  · rw [Int.toNat_of_nonpos h, Int.max_eq_left (Int.le_trans (Int.min_le_left _ _) h), Nat.zero_min]; rfl
  · refine ea_1_1 (Int.eq_ofNat_of_zero_le h) fun m hrf1 => ?_
    subst hrf1
    rcases Nat.le_total m n with q | q
    · rw [Int.min_eq_left (Int.ofNat_le.mpr q), Int.max_eq_right h, Int.toNat_natCast, Nat.min_eq_left q]
    · rw [Int.min_eq_right (Int.ofNat_le.mpr q), Int.max_eq_right (Int.natCast_nonneg _), Int.toNat_natCast, Int.toNat_natCast, Nat.min_eq_right q]
theorem tsubN (a b : Int) (h : 0 ≤ a) : (b - a).toNat = b.toNat - a.toNat := by
  refine ea_1_1 (Int.eq_ofNat_of_zero_le h) fun m hrf1 => ?_
  subst hrf1
  exact Int.toNat_sub' b m
theorem lowOf_nn (lo : Option Int) (n : Nat) : 0 ≤ lowOf lo n := match lo with
  | Option.none => Int.le_refl 0
  | some _ => Int.le_max_left _ _
theorem lowOf_nat (lo : Option Int) (n : Nat) : (lowOf lo n).toNat = min (loN lo n) n := match lo with
  | Option.none => (Nat.zero_min n).symm
  | some v => mmN (if v < 0 then v + n else v) n
theorem highOf_nat (hi : Option Int) (n : Nat) : (highOf hi n).toNat = min (hiN hi n) n := match hi with
  | Option.none => (Nat.min_self n).symm
  | some v => mmN (if v < 0 then v + n else v) n
theorem drop_min {α : Type} (xs : List α) (l : Nat) : xs.drop (min l xs.length) = xs.drop l := by
  by_cases q : l ≤ xs.length
  · rw [Nat.min_eq_left q]
  · rw [Nat.min_eq_right (Nat.le_of_not_le q), List.drop_length, List.drop_eq_nil_of_le (Nat.le_of_not_le q)]
theorem take_min {α : Type} (xs : List α) (H L : Nat) : (xs.drop L).take (min H xs.length - min L xs.length) = (xs.drop L).take (H - L) := by
  by_cases q : L ≤ xs.length
  · rw [Nat.min_eq_left q, ← Nat.sub_min_sub_right, List.take_eq_take_iff, List.length_drop, Nat.min_assoc, Nat.min_self]
  · rw [List.drop_eq_nil_of_le (Nat.le_of_not_le q), List.take_nil, List.take_nil]
theorem picks {α : Type} (xs : List α) (lo hi : Option Int) : (sliceRange (lowOf lo xs.length) (highOf hi xs.length) 1).filterMap (fun i => xs[i]?) = pslice lo hi xs := by
  have hl := lowOf_nn lo xs.length
  rw [sliceRange_one _ _ hl, List.filterMap_map]
  have : (fun i => xs[i]?) ∘ (fun k => (lowOf lo xs.length).toNat + k) = fun k => xs[(lowOf lo xs.length).toNat + k]? := rfl
  rw [this, pick_range]
  unfold pslice
  rw [List.drop_take, tsubN _ _ hl, lowOf_nat, highOf_nat, drop_min, take_min]
theorem picks_whole {α : Type} (xs : List α) (lo hi : Option Int) (h : (sliceRange (lowOf lo xs.length) (highOf hi xs.length) 1).length = xs.length) : pslice lo hi xs = xs := by
  rw [← picks]
  have hl := lowOf_nn lo xs.length
  have hh : highOf hi xs.length ≤ xs.length := by unfold highOf; split <;> lia
  rw [sliceRange_one _ _ hl] at h ⊢
  rw [List.length_map, List.length_range] at h
  rw [List.filterMap_map]
  have : (fun i => xs[i]?) ∘ (fun k => (lowOf lo xs.length).toNat + k) = fun k => xs[(lowOf lo xs.length).toNat + k]? := rfl
  rw [this, pick_range, h]
  by_cases q : xs.length = 0
  · rw [List.eq_nil_of_length_eq_zero q]; simp
  · rw [show (lowOf lo xs.length).toNat = 0 by lia]; simp
theorem slicePick_eq (items : Array Value) (lo hi : Option Int) : slicePick items lo hi Option.none = (pslice lo hi items.toList).toArray := by
  unfold slicePick
  rw [bounds_one]
  congr 1
  have := picks items.toList lo hi
  simp only [Array.length_toList] at this
  rw [← this]
  congr 1
  funext i
  simp
theorem strPicks_eq (x : Str) (lo hi : Option Int) : (Builtin.Str.strSliceIndices lo hi 1 x.length).filterMap (x.cps[·]?) = pslice lo hi x.cps.toList := by
  have := picks x.cps.toList lo hi
  simp only [Array.length_toList] at this
  rw [← this]
  have e : Builtin.Str.strSliceIndices lo hi 1 x.length = sliceRange (lowOf lo x.cps.size) (highOf hi x.cps.size) 1 := by
    cases lo <;> cases hi <;> rfl
  rw [e]
  congr 1
  funext i
  simp
theorem pslice_len {α : Type} (lo hi : Option Int) (xs : List α) : (pslice lo hi xs).length ≤ xs.length := by
  unfold pslice
  simp only [List.length_drop, List.length_take]; lia
theorem pslice_mem {α : Type} {lo hi : Option Int} {xs : List α} {x : α} (h : x ∈ pslice lo hi xs) : x ∈ xs := List.mem_of_mem_take (List.mem_of_mem_drop h)
theorem RepL.pslice {h : Heap} {X : Addr → Prop} {vs : List Value} {ds : List PyData} (lo hi : Option Int) (r : RepL h X vs ds) : RepL h X (Mine.pslice lo hi vs) (Mine.pslice lo hi ds) := by
  unfold Mine.pslice
  rw [r.length]
  exact (r.take _).drop _
section
variable {prog : Program} {w : World} {A : Around} {s : Shared} {X : Addr → Prop}
theorem part_ok {v : Value} {p : PV} {k : Option Int} (h : part p = some k) (r : RepV prog w s.heap X v p) : ∃ q : Option (Int × Tok), v = partValue q ∧ q.map (·.1) = k ∧ IsPart v k := by
  unfold part at h
  split at h
  · cases h; cases r; exact ⟨Option.none, rfl, rfl, .none⟩
  · cases h
    cases r with | int _ t => exact ⟨some (_, t), rfl, rfl, .int _ t⟩
  · cases h
theorem slop_ok {lx hx : Option Expr} {ps : Pos} {vx : Expr} {a b c : Value} {x y z p : PV} (h : slop x y z = some p) (ra : RepV prog w s.heap X a x) (rb : RepV prog w s.heap X b y) (rc : RepV prog w s.heap X c z)
    (hX : ∀ a, X a → Al s.heap a) :
    wpAny (model prog w) A (subscriptTail vx (.Slice lx hx Option.none ps) a (.ref s.heap.objs.size)) (fun v s' => Ext s s' ∧ RepV prog w s'.heap X v p) Fl
      { s with heap := s.heap.push { cls := .type "slice", data := .fields #[b, c, .none] } } := by
  have x1 : Ext s { s with heap := s.heap.push { cls := .type "slice", data := .fields #[b, c, .none] } } := Ext.push _ (tk := s.toks)
  have hX1 : ∀ a, X a → Al (s.heap.push { cls := .type "slice", data := .fields #[b, c, .none] }) a := fun a q => x1.al a (hX a q)
  have hsl := Heap.IsSliceOf.new s.heap b c .none
  unfold slop at h
  split at h
  · refine Rep.listE _ ra fun l vs hna hsa hga hla => ?_
    refine ea_1_2 (Option.bind_eq_some_iff.mp h) fun lo hlo h => ?_
    refine ea_1_2 (Option.bind_eq_some_iff.mp h) fun hi hhi h => ?_
    cases h
    refine ea_1_3 (part_ok hlo rb) fun Z Z Z pl => ?_
    refine ea_1_3 (part_ok hhi rc) fun Z Z Z pu => ?_
    have hL : Heap.IsList (s.heap.push { cls := .type "slice", data := .fields #[b, c, .none] }) l vs := let ⟨o, ho, hr⟩ := hga; ⟨o, Heap.get?_push_of_some _ ho, hr⟩
    refine tail_any (s := { s with heap := _ }) hL.typeIs slot_list_getitem.lookup (wpAny_getItem_list_slice (s := { s with heap := _ }) hL hsl pl pu .none (by simp) ⟨?_, ?_⟩ hsa) rfl
    · exact x1.trans (Ext.push _ (tk := s.toks))
    · rw [slicePick_eq]
      refine rep_newList (s := { s with heap := _ }) hX1 ?_ (RepL.ext (s := s) (hla.pslice lo hi) x1)
      have := pslice_len lo hi vs.toList
      simp only [Array.length_toList] at this
      lia
  · rename Str => x
    refine Rep.strE _ ra fun t hx => ?_
    refine ea_1_2 (Option.bind_eq_some_iff.mp h) fun lo hlo h => ?_
    refine ea_1_2 (Option.bind_eq_some_iff.mp h) fun hi hhi h => ?_
    cases h
    refine ea_1_3 (part_ok hlo rb) fun q1 hrf1 e1 Z => ?_
    subst hrf1
    refine ea_1_3 (part_ok hhi rc) fun q2 hrf1 e2 Z => ?_
    subst hrf1
    have hs : Heap.IsSlice (s.heap.push { cls := .type "slice", data := .fields #[partValue q1, partValue q2, .none] }) s.heap.objs.size q1 q2 Option.none := ⟨_, Heap.get?_push_size _ rfl, rfl, rfl⟩
    have hp : slicePicked x q1 q2 Option.none = Builtin.Str.strSliceIndices lo hi 1 x.length := by unfold slicePicked; rw [e1, e2]; rfl
    have hsok : SOk (strOfList (Mine.pslice lo hi x.cps.toList)) := by
      refine ⟨ok_list fun c hc => okAll.mp hx.1 c (pslice_mem hc), ?_⟩
      have := pslice_len lo hi x.cps.toList
      have h2 := hx.2
      simp only [Array.length_toList] at this
      show (List.toArray _).size ≤ _
      simp only [List.size_toArray]
      exact Nat.le_trans this h2
    refine tail_any (s := { s with heap := _ }) (typeIs_str _ x t) slot_str_getitem.lookup (wpAny_getItem_str_slice (s := { s with heap := _ }) hs rfl ?_) rfl
    unfold sliceMade
    rw [hp]
    split
    · rename_i hw
      have hw' : (Builtin.Str.strSliceIndices lo hi 1 x.length).length = x.length := by simpa using hw
      refine ⟨x1, ?_⟩
      have : strOfList (Mine.pslice lo hi x.cps.toList) = x := by
        have hsub : Mine.pslice lo hi x.cps.toList = x.cps.toList := by
          apply picks_whole
          have e : Builtin.Str.strSliceIndices lo hi 1 x.length = sliceRange (lowOf lo x.cps.size) (highOf hi x.cps.size) 1 := by
            cases lo <;> cases hi <;> rfl
          rw [e] at hw'
          simp only [Array.length_toList]
          exact hw'
        rw [hsub]; simp [strOfList]
      rw [this]
      exact .str _ _ hx
    · rw [strPicks_eq]
      refine ⟨hsok.2, ?_⟩
      exact ⟨x1.trans Ext.toks, .str _ _ hsok⟩
  · cases h
end
section
variable {prog : Program} {w : World} {A : Around} {s : Shared} {X : Addr → Prop}
theorem max_ok {a b : Int} {t u : Tok} (hh : A.handled = none) : wpAny (model prog w) A (call (.builtin "max") [.int a t, .int b u]) (fun v s' => Ext s s' ∧ RepV prog w s'.heap X v (.d (.int (if b > a then b else a)))) Fl s := by
  refine max_two_ints hh fun h' tk hk => ⟨Ext.of hk, ?_⟩
  split <;> exact .int _ _
theorem min_ok {a b : Int} {t u : Tok} (hh : A.handled = none) : wpAny (model prog w) A (call (.builtin "min") [.int a t, .int b u]) (fun v s' => Ext s s' ∧ RepV prog w s'.heap X v (.d (.int (if b < a then b else a)))) Fl s := by
  refine min_two_ints hh fun h' tk hk => ⟨Ext.of hk, ?_⟩
  split <;> exact .int _ _
theorem abs_ok {a : Int} {t : Tok} : wpAny (model prog w) A (call (.builtin "abs") [.int a t]) (fun v s' => Ext s s' ∧ RepV prog w s'.heap X v (.d (.int (if a < 0 then -a else a)))) Fl s :=
  call_abs_int fun u tk => ⟨Ext.toks, .int _ _⟩
theorem list_ok {v : Value} {xs : List PyData} (hX : ∀ a, X a → Al s.heap a) (r : Rep s.heap X v (.list xs)) : wpAny (model prog w) A (call (.type "list") [v]) (fun v s' => Ext s s' ∧ RepV prog w s'.heap X v (.d (.list xs))) Fl s := by
  refine Rep.listE _ r fun a vs hna hsa hga hla => ?_
  refine Classical.byContradiction fun hng => ?_
  obtain ⟨o, ho, hc, n, hd⟩ := hga
  refine hng ?_
  refine call_list_seq (hsz := hsa) a (.inl rfl) ho hc hd fun h' c' hk hD => ⟨Ext.of (tk := s.toks) hk, ?_⟩
  exact .list (fun q => al_size _ (hX _ q)) hsa ⟨_, hD, rfl, _, rfl⟩ (hla.mono (fun b o Z e => hk b o e) fun Z Z q => q)
theorem strsAre_of {h : Heap} : ∀ {vs : List Value} {xs : List PyData} {ss : List Str}, RepL h X vs xs → asStrs xs = some ss → StrsAre vs ss ∧ ∀ x ∈ ss, SOk x
  | _, _, ss, .nil, e => by
    cases e; exact ⟨.nil, by simp⟩
  | _, _, ss, .cons r rs, e => by
    cases r with
    | str x t hx =>
      refine ea_1_2 (Option.map_eq_some_iff.mp e) fun r' hr' hrf2 => ?_
      subst hrf2
      refine ea_0_2 (strsAre_of rs hr') fun h1 h2 => ?_
      refine ⟨.cons x t h1, fun y hy => ?_⟩
      rcases List.mem_cons.mp hy with rfl | hy
      · exact hx
      · exact h2 y hy
    | none => cases e
    | bool b => cases e
    | int i t => cases e
    | list => cases e
    | tuple => cases e
theorem concat_length : ∀ ss : List Str, (concatStr ss).length = (ss.map (·.length)).sum
  | [] => rfl
  | x :: r => by rw [concatStr, Str.length_append, concat_length r]; rfl
theorem concat_ok : ∀ {ss : List Str}, (∀ x ∈ ss, SOk x) → PyData.strOk (concatStr ss) = true
  | [], _ => by rw [okAll]; intro c hc; simp [concatStr, Str.empty] at hc
  | x :: r, h => ok_append (h x (.head _)).1 (concat_ok fun y hy => h y (.tail _ hy))
theorem str_append_empty (x : Str) : x ++ Str.empty = x := by
  apply Str.ext'
  show x.cps ++ #[] = x.cps
  simp
theorem empty_is : Str.ofString "" = Str.empty := by decide +kernel
theorem join_concat : ∀ ss : List Str, Txt.join (Str.ofString "") ss = concatStr ss := by
  intro ss
  show Builtin.Str.glued _ ss = _
  rw [StrLaws.glued_eq_join, empty_is]
  induction ss with
  | nil => rfl
  | cons x r ih =>
    cases r with
    | nil => rw [Str.join, concatStr, concatStr, str_append_empty]
    | cons y r =>
      show x ++ Str.empty ++ Str.join Str.empty (y :: r) = x ++ concatStr (y :: r)
      rw [str_append_empty, ih]
theorem join_ok {v : Value} {xs : List PyData} {ss : List Str} {t : Tok} (r : Rep s.heap X v (.list xs)) (hs : asStrs xs = some ss) (hl : (ss.map (·.length)).sum ≤ lim) :
    wpAny (model prog w) A (call (.builtin "str.join") [.str (Str.ofString "") t, v]) (fun v s' => Ext s s' ∧ RepV prog w s'.heap X v (.d (.str (concatStr ss)))) Fl s := by
  refine Rep.listE _ r fun a vs hna hsa hga hla => ?_
  refine ea_0_2 (strsAre_of hla hs) fun h1 h2 => ?_
  have h0 : (Str.ofString "").length = 0 := by rw [empty_is]; rfl
  have hlim : lim ≤ 16777216 := by decide
  refine join_list hga h1 (by rw [h0]; lia) fun t' k => ⟨Ext.toks, ?_⟩
  rw [join_concat]
  exact .str _ _ ⟨concat_ok h2, by rw [concat_length]; exact Nat.le_trans hl lim_line⟩
theorem repL_strs {h : Heap} : ∀ (l : List (Str × Tok)), (∀ x ∈ l.map (·.1), SOk x) → RepL h X (strValues l) ((l.map (·.1)).map .str)
  | [], _ => .nil
  | (x, t) :: r, hx => .cons (.str x t (hx x (.head _))) (repL_strs r fun y hy => hx y (.tail _ hy))
theorem join_part (sep : Str) : ∀ (ps : List Str) (p : Str), p ∈ ps → (∀ c ∈ p.cps.toList, c ∈ (Str.join sep ps).cps.toList) ∧ p.length ≤ (Str.join sep ps).length
  | [], _, h => by simp at h
  | [x], p, h => by
    have : p = x := by simpa using h
    subst this; exact ⟨fun c hc => hc, Nat.le_refl _⟩
  | x :: y :: r, p, h => by
    have e : (Str.join sep (x :: y :: r)) = x ++ sep ++ Str.join sep (y :: r) := rfl
    have ec : (Str.join sep (x :: y :: r)).cps.toList = x.cps.toList ++ sep.cps.toList ++ (Str.join sep (y :: r)).cps.toList := by
      rw [e]; show ((x.cps ++ sep.cps) ++ _).toList = _; simp
    rw [ec, e, Str.length_append, Str.length_append]
    rcases List.mem_cons.mp h with rfl | h
    · exact ⟨fun c hc => by simp [hc], by lia⟩
    · refine ea_0_2 (join_part sep (y :: r) p h) fun h1 h2 => ?_
      exact ⟨fun c hc => List.mem_append_right _ (h1 c hc), by lia⟩
open PySem.Builtin PySem.Builtin.Str in
theorem split_ok {x : Str} {t u : Tok} (hx : SOk x) (hl : x.length ≤ lim) (hX : ∀ a, X a → Al s.heap a) :
    wpAny (model prog w) A (call (.builtin "str.split") [.str x t, .str (Str.ofString "\n") u]) (fun v s' => Ext s s' ∧ RepV prog w s'.heap X v (.d (.list ((Txt.split x ⟨#[10]⟩).map .str)))) Fl s := by
  have ey : Str.ofString "\n" = ⟨#[10]⟩ := by decide +kernel
  rw [ey]
  have hcount := split_le x ⟨#[10]⟩
  have hparts : ∀ y ∈ Txt.split x ⟨#[10]⟩, SOk y := by
    intro y hy
    have hj := StrLaws.join_split x ⟨#[10]⟩
    refine ea_0_2 (join_part ⟨#[10]⟩ _ y hy) fun h1 h2 => ?_
    rw [hj] at h1 h2
    exact ⟨okAll.mpr fun c hc => okAll.mp hx.1 c (h1 c hc), Nat.le_trans h2 hx.2⟩
  have hlim : x.length + 2 ≤ sizeLine := by rw [sizeLine_eq]; have : lim = 1000000 := rfl; lia
  have one : Txt.split x ⟨#[10]⟩ = [x] → Ext s { s with heap := s.heap.push { cls := .type "list", data := .seq [Value.str x t].toArray } } ∧
      RepV prog w (s.heap.push { cls := .type "list", data := .seq [Value.str x t].toArray }) X (.ref s.heap.objs.size) (.d (.list ((Txt.split x ⟨#[10]⟩).map .str))) := fun e => by
    refine ⟨Ext.push _ (tk := s.toks), ?_⟩
    rw [e]
    exact rep_newList (n := 0) hX (by rw [sizeLine_eq]; simp) (.cons (.str x t hx) .nil)
  cases h1 : (decide (x.length < (⟨#[10]⟩ : Str).length) || decide (strKind x < strKind ⟨#[10]⟩))
  · cases hf : (occurrences x ⟨#[10]⟩ 0 x.length (x.length + 1)).isEmpty
    · have es : Txt.split x ⟨#[10]⟩ = partsBetween x (occurrences x ⟨#[10]⟩ 0 x.length (x.length + 1)) (⟨#[10]⟩ : Str).length :=
        (if_neg (ne_true_of_eq_false h1)).trans (if_neg (ne_true_of_eq_false hf))
      have hn : (partsBetween x (occurrences x ⟨#[10]⟩ 0 x.length (x.length + 1)) (⟨#[10]⟩ : Str).length).length ≤ sizeLine := by rw [← es]; lia
      refine call_meets PySem.F.slot_str_split (typeIs_str _ _ _) PySem.F.entry_str_split (PySem.F.args_str_split_2 _ _) (meets_str_split_sep x ⟨#[10]⟩ t u h1 rfl hf hx.2 hn) ?_
      show wants _ _ _ { s with toks := _, heap := s.heap.push { cls := .type "list", data := .seq (strsFrom s.toks (partsBetween x (occurrences x ⟨#[10]⟩ 0 x.length (x.length + 1)) (⟨#[10]⟩ : Str).length)).toArray } }
      rw [strsFrom_eq, ← es]
      refine ⟨Ext.push _, ?_⟩
      have e2 := numbered_texts s.toks (Txt.split x ⟨#[10]⟩)
      have hr := repL_strs (h := s.heap) (X := X) (numbered s.toks (Txt.split x ⟨#[10]⟩)) (by rw [e2]; exact hparts)
      rw [e2] at hr
      refine rep_newList (n := 0) hX ?_ hr
      have := hr.length
      rw [this, List.length_map]; lia
    · exact call_meets PySem.F.slot_str_split (typeIs_str _ _ _) PySem.F.entry_str_split (PySem.F.args_str_split_2 _ _) (meets_str_split_not_found x ⟨#[10]⟩ t u h1 rfl hf)
        (one ((if_neg (ne_true_of_eq_false h1)).trans (if_pos hf)))
  · exact call_meets PySem.F.slot_str_split (typeIs_str _ _ _) PySem.F.entry_str_split (PySem.F.args_str_split_2 _ _) (meets_str_split_cannot_occur x ⟨#[10]⟩ t u h1)
      (one (if_pos h1))
theorem lower_ok {x : Str} {t : Tok} (hs : sOk (Txt.lower x) = true) :
    wpAny (model prog w) A (call (.builtin "str.lower") [.str x t]) (fun v s' => Ext s s' ∧ RepV prog w s'.heap X v (.d (.str (Txt.lower x)))) Fl s := by
  have h := sOk_iff hs
  refine SC.lower ?_ ⟨Ext.toks, .str _ _ h⟩
  show decide ((Txt.lower x).length > sizeLine) = false
  rw [decide_eq_false_iff_not]
  exact Nat.not_lt.mpr h.2
end
noncomputable def biUsed : List (Str × Value) := [("len", .builtin "len"), ("max", .builtin "max"), ("min", .builtin "min"), ("abs", .builtin "abs"), ("any", .builtin "any"),
  ("list", .type "list"), ("range", .type "range"), ("type", .type "type"), ("int", .type "int")]
structure Gd (mg mb : Str → Option Value) (hb : Heap) : Prop where
  g : hb.Ns mainGlobals mg
  b : hb.Ns builtinsNs mb
  nolimit : hb.NoLimit
  bi : ∀ n v, (n, v) ∈ biUsed → mg n = Option.none ∧ mb n = some v
  fn : ∀ (i : Nat) (fn : Fn), fns[i]? = some fn → ∃ a o params body scope pm cd doc, mg fn.name = some (.ref a) ∧ hb.get? a = some o ∧ o.data = .func (Calls.docDef fn.name params body scope pm cd doc) ∧ hb.CodeRec cd fn.name ∧ chkFn fn params body scope = true ∧ ∀ vals : List Value, vals.length = fn.arity → bindArgs (Calls.docDef fn.name params body scope pm cd doc) ⟨vals, []⟩ = pure ((fn.names.take fn.arity).zip vals)
  gl : ∀ (k : Nat) (n : Str) (x : PyData), glUsed[k]? = some (n, x) → ∃ v, mg n = some v ∧ Rep hb (fun Z => False) v x
noncomputable def AOk (A : Around) (n : Nat) : Prop := A.handled = Option.none ∧ A.depth + 2 * n + 10 ≤ 900 ∧ A.units + 8 * n + 200 ≤ cLine
inductive RepVs (prog : Program) (w : World) (h : Heap) (X : Addr → Prop) : List Value → List PV → Prop
  | nil : RepVs prog w h X [] []
  | cons {v : Value} {vs : List Value} {p : PV} {ps : List PV} : RepV prog w h X v p → RepVs prog w h X vs ps → RepVs prog w h X (v :: vs) (p :: ps)
theorem RepVs.length {prog : Program} {w : World} {h : Heap} {X : Addr → Prop} : ∀ {vs : List Value} {ps : List PV}, RepVs prog w h X vs ps → vs.length = ps.length
  | _, _, .nil => rfl
  | _, _, .cons _ b => congrArg (· + 1) (RepVs.length b)
theorem RepVs.data {prog : Program} {w : World} {h : Heap} {X : Addr → Prop} : ∀ {vs : List Value} {ps : List PV} {xs : List PyData}, RepVs prog w h X vs ps → asData ps = some xs → RepL h X vs xs
  | _, _, _, .nil, e => by cases e; exact .nil
  | _, _, _, @RepVs.cons _ _ _ _ _ _ p _ r rs, e => by
    cases p with
    | d x => obtain ⟨ys, hy, rfl⟩ := Option.map_eq_some_iff.mp e; exact .cons r (RepVs.data rs hy)
    | di m => cases e
    | ds m => cases e
section
variable (prog : Program) (w : World) (mg : Str → Option Value) (hb : Heap) (n : Nat) (C : Nat → List PV → Option PV)
noncomputable def CallOk : Prop := ∀ (f : Nat) (fn : Fn) (args : List PV) (p : PV), f < 26 → fns[f]? = some fn → C f args = some p → ∀ (A : Around) (s : Shared) (X : Addr → Prop) (vs : List Value) (a : Addr), AOk A n →
  (∀ b o, hb.get? b = some o → s.heap.get? b = some o) → AllBare s.gens → (∀ a, X a → Al s.heap a ∧ ¬ Al hb a) → RepVs prog w s.heap X vs args → mg fn.name = some (.ref a) →
  wpAny (model prog w) A (call (.ref a) vs) (fun v s' => Ext s s' ∧ RepV prog w s'.heap X v p) Fl s
noncomputable def EOk (P : PE) : Prop := ∀ (fm : Fm) (A : Around) (s : Shared) (σ : St) (Ow : List Addr) (m : Str → Option Value) (e : Expr) (p : PV), FmOk hb fm → AOk A n → Inv prog w hb fm s σ Ow m →
  chk fm.S fm.names P e = true → pe C P σ = some p → wpAny (model prog w) A (eval e fm.env) (fun v s' => Ext s s' ∧ RepV prog w s'.heap (fm.X Ow) v p) Fl s
noncomputable def EsOk (P : PEs) : Prop := ∀ (fm : Fm) (A : Around) (s : Shared) (σ : St) (Ow : List Addr) (m : Str → Option Value) (es : List Expr) (pos : Pos) (ps : List PV), FmOk hb fm → AOk A n → Inv prog w hb fm s σ Ow m →
  chks fm.S fm.names P es = true → pes C P σ = some ps → wpAny (model prog w) A (spliced (backTo pos (starEach es fm.env))) (fun vs s' => Ext s s' ∧ RepVs prog w s'.heap (fm.X Ow) vs ps) Fl s
noncomputable def FsOk (P : PEs) : Prop := ∀ (fm : Fm) (A : Around) (s : Shared) (σ : St) (Ow : List Addr) (m : Str → Option Value) (es : List Expr) (ps : List PV) (ts : List Str) (out : Str), FmOk hb fm → AOk A n → Inv prog w hb fm s σ Ow m →
  chkF fm.S fm.names P es = true → pes C P σ = some ps → mapO textOf ps = some ts → SOk out → out.length + (ts.map (·.length)).sum ≤ lim →
  wpAny (model prog w) A (joinParts out (evalEach es fm.env)) (fun v s' => Ext s s' ∧ RepV prog w s'.heap (fm.X Ow) v (.d (.str (out ++ concatStr ts)))) Fl s
noncomputable def TOk (P : PE) : Prop := ∀ (fm : Fm) (A : Around) (s : Shared) (σ : St) (Ow : List Addr) (m : Str → Option Value) (e : Expr) (b : Bool), FmOk hb fm → AOk A n → Inv prog w hb fm s σ Ow m →
  chk fm.S fm.names P e = true → pt C P σ = some b → wpAny (model prog w) A (isTrue e fm.env (eval e fm.env)) (fun v s' => Ext s s' ∧ v = b) Fl s
noncomputable def AndOk (P : PEs) : Prop := ∀ (fm : Fm) (A : Around) (s : Shared) (σ : St) (Ow : List Addr) (m : Str → Option Value) (es : List Expr) (b : Bool), FmOk hb fm → AOk A n → Inv prog w hb fm s σ Ow m →
  chks fm.S fm.names P es = true → pAnd C P σ = some b → wpAny (model prog w) A (allTrue .And es fm.env) (fun v s' => Ext s s' ∧ v = b) Fl s
noncomputable def OrOk (P : PEs) : Prop := ∀ (fm : Fm) (A : Around) (s : Shared) (σ : St) (Ow : List Addr) (m : Str → Option Value) (es : List Expr) (b : Bool), FmOk hb fm → AOk A n → Inv prog w hb fm s σ Ow m →
  chks fm.S fm.names P es = true → pOr C P σ = some b → wpAny (model prog w) A (allTrue .Or es fm.env) (fun v s' => Ext s s' ∧ v = b) Fl s
end
section
variable {prog : Program} {w : World} {mg mb : Str → Option Value} {hb : Heap} {n : Nat} {C : Nat → List PV → Option PV}
theorem Inv.hX {fm : Fm} {s : Shared} {σ : St} {Ow : List Addr} {m : Str → Option Value} (I : Inv prog w hb fm s σ Ow m) (K : FmOk hb fm) : ∀ a, fm.X Ow a → Al s.heap a := fun Z h => I.alX K h
theorem ok_var (i : Nat) : EOk prog w hb n C (.var i) := by
  intro fm A s σ Ow m e p K hA I hc hp
  refine chk_var _ hc fun x pos h1 h2 => ?_
  exact load_ok K I h1 h2 hp fun v r => ⟨Ext.refl _, r⟩
theorem ok_none : EOk prog w hb n C .none := by
  intro fm A s σ Ow m e p K hA I hc hp
  refine chk_none _ hc fun k pos => ?_
  cases hp
  exact wpAny_Constant_none ⟨Ext.refl _, .none⟩
theorem ok_bool (b : Bool) : EOk prog w hb n C (.bool b) := by
  intro fm A s σ Ow m e p K hA I hc hp
  refine chk_bool _ hc fun k pos => ?_
  cases hp
  exact wpAny_Constant_bool ⟨Ext.refl _, .bool _⟩
theorem ok_int (i : Int) : EOk prog w hb n C (.int i) := by
  intro fm A s σ Ow m e p K hA I hc hp
  refine chk_int _ hc fun k pos => ?_
  cases hp
  exact wpAny_Constant_int ⟨Ext.toks, .int _ _⟩
theorem ok_str (x : Str) : EOk prog w hb n C (.str x) := by
  intro fm A s σ Ow m e p K hA I hc hp
  refine chk_str _ hc fun k pos hs => ?_
  cases hp
  exact wpAny_Constant_str ⟨Ext.toks, .str _ _ (sOk_iff hs)⟩
theorem ok_neg {a : PE} (ha : EOk prog w hb n C a) : EOk prog w hb n C (.neg a) := by
  intro fm A s σ Ow m e p K hA I hc hp
  refine chk_neg _ hc fun x pos h1 => ?_
  refine Classical.byContradiction fun hng => ?_
  refine eI hp fun i hi hp => ?_
  cases hp
  refine hng ?_
  refine wpAny_UnaryOp (wpAny_mono (ha fm A s σ Ow m x _ K hA I h1 hi) (fun v s₁ ⟨x1, r⟩ => ?_) fun Z Z q => q)
  refine Rep.intE _ r fun Z => ?_
  exact neg_int ⟨x1.trans Ext.toks, .int _ _⟩
theorem glob_ok (G : Gd mg mb hb) {fm : Fm} {A : Around} {s : Shared} {σ : St} {Ow : List Addr} {m : Str → Option Value} {x : Str} {v : Value} {pos : Pos} {Q : Value → Shared → Prop} (K : FmOk hb fm) (I : Inv prog w hb fm s σ Ow m)
    (hx : isGlob fm.S x = true) (hv : mg x = some v) (h : Q v s) : wpAny (model prog w) A (eval (.Name x pos) fm.env) Q Fl s := by
  simp only [isGlob, Bool.and_eq_true, beq_iff_eq, bne_iff_ne, ne_eq] at hx
  refine Calls.Name_function_global K.kind (K.glo x hx.1) (Calls.loadGlobal_global (mg := mg) ?_ hv h) (by simpa using hx.2)
  rw [K.globals]; exact G.g.keeps I.hbk
theorem built_ok (G : Gd mg mb hb) {fm : Fm} {A : Around} {s : Shared} {σ : St} {Ow : List Addr} {m : Str → Option Value} {x : Str} {v : Value} {pos : Pos} {Q : Value → Shared → Prop} (K : FmOk hb fm) (I : Inv prog w hb fm s σ Ow m)
    (hx : isGlob fm.S x = true) (hv : (x, v) ∈ biUsed) (h : Q v s) : wpAny (model prog w) A (eval (.Name x pos) fm.env) Q Fl s := by
  simp only [isGlob, Bool.and_eq_true, beq_iff_eq, bne_iff_ne, ne_eq] at hx
  refine ea_0_2 (G.bi x v hv) fun h1 h2 => ?_
  refine Calls.Name_function_global K.kind (K.glo x hx.1) (Calls.loadGlobal_builtin (mg := mg) (mb := mb) ?_ h1 ?_ h2 h) (by simpa using hx.2)
  · rw [K.globals]; exact G.g.keeps I.hbk
  · rw [K.builtins]; exact G.b.keeps I.hbk
theorem ok_glob (G : Gd mg mb hb) (k : Nat) : EOk prog w hb n C (.glob k) := by
  intro fm A s σ Ow m e p K hA I hc hp
  refine chk_glob _ hc fun x pos h1 h2 => ?_
  obtain ⟨⟨y, d⟩, hd, rfl⟩ := Option.map_eq_some_iff.mp hp
  rw [hd] at h1
  have e : y = x := by simpa using h1
  subst e
  refine ea_1_2 (G.gl k y d hd) fun v hv r => ?_
  exact glob_ok G K I h2 hv ⟨Ext.refl _, r.mono (fun b o Z e => I.hbk b o e) fun a ha q => I.xhb K q ha⟩
theorem chks_cons {S : Tab} {N : List Str} {a : PE} {as : PEs} {es : List Expr} (h : chks S N (.cons a as) es = true) : ∃ x xs, es = x :: xs ∧ notStar x = true ∧ chk S N a x = true ∧ chks S N as xs = true :=
  lc_ind (Q := fun es => ∃ x xs, es = x :: xs ∧ notStar x = true ∧ chk S N a x = true ∧ chks S N as xs = true) (fun x xs h => ⟨x, xs, rfl, (bb (bb h).1).1, (bb (bb h).1).2, (bb h).2⟩) es h
theorem chks_nil {S : Tab} {N : List Str} {es : List Expr} (h : chks S N .nil es = true) : es = [] := l0_ind (Q := fun l => l = []) (fun Z => rfl) es h
theorem starEach_plain {x : Expr} {xs : List Expr} {env : Env} (h : notStar x = true) : starEach (x :: xs) env = (false, eval x env) :: starEach xs env := by
  cases x <;> first | rfl | exact absurd h Bool.false_ne_true
theorem oks_nil : EsOk prog w hb n C .nil := by
  intro fm A s σ Ow m es pos ps K hA I hc hp
  rw [chks_nil hc]
  cases hp
  exact wpAny_items_nil ⟨Ext.refl _, .nil⟩
theorem oks_cons {a : PE} {as : PEs} (ha : EOk prog w hb n C a) (has : EsOk prog w hb n C as) : EsOk prog w hb n C (.cons a as) := by
  intro fm A s σ Ow m es pos ps K hA I hc hp
  refine ea_2_4 (chks_cons hc) fun x xs hrf2 h0 h1 h2 => ?_
  subst hrf2
  refine eDV hp fun p ps' hp1 hp2 hp => ?_
  cases hp
  refine wpAny_items_cons (wpAny_mono (ha fm A s σ Ow m x _ K hA I h1 hp1) (fun v s₁ ⟨x1, r1⟩ => ?_) fun Z Z q => q) (starEach_plain h0)
  refine wpAny_mono (has fm A s₁ σ Ow m xs pos _ K hA (I.ext x1) h2 hp2) (fun vs s₂ ⟨x2, r2⟩ => ?_) fun Z Z q => q
  exact ⟨x1.trans x2, .cons (r1.ext x2) r2⟩
theorem pes_len {σ : St} : ∀ {P : PEs} {es : List Expr} {S : Tab} {N : List Str} {ps : List PV}, chks S N P es = true → pes C P σ = some ps → ps.length = es.length
  | .nil, es, S, N, ps, hc, hp => by rw [chks_nil hc]; cases hp; rfl
  | .cons a as, es, S, N, ps, hc, hp => by
    refine ea_2_4 (chks_cons hc) fun x xs hrf2 h0 h1 h2 => ?_
    subst hrf2
    refine eDV hp fun p ps' hp1 hp2 hp => ?_
    cases hp
    rw [List.length_cons, List.length_cons, pes_len h2 hp2]
noncomputable def PEs.len : PEs → Nat
  | .nil => 0
  | .cons _ es => es.len + 1
theorem pes_len' {σ : St} : ∀ {P : PEs} {ps : List PV}, pes C P σ = some ps → ps.length = P.len
  | .nil, ps, hp => by cases hp; rfl
  | .cons a as, ps, hp => by
    refine eDV hp fun p ps' hp1 hp2 hp => ?_
    cases hp
    rw [List.length_cons, pes_len' hp2, PEs.len]
theorem ok_tup {es : PEs} (hes : EsOk prog w hb n C es) (hl : es.len ≤ 1000) : EOk prog w hb n C (.tup es) := by
  intro fm A s σ Ow m e p K hA I hc hp
  refine chk_tup _ hc fun xs k pos h1 => ?_
  refine Classical.byContradiction fun hng => ?_
  refine eVs hp fun vs hvs hp => ?_
  refine ea_1_2 (Option.map_eq_some_iff.mp hp) fun ds hd hrf2 => ?_
  subst hrf2
  refine hng ?_
  refine wpAny_Tuple (wpAny_mono (hes fm A s σ Ow m xs pos vs K hA I h1 hvs) (fun us s₁ ⟨x1, r⟩ => ?_) fun Z Z q => q)
  have hlen : us.length ≤ sizeLine := by rw [r.length, pes_len' hvs, sizeLine_eq]; lia
  exact ⟨hlen, x1.trans (Ext.push _ (tk := s₁.toks)), rep_newTuple (s := s₁) ((I.ext x1).hX K) hlen (r.data hd)⟩
theorem ok_lst {es : PEs} (hes : EsOk prog w hb n C es) (hl : es.len ≤ 1000) : EOk prog w hb n C (.lst es) := by
  intro fm A s σ Ow m e p K hA I hc hp
  refine chk_lst _ hc fun xs pos h1 => ?_
  refine Classical.byContradiction fun hng => ?_
  refine eVs hp fun vs hvs hp => ?_
  refine ea_1_2 (Option.map_eq_some_iff.mp hp) fun ds hd hrf2 => ?_
  subst hrf2
  refine hng ?_
  refine wpAny_List (wpAny_mono (hes fm A s σ Ow m xs pos vs K hA I h1 hvs) (fun us s₁ ⟨x1, r⟩ => ?_) fun Z Z q => q)
  have hlen : us.length ≤ sizeLine := by rw [r.length, pes_len' hvs, sizeLine_eq]; lia
  exact ⟨hlen, x1.trans (Ext.push _ (tk := s₁.toks)), rep_newList (s := s₁) ((I.ext x1).hX K) hlen (r.data hd)⟩
theorem ok_bin {op : BOp} {a b : PE} (ha : EOk prog w hb n C a) (hb' : EOk prog w hb n C b) : EOk prog w hb n C (.bin op a b) := by
  intro fm A s σ Ow m e p K hA I hc hp
  refine chk_bin _ hc fun l o r pos h0 h1 h2 => ?_
  refine Classical.byContradiction fun hng => ?_
  refine eD2 hp fun x y hx hy hp => ?_
  refine hng ?_
  refine wpAny_BinOp (wpAny_mono (ha fm A s σ Ow m l _ K hA I h1 hx) (fun v s₁ ⟨x1, r1⟩ => ?_) fun Z Z q => q)
  refine wpAny_mono (hb' fm A s₁ σ Ow m r _ K hA (I.ext x1) h2 hy) (fun u s₂ ⟨x2, r2⟩ => ?_) fun Z Z q => q
  exact wpAny_mono (binop_ok h0 hp (r1.ext x2) r2 (((I.ext x1).ext x2).hX K)) (fun v' s₃ ⟨x3, r3⟩ => ⟨(x1.trans x2).trans x3, r3⟩) fun Z Z q => q
theorem notSet_marks {o : CmpOp} {r : Expr} (h : notSet r = true) : behindInMarks o r = false := by
  cases r <;> first | rfl | exact absurd h Bool.false_ne_true
theorem AOk.room {A : Around} (h : AOk A n) : A.units + 100 ≤ cLine := by have := h.2.2; lia
theorem cmp_ok {op : COp} {a b : PE} (ha : EOk prog w hb n C a) (hb' : EOk prog w hb n C b) {fm : Fm} {A : Around} {s : Shared} {σ : St} {Ow : List Addr} {m : Str → Option Value} {l r : Expr} {o : CmpOp} {x y : PV} {k : Bool}
    (K : FmOk hb fm) (hA : AOk A n) (I : Inv prog w hb fm s σ Ow m) (h0 : copOk op o = true) (h1 : chk fm.S fm.names a l = true) (h2 : chk fm.S fm.names b r = true) (hx : pe C a σ = some x) (hy : pe C b σ = some y) (hk : cmpop op x y = some k)
    {Q : Value → Shared → Prop} (hQ : ∀ s', Ext s s' → Q (.bool k) s') :
    wpAny (model prog w) A (eval l fm.env) (fun a' s₁ => wpAny (model prog w) A (eval r fm.env) (fun b' s₂ => wpAny (model prog w) A (compareOp o a' b') Q Fl s₂) Fl s₁) Fl s := by
  refine wpAny_mono (ha fm A s σ Ow m l _ K hA I h1 hx) (fun v s₁ ⟨x1, r1⟩ => ?_) fun Z Z q => q
  refine wpAny_mono (hb' fm A s₁ σ Ow m r _ K hA (I.ext x1) h2 hy) (fun u s₂ ⟨x2, r2⟩ => ?_) fun Z Z q => q
  refine wpAny_mono (cmpop_ok h0 hk (r1.ext x2) r2 hA.room) (fun v' s₃ ⟨x3, e⟩ => ?_) fun Z Z q => q
  subst e
  exact hQ _ ((x1.trans x2).trans x3)
theorem ok_cmp {op : COp} {a b : PE} (ha : EOk prog w hb n C a) (hb' : EOk prog w hb n C b) : EOk prog w hb n C (.cmp op a b) := by
  intro fm A s σ Ow m e p K hA I hc hp
  refine chk_cmp _ hc fun l o r pos h0 hs h1 h2 => ?_
  refine Classical.byContradiction fun hng => ?_
  refine eD2 hp fun x y hx hy hp => ?_
  refine ea_1_2 (Option.map_eq_some_iff.mp hp) fun k hk hrf2 => ?_
  subst hrf2
  refine hng ?_
  exact wpAny_Compare1 (cmp_ok ha hb' K hA I h0 h1 h2 hx hy hk fun s' x => ⟨x, .bool _⟩) (notSet_marks hs)
theorem tok_cmp {op : COp} {a b : PE} (ha : EOk prog w hb n C a) (hb' : EOk prog w hb n C b) : TOk prog w hb n C (.cmp op a b) := by
  intro fm A s σ Ow m e k K hA I hc hp
  refine chk_cmp _ hc fun l o r pos h0 hs h1 h2 => ?_
  refine Classical.byContradiction fun hng => ?_
  refine eD2 hp fun x y hx hy hp => ?_
  refine hng ?_
  exact wpAny_isTrue_Compare1 (cmp_ok ha hb' K hA I h0 h1 h2 hx hy hp fun s' x => wpAny_truthy_bool ⟨x, rfl⟩) (notSet_marks hs)
theorem ok_idx {a i : PE} (ha : EOk prog w hb n C a) (hi : EOk prog w hb n C i) : EOk prog w hb n C (.idx a i) := by
  intro fm A s σ Ow m e p K hA I hc hp
  refine chk_idx _ hc fun x k pos h0 h1 h2 => ?_
  refine Classical.byContradiction fun hng => ?_
  refine eD2 hp fun p1 p2 hx hy hp => ?_
  refine hng ?_
  refine Subscript_ (wpAny_mono (ha fm A s σ Ow m x _ K hA I h1 hx) (fun v s₁ ⟨x1, r1⟩ => ?_) fun Z Z q => q)
  refine wpAny_mono (hi fm A s₁ σ Ow m k _ K hA (I.ext x1) h2 hy) (fun u s₂ ⟨x2, r2⟩ => ?_) fun Z Z q => q
  exact wpAny_mono (idxop_ok h0 hp (r1.ext x2) r2) (fun v' s₃ ⟨x3, r3⟩ => ⟨(x1.trans x2).trans x3, r3⟩) fun Z Z q => q
theorem isNone_eq {a : PE} (h : isNone a = true) : a = .none := by
  cases a <;> first | rfl | exact ff h
theorem partE {a : PE} {lo : Option Expr} {fm : Fm} {A : Around} {s : Shared} {σ : St} {Ow : List Addr} {m : Str → Option Value} {p : PV} (ha : EOk prog w hb n C a) (K : FmOk hb fm) (hA : AOk A n) (I : Inv prog w hb fm s σ Ow m)
    (h : (match lo with | Option.none => isNone a | some y => chk fm.S fm.names a y) = true) (hp : pe C a σ = some p) :
    wpAny (model prog w) A (evalPart lo fm.env) (fun v s' => Ext s s' ∧ RepV prog w s'.heap (fm.X Ow) v p) Fl s := by
  cases lo with
  | none =>
    have := isNone_eq h
    subst this
    cases hp
    rw [evalPart_none]
    exact wpAny_pure ⟨Ext.refl _, .none⟩
  | some y => rw [evalPart_some]; exact ha fm A s σ Ow m y p K hA I h hp
theorem ok_sl {a l u : PE} (ha : EOk prog w hb n C a) (hl : EOk prog w hb n C l) (hu : EOk prog w hb n C u) : EOk prog w hb n C (.sl a l u) := by
  intro fm A s σ Ow m e p K hA I hc hp
  refine chk_sl _ hc fun x lo hi ps pos h1 h2 h3 => ?_
  refine Classical.byContradiction fun hng => ?_
  refine eD3 hp fun p1 p2 p3 e1 e2 e3 hp => ?_
  refine hng ?_
  refine Subscript_ (wpAny_mono (ha fm A s σ Ow m x _ K hA I h1 e1) (fun v s₁ ⟨x1, r1⟩ => ?_) fun Z Z q => q)
  refine wpAny_Slice (wpAny_mono (partE hl K hA (I.ext x1) h2 e2) (fun v2 s₂ ⟨x2, r2⟩ => ?_) fun Z Z q => q)
  refine wpAny_mono (partE hu K hA ((I.ext x1).ext x2) h3 e3) (fun v3 s₃ ⟨x3, r3⟩ => ?_) fun Z Z q => q
  rw [evalPart_none]
  refine wpAny_pure ?_
  refine wpAny_mono (slop_ok hp ((r1.ext x2).ext x3) (r2.ext x3) r3 ((((I.ext x1).ext x2).ext x3).hX K)) (fun v' s₄ ⟨x4, r4⟩ => ⟨((x1.trans x2).trans x3).trans x4, r4⟩) fun Z Z q => q
end
section
variable {prog : Program} {w : World} {mg mb : Str → Option Value} {hb : Heap} {n : Nat} {C : Nat → List PV → Option PV}
theorem built1 (G : Gd mg mb hb) {a : PE} (ha : EOk prog w hb n C a) {fm : Fm} {A : Around} {s : Shared} {σ : St} {Ow : List Addr} {m : Str → Option Value} {f : Str} {id : String} {x : Expr} {p pos : Pos} {v : PV} {Q : Value → Shared → Prop}
    (K : FmOk hb fm) (hA : AOk A n) (I : Inv prog w hb fm s σ Ow m) (hg : isGlob fm.S f = true) (hv : (f, Value.builtin id) ∈ biUsed) (hs : notStar x = true) (h1 : chk fm.S fm.names a x = true) (hp : pe C a σ = some v)
    (h : ∀ u s', Ext s s' → RepV prog w s'.heap (fm.X Ow) u v → wpAny (model prog w) A (call (.builtin id) [u]) Q Fl s') :
    wpAny (model prog w) A (eval (.Call (.Name f p) [x] [] pos) fm.env) Q Fl s := by
  refine Call_ (built_ok G K I hg hv ?_)
  refine callWith_builtin1 (args_cons (wpAny_mono (ha fm A s σ Ow m x _ K hA I h1 hp) (fun u s₁ ⟨x1, r1⟩ => args_nil (h u s₁ x1 r1)) fun Z Z q => q) (starEach_plain hs)) (starEach_plain hs)
theorem built2 (G : Gd mg mb hb) {a b : PE} (ha : EOk prog w hb n C a) (hb' : EOk prog w hb n C b) {fm : Fm} {A : Around} {s : Shared} {σ : St} {Ow : List Addr} {m : Str → Option Value} {f : Str} {id : String} {x y : Expr} {p pos : Pos} {v v' : PV} {Q : Value → Shared → Prop}
    (K : FmOk hb fm) (hA : AOk A n) (I : Inv prog w hb fm s σ Ow m) (hg : isGlob fm.S f = true) (hv : (f, Value.builtin id) ∈ biUsed) (hs : notStar x = true) (hs' : notStar y = true)
    (h1 : chk fm.S fm.names a x = true) (h2 : chk fm.S fm.names b y = true) (hp : pe C a σ = some v) (hp' : pe C b σ = some v')
    (h : ∀ u u' s', Ext s s' → RepV prog w s'.heap (fm.X Ow) u v → RepV prog w s'.heap (fm.X Ow) u' v' → wpAny (model prog w) A (call (.builtin id) [u, u']) Q Fl s') :
    wpAny (model prog w) A (eval (.Call (.Name f p) [x, y] [] pos) fm.env) Q Fl s := by
  refine Call_ (built_ok G K I hg hv ?_)
  have e2 : starEach [y] fm.env = [(false, eval y fm.env)] := starEach_plain hs'
  refine callWith_builtin1 (args_cons (wpAny_mono (ha fm A s σ Ow m x _ K hA I h1 hp) (fun u s₁ ⟨x1, r1⟩ => ?_) fun Z Z q => q) (starEach_plain hs)) (starEach_plain hs) (by rw [e2]; rfl)
  exact args_cons (wpAny_mono (hb' fm A s₁ σ Ow m y _ K hA (I.ext x1) h2 hp') (fun u' s₂ ⟨x2, r2⟩ => args_nil (h u u' s₂ (x1.trans x2) (r1.ext x2) r2)) fun Z Z q => q) (starEach_plain hs')
theorem type1 (G : Gd mg mb hb) {a : PE} (ha : EOk prog w hb n C a) {fm : Fm} {A : Around} {s : Shared} {σ : St} {Ow : List Addr} {m : Str → Option Value} {f : Str} {T : String} {x : Expr} {p pos : Pos} {v : PV} {Q : Value → Shared → Prop}
    (K : FmOk hb fm) (hA : AOk A n) (I : Inv prog w hb fm s σ Ow m) (hg : isGlob fm.S f = true) (hv : (f, Value.type T) ∈ biUsed) (hs : notStar x = true) (h1 : chk fm.S fm.names a x = true) (hp : pe C a σ = some v)
    (h : ∀ u s', Ext s s' → RepV prog w s'.heap (fm.X Ow) u v → wpAny (model prog w) A (call (.type T) [u]) Q Fl s') :
    wpAny (model prog w) A (eval (.Call (.Name f p) [x] [] pos) fm.env) Q Fl s := by
  refine Call_ (built_ok G K I hg hv ?_)
  refine PyProof.Rows.callWith_type1 (args_cons (wpAny_mono (ha fm A s σ Ow m x _ K hA I h1 hp) (fun u s₁ ⟨x1, r1⟩ => args_nil (h u s₁ x1 r1)) fun Z Z q => q) (starEach_plain hs)) (starEach_plain hs)
theorem bi_len : ((Str.ofString "len" : Str), Value.builtin "len") ∈ biUsed := .head _
theorem bi_max : ((Str.ofString "max" : Str), Value.builtin "max") ∈ biUsed := .tail _ (.head _)
theorem bi_min : ((Str.ofString "min" : Str), Value.builtin "min") ∈ biUsed := .tail _ (.tail _ (.head _))
theorem bi_abs : ((Str.ofString "abs" : Str), Value.builtin "abs") ∈ biUsed := .tail _ (.tail _ (.tail _ (.head _)))
theorem bi_any : ((Str.ofString "any" : Str), Value.builtin "any") ∈ biUsed := .tail _ (.tail _ (.tail _ (.tail _ (.head _))))
theorem bi_list : ((Str.ofString "list" : Str), Value.type "list") ∈ biUsed := .tail _ (.tail _ (.tail _ (.tail _ (.tail _ (.head _)))))
theorem bi_range : ((Str.ofString "range" : Str), Value.type "range") ∈ biUsed := .tail _ (.tail _ (.tail _ (.tail _ (.tail _ (.tail _ (.head _))))))
theorem bi_type : ((Str.ofString "type" : Str), Value.type "type") ∈ biUsed := .tail _ (.tail _ (.tail _ (.tail _ (.tail _ (.tail _ (.tail _ (.head _)))))))
theorem bi_int : ((Str.ofString "int" : Str), Value.type "int") ∈ biUsed := .tail _ (.tail _ (.tail _ (.tail _ (.tail _ (.tail _ (.tail _ (.tail _ (.head _))))))))
theorem ok_len (G : Gd mg mb hb) {a : PE} (ha : EOk prog w hb n C a) : EOk prog w hb n C (.len a) := by
  intro fm A s σ Ow m e p K hA I hc hp
  refine chk_len _ hc fun p1 x pos hg hs h1 => ?_
  refine Classical.byContradiction fun hng => ?_
  refine eD hp fun v hv hp => ?_
  refine hng ?_
  exact built1 G ha K hA I hg bi_len hs h1 hv fun u s' x1 r => wpAny_mono (lenop_ok hp r) (fun v' s₃ ⟨x3, r3⟩ => ⟨x1.trans x3, r3⟩) fun Z Z q => q
theorem ok_abs (G : Gd mg mb hb) {a : PE} (ha : EOk prog w hb n C a) : EOk prog w hb n C (.abs a) := by
  intro fm A s σ Ow m e p K hA I hc hp
  refine chk_abs _ hc fun p1 x pos hg hs h1 => ?_
  refine Classical.byContradiction fun hng => ?_
  refine eI hp fun v hv hp => ?_
  cases hp
  refine hng ?_
  refine built1 G ha K hA I hg bi_abs hs h1 hv fun u s' x1 r => ?_
  refine Rep.intE _ r fun Z => ?_
  exact wpAny_mono abs_ok (fun v' s₃ ⟨x3, r3⟩ => ⟨x1.trans x3, r3⟩) fun Z Z q => q
theorem ok_mx (G : Gd mg mb hb) {a b : PE} (ha : EOk prog w hb n C a) (hb' : EOk prog w hb n C b) : EOk prog w hb n C (.mx a b) := by
  intro fm A s σ Ow m e p K hA I hc hp
  refine chk_mx _ hc fun p1 x y pos hg hs hs' h1 h2 => ?_
  refine Classical.byContradiction fun hng => ?_
  refine eI2 hp fun v v' hv hv' hp => ?_
  cases hp
  refine hng ?_
  refine built2 G ha hb' K hA I hg bi_max hs hs' h1 h2 hv hv' fun u u' s' x1 r r' => ?_
  refine Rep.intE _ r fun Z => ?_; refine Rep.intE _ r' fun Z => ?_
  exact wpAny_mono (max_ok hA.1) (fun v' s₃ ⟨x3, r3⟩ => ⟨x1.trans x3, r3⟩) fun Z Z q => q
theorem ok_mn (G : Gd mg mb hb) {a b : PE} (ha : EOk prog w hb n C a) (hb' : EOk prog w hb n C b) : EOk prog w hb n C (.mn a b) := by
  intro fm A s σ Ow m e p K hA I hc hp
  refine chk_mn _ hc fun p1 x y pos hg hs hs' h1 h2 => ?_
  refine Classical.byContradiction fun hng => ?_
  refine eI2 hp fun v v' hv hv' hp => ?_
  cases hp
  refine hng ?_
  refine built2 G ha hb' K hA I hg bi_min hs hs' h1 h2 hv hv' fun u u' s' x1 r r' => ?_
  refine Rep.intE _ r fun Z => ?_; refine Rep.intE _ r' fun Z => ?_
  exact wpAny_mono (min_ok hA.1) (fun v' s₃ ⟨x3, r3⟩ => ⟨x1.trans x3, r3⟩) fun Z Z q => q
theorem ok_listE (G : Gd mg mb hb) {a : PE} (ha : EOk prog w hb n C a) : EOk prog w hb n C (.list a) := by
  intro fm A s σ Ow m e p K hA I hc hp
  refine chk_list _ hc fun p1 x pos hg hs h1 => ?_
  refine Classical.byContradiction fun hng => ?_
  refine eL hp fun v hv hp => ?_
  refine eIf hp fun Z hp => ?_
  cases hp
  refine hng ?_
  exact type1 G ha K hA I hg bi_list hs h1 hv fun u s' x1 r => wpAny_mono (list_ok ((I.ext x1).hX K) r) (fun v' s₃ ⟨x3, r3⟩ => ⟨x1.trans x3, r3⟩) fun Z Z q => q
theorem typeNotInt_ok (G : Gd mg mb hb) {a : PE} (ha : EOk prog w hb n C a) {fm : Fm} {A : Around} {s : Shared} {σ : St} {Ow : List Addr} {m : Str → Option Value} {p1 p2 p3 : Pos} {x : Expr} {i : Int} {Q : Value → Shared → Prop}
    (K : FmOk hb fm) (hA : AOk A n) (I : Inv prog w hb fm s σ Ow m) (hg : isGlob fm.S (Str.ofString "type") = true) (hg' : isGlob fm.S (Str.ofString "int") = true) (hs : notStar x = true) (h1 : chk fm.S fm.names a x = true) (hp : pe C a σ = some (.d (.int i)))
    (hQ : ∀ s', Ext s s' → Q (.bool false) s') :
    wpAny (model prog w) A (eval (.Call (.Name (Str.ofString "type") p1) [x] [] p2) fm.env) (fun a' s₁ => wpAny (model prog w) A (eval (.Name (Str.ofString "int") p3) fm.env) (fun b' s₂ => wpAny (model prog w) A (compareOp .IsNot a' b') Q Fl s₂) Fl s₁) Fl s := by
  refine type1 G ha K hA I hg bi_type hs h1 hp fun u s' x1 r => ?_
  refine Rep.intE _ r fun Z => ?_
  refine call_type_of (typeIs_int _ _ _) rfl ?_
  exact built_ok G K (I.ext x1) hg' bi_int (isnot_type_same (hQ _ x1))
theorem ok_typeNotInt (G : Gd mg mb hb) {a : PE} (ha : EOk prog w hb n C a) : EOk prog w hb n C (.typeNotInt a) := by
  intro fm A s σ Ow m e p K hA I hc hp
  refine chk_typeNotInt _ hc fun p1 x p2 p3 p4 hg hg' hs h1 => ?_
  refine Classical.byContradiction fun hng => ?_
  refine eI hp fun v hv hp => ?_
  cases hp
  refine hng ?_
  exact wpAny_Compare1 (typeNotInt_ok G ha K hA I hg hg' hs h1 hv fun s' x => ⟨x, .bool _⟩) rfl
theorem tok_typeNotInt (G : Gd mg mb hb) {a : PE} (ha : EOk prog w hb n C a) : TOk prog w hb n C (.typeNotInt a) := by
  intro fm A s σ Ow m e b K hA I hc hp
  refine chk_typeNotInt _ hc fun p1 x p2 p3 p4 hg hg' hs h1 => ?_
  refine Classical.byContradiction fun hng => ?_
  refine eI hp fun v hv hp => ?_
  cases hp
  refine hng ?_
  exact wpAny_isTrue_Compare1 (typeNotInt_ok G ha K hA I hg hg' hs h1 hv fun s' x => wpAny_truthy_bool ⟨x, rfl⟩) rfl
theorem call_expr (G : Gd mg mb hb) {k : Nat} {nm : Str} {args : PEs} (has : EsOk prog w hb n C args) {fm : Fm} {A : Around} {s : Shared} {σ : St} {Ow : List Addr} {m : Str → Option Value} {e : Expr} {vs : List PV} {Q : Value → Shared → Prop}
    (K : FmOk hb fm) (hA : AOk A n) (I : Inv prog w hb fm s σ Ow m) (hc : chk fm.S fm.names (.call k nm args) e = true) (hvs : pes C args σ = some vs)
    (go : ∀ fn a us s', fns[k]? = some fn → mg fn.name = some (.ref a) → Ext s s' → RepVs prog w s'.heap (fm.X Ow) us vs → wpAny (model prog w) A (call (.ref a) us) Q Fl s') : wpAny (model prog w) A (eval e fm.env) Q Fl s := by
  refine chk_call _ hc fun p1 xs pos hk hg h1 => ?_
  refine ea_1_2 (Option.map_eq_some_iff.mp hk) fun fn hfn hnm => ?_
  refine ea_8_5 (G.fn k fn hfn) fun a o params body scope pm cd doc ha ho hd hcd hck => ?_
  refine Call_ (glob_ok G K I hg (hnm ▸ ha) ?_)
  have hargs := has fm A s σ Ow m xs pos vs K hA I h1 hvs
  cases xs with
  | nil =>
    refine Calls.callWith_function (o := o) (PyProof.Rows.evalArgs_none ⟨⟨I.hbk _ _ ho, hd⟩, ?_⟩)
    have hn : vs = [] := by
      have := pes_len h1 hvs
      exact List.eq_nil_of_length_eq_zero (by simpa using this)
    subst hn
    exact go fn a [] s hfn ha (Ext.refl _) .nil
  | cons y ys =>
    have hst : starEach (y :: ys) fm.env = (false, eval y fm.env) :: starEach ys fm.env := by
      cases args with
      | nil => have := chks_nil h1; cases this
      | cons a' as' => obtain ⟨_, _, e, h0, _⟩ := chks_cons h1; cases e; exact starEach_plain h0
    exact callWith_def hd (wpAny_mono hargs (fun us s₁ ⟨x1, r⟩ => ⟨(I.ext x1).hbk _ _ ho, go fn a us s₁ hfn ha x1 r⟩) fun Z Z q => q) hst
theorem ok_call (G : Gd mg mb hb) (hC : CallOk prog w mg hb n C) {k : Nat} {nm : Str} {args : PEs} (hk26 : k < 26) (has : EsOk prog w hb n C args) : EOk prog w hb n C (.call k nm args) := by
  intro fm A s σ Ow m e p K hA I hc hp
  refine Classical.byContradiction fun hng => ?_
  refine eVs hp fun vs hvs hp => ?_
  refine hng ?_
  refine call_expr G has K hA I hc hvs fun fn a us s' hfn ha x1 r => ?_
  exact wpAny_mono (hC k fn vs p hk26 hfn hp A s' (fm.X Ow) us a hA (I.ext x1).hbk (I.ext x1).gens (fun a q => ⟨(I.ext x1).alX K q, (I.ext x1).xhb K q⟩) r ha) (fun v s₂ ⟨x2, r2⟩ => ⟨x1.trans x2, r2⟩) fun Z Z q => q
theorem base_name {o : Expr} {nm : Str} {env : Env} (h : isName o = true) (q : Sem Value) : attributeBase o nm env q = q := by
  cases o <;> first | rfl | exact absurd h Bool.false_ne_true
theorem ok_join {a : PE} (ha : EOk prog w hb n C a) : EOk prog w hb n C (.join a) := by
  intro fm A s σ Ow m e p K hA I hc hp
  refine chk_join _ hc fun k p0 ap x cp hl hs h1 => ?_
  refine Classical.byContradiction fun hng => ?_
  refine eL hp fun xs hxs hp => ?_
  refine eSs hp fun ss hss hp => ?_
  refine eIf hp fun hlen hp => ?_
  cases hp
  refine hng ?_
  refine Call_method1 rfl (starEach_plain hs) (by simpa using hl) (wpAny_Constant_str ?_)
  refine ⟨"str", "str.join", PySem.F.plainAttrs_str, PySem.F.slot_str_join, PySem.F.type_str_join, typeIs_str _ _ _, (fun a q => by cases q), ?_⟩
  have x0 : Ext s { s with toks := s.toks + 1 } := Ext.toks
  refine Calls.callWith_builtin rfl (Calls.evalArgs_plain (Calls.spliced_cons (wpAny_mono (ha fm A _ σ Ow m x _ K hA (I.ext x0) h1 hxs) (fun u s₁ ⟨x1, r1⟩ => Calls.spliced_nil ?_) fun Z Z q => q)))
  exact wpAny_mono (join_ok r1 hss hlen) (fun v' s₃ ⟨x3, r3⟩ => ⟨(x0.trans x1).trans x3, r3⟩) fun Z Z q => q
theorem ok_splitnl {a : PE} (ha : EOk prog w hb n C a) : EOk prog w hb n C (.splitnl a) := by
  intro fm A s σ Ow m e p K hA I hc hp
  refine chk_splitnl _ hc fun o ap k p0 cp hl ho h1 => ?_
  refine Classical.byContradiction fun hng => ?_
  refine eS hp fun x hx hp => ?_
  refine eIf hp fun hlen hp => ?_
  cases hp
  refine hng ?_
  refine Call_method1 (base_name ho _) rfl (by simpa using hl) (wpAny_mono (ha fm A s σ Ow m o _ K hA I h1 hx) (fun u s₁ ⟨x1, r1⟩ => ?_) fun Z Z q => q)
  refine Rep.strE _ r1 fun t hxo => ?_
  refine ⟨"str", "str.split", PySem.F.plainAttrs_str, PySem.F.slot_str_split, PySem.F.type_str_split, typeIs_str _ _ _, (fun a q => by cases q), ?_⟩
  refine Calls.callWith_builtin rfl (Calls.evalArgs_plain (Calls.spliced_cons (wpAny_Constant_str (Calls.spliced_nil ?_))))
  have x0 : Ext s₁ { s₁ with toks := s₁.toks + 1 } := Ext.toks
  exact wpAny_mono (split_ok hxo hlen (((I.ext x1).ext x0).hX K)) (fun v' s₃ ⟨x3, r3⟩ => ⟨(x1.trans x0).trans x3, r3⟩) fun Z Z q => q
theorem ok_lower {a : PE} (ha : EOk prog w hb n C a) : EOk prog w hb n C (.lower a) := by
  intro fm A s σ Ow m e p K hA I hc hp
  refine chk_lower _ hc fun o ap cp hl ho h1 => ?_
  refine Classical.byContradiction fun hng => ?_
  refine eS hp fun x hx hp => ?_
  refine eIf hp fun hlen hp => ?_
  cases hp
  refine hng ?_
  refine Call_method0 (base_name ho _) (by simpa using hl) (wpAny_mono (ha fm A s σ Ow m o _ K hA I h1 hx) (fun u s₁ ⟨x1, r1⟩ => ?_) fun Z Z q => q)
  refine Rep.strE _ r1 fun t hxo => ?_
  refine ⟨"str", "str.lower", PySem.F.plainAttrs_str, PySem.F.slot_str_lower, PySem.F.type_str_lower, typeIs_str _ _ _, (fun a q => by cases q), ?_⟩
  refine Calls.callWith_builtin rfl (PyProof.Rows.evalArgs_none ?_)
  exact wpAny_mono (lower_ok hlen.2) (fun v' s₃ ⟨x3, r3⟩ => ⟨x1.trans x3, r3⟩) fun Z Z q => q
theorem chkF_nil {S : Tab} {N : List Str} {es : List Expr} (h : chkF S N .nil es = true) : es = [] := l0_ind (Q := fun l => l = []) (fun Z => rfl) es h
theorem strOf_eq {a : PE} {t : Str} (h : strOf a = some t) : a = .str t := by
  cases a <;> first | (cases h; rfl) | exact nn h
theorem chkF_cons {S : Tab} {N : List Str} {a : PE} {as : PEs} {es : List Expr} (h : chkF S N (.cons a as) es = true) :
    (∃ t k pos xs, es = .Constant (.str t) k pos :: xs ∧ a = .str t ∧ sOk t = true ∧ chkF S N as xs = true) ∨
    (∃ x pos xs, es = .FormattedValue x (-1) Option.none pos :: xs ∧ chk S N a x = true ∧ chkF S N as xs = true) := by
  revert h
  refine lc_ind (Q := fun es => (∃ t k pos xs, es = .Constant (.str t) k pos :: xs ∧ a = .str t ∧ sOk t = true ∧ chkF S N as xs = true) ∨
    (∃ x pos xs, es = .FormattedValue x (-1) Option.none pos :: xs ∧ chk S N a x = true ∧ chkF S N as xs = true)) (fun x xs h => ?_) es
  refine ea_0_2 (bb h) fun h h3 => ?_
  rcases Bool.or_eq_true_iff.mp h with h | h
  · obtain ⟨t, ht⟩ : ∃ t, strOf a = some t := oS_ind (Q := fun o => ∃ t, o = some t) (fun t Z => ⟨t, rfl⟩) _ h
    rw [ht] at h
    refine .inl (dCst_ind (Q := fun x => ∃ t k pos ys, x :: xs = .Constant (.str t) k pos :: ys ∧ a = .str t ∧ sOk t = true ∧ chkF S N as ys = true) (fun c k p h => ?_) x h)
    exact eqb_ind (Q := fun c => ∃ t k' pos ys, Expr.Constant c k p :: xs = .Constant (.str t) k' pos :: ys ∧ a = .str t ∧ sOk t = true ∧ chkF S N as ys = true) (fun h => ⟨t, k, p, xs, rfl, strOf_eq ht, h, h3⟩) c h
  · refine .inr (dFmt_ind (Q := fun x => ∃ y pos ys, x :: xs = .FormattedValue y (-1) Option.none pos :: ys ∧ chk S N a y = true ∧ chkF S N as ys = true) (fun y c p h => ?_) x h)
    exact eqb_ind (Q := fun c => ∃ y' pos ys, Expr.FormattedValue y c Option.none p :: xs = .FormattedValue y' (-1) Option.none pos :: ys ∧ chk S N a y' = true ∧ chkF S N as ys = true) (fun h => ⟨y, p, xs, rfl, h, h3⟩) c h
theorem str_append_assoc (a b c : Str) : a ++ b ++ c = a ++ (b ++ c) := by
  apply Str.ext'
  show (a.cps ++ b.cps) ++ c.cps = a.cps ++ (b.cps ++ c.cps)
  simp
theorem small_log {i : Int} (h0 : 0 ≤ i) (h1 : i < 1000000000) : i.natAbs.log2 < 1920 := by
  have h : i.natAbs < 2 ^ 40 := by lia
  by_cases q : i.natAbs = 0
  · rw [q]; decide
  · have := (Nat.log2_lt q).mpr h
    lia
theorem textOf_ok {p : PV} {x : Str} {v : Value} {h : Heap} {X : Addr → Prop} (e : textOf p = some x) (r : RepV prog w h X v p) : SOk x := by
  refine eTxt e (fun s hs Z e => ?_) fun i Z hi e => ?_
  · cases e; subst hs
    exact Rep.strE _ r fun t hx => hx
  · cases e
    exact ⟨ok_ofString _, int_text_fits (small_log hi.1 hi.2)⟩
theorem fok_nil : FsOk prog w hb n C .nil := by
  intro fm A s σ Ow m es ps ts out K hA I hc hp ht ho hl
  rw [chkF_nil hc]
  cases hp
  cases ht
  refine joinParts_nil ⟨Ext.toks, ?_⟩ ho.2
  rw [concatStr, str_append_empty]
  exact .str _ _ ho
theorem fok_cons {a : PE} {as : PEs} (ha : EOk prog w hb n C a) (has : FsOk prog w hb n C as) : FsOk prog w hb n C (.cons a as) := by
  intro fm A s σ Ow m es ps ts out K hA I hc hp ht ho hl
  refine eDV hp fun p ps' hp1 hp2 hp => ?_
  cases hp
  refine eMap ht fun t ts' htx hts ht => ?_
  cases ht
  have hl' : out.length + t.length + (ts'.map (·.length)).sum ≤ lim := by
    simp only [List.map_cons, List.sum_cons] at hl; lia
  have hlen : (out ++ t).length ≤ sizeLine := by rw [Str.length_append]; have := lim_line; lia
  have go : ∀ s₁, Ext s s₁ → SOk t → ∀ es', chkF fm.S fm.names as es' = true → wpAny (model prog w) A (joinParts (out ++ t) (evalEach es' fm.env)) (fun v s' => Ext s s' ∧ RepV prog w s'.heap (fm.X Ow) v (.d (.str (out ++ concatStr (t :: ts'))))) Fl s₁ := by
    intro s₁ x1 hok es' hce
    have := has fm A s₁ σ Ow m es' ps' ts' (out ++ t) K hA (I.ext x1) hce hp2 hts ⟨ok_append ho.1 hok.1, hlen⟩ (by rw [Str.length_append]; lia)
    refine wpAny_mono this (fun v s₂ ⟨x2, r2⟩ => ⟨x1.trans x2, ?_⟩) fun Z Z q => q
    rw [concatStr, ← str_append_assoc]; exact r2
  rcases chkF_cons hc with ⟨t0, k, pos, xs, rfl, rfl, hs, h2⟩ | ⟨x, pos, xs, rfl, h1, h2⟩
  · cases hp1
    refine eIf htx fun Z htx => ?_
    cases htx
    exact joinParts_cons (wpAny_Constant_str ⟨hlen, go _ Ext.toks (sOk_iff hs) xs h2⟩)
  · refine joinParts_cons (FormattedValue_plain (wpAny_mono (ha fm A s σ Ow m x _ K hA I h1 hp1) (fun u s₁ ⟨x1, r1⟩ => ?_) fun Z Z q => q))
    have hok := textOf_ok htx r1
    refine eTxt htx (fun s hs Z e => ?_) fun i hs hi e => ?_
    · cases e; subst hs
      refine Rep.strE _ r1 fun t hx => ?_
      exact formatField_str (fun t' tk => ⟨hlen, go _ (x1.trans Ext.toks) hok xs h2⟩) hx.2
    · cases e; subst hs
      refine Rep.intE _ r1 fun Z => ?_
      exact formatField_int_small (small_log hi.1 hi.2) ⟨hlen, go _ (x1.trans Ext.toks) hok xs h2⟩
theorem ok_fstr {es : PEs} (hes : FsOk prog w hb n C es) : EOk prog w hb n C (.fstr es) := by
  intro fm A s σ Ow m e p K hA I hc hp
  refine chk_fstr _ hc fun xs pos h0 h1 => ?_
  refine Classical.byContradiction fun hng => ?_
  refine eVs hp fun vs hvs hp => ?_
  refine eTs hp fun ts hts hp => ?_
  refine eIf hp fun hl hp => ?_
  cases hp
  refine hng ?_
  match xs, h0, h1 with
  | x :: y :: r, _, h1 =>
    refine JoinedStr_many ?_
    have h := hes fm A s σ Ow m (x :: y :: r) vs ts Str.empty K hA I h1 hvs hts ⟨by rw [okAll]; intro c hc; simp [Str.empty] at hc, Nat.zero_le _⟩ (by show 0 + _ ≤ _; lia)
    refine wpAny_mono h (fun v s₂ ⟨x2, r2⟩ => ⟨x2, ?_⟩) fun Z Z q => q
    rw [Str.empty_append] at r2
    exact r2
  | [x], h0, _ => exact absurd h0 (by simp)
  | [], h0, _ => exact absurd h0 (by simp)
theorem tok_and {es : PEs} (h : AndOk prog w hb n C es) : TOk prog w hb n C (.andE es) := by
  intro fm A s σ Ow m e b K hA I hc hp
  refine chk_andE _ hc fun xs pos h1 => ?_
  rw [ptAnd] at hp
  exact wpAny_isTrue_BoolOp (h fm A s σ Ow m xs b K hA I h1 hp)
theorem tok_or {es : PEs} (h : OrOk prog w hb n C es) : TOk prog w hb n C (.orE es) := by
  intro fm A s σ Ow m e b K hA I hc hp
  refine chk_orE _ hc fun xs pos h1 => ?_
  rw [ptOr] at hp
  exact wpAny_isTrue_BoolOp (h fm A s σ Ow m xs b K hA I h1 hp)
theorem tok_not {a : PE} (h : TOk prog w hb n C a) : TOk prog w hb n C (.notE a) := by
  intro fm A s σ Ow m e b K hA I hc hp
  refine chk_notE _ hc fun x pos h1 => ?_
  rw [ptNot] at hp
  refine ea_1_2 (Option.map_eq_some_iff.mp hp) fun b' hb' hrf2 => ?_
  subst hrf2
  refine wpAny_isTrue_Not (wpAny_mono (h fm A s σ Ow m x b' K hA I h1 hb') (fun v s₁ ⟨x1, e⟩ => ?_) fun Z Z q => q)
  subst e; exact ⟨x1, rfl⟩
theorem and_nil : AndOk prog w hb n C .nil := by
  intro fm A s σ Ow m es b K hA I hc hp
  rw [chks_nil hc]; cases hp
  exact wpAny_allTrue_And_nil ⟨Ext.refl _, rfl⟩
theorem or_nil : OrOk prog w hb n C .nil := by
  intro fm A s σ Ow m es b K hA I hc hp
  rw [chks_nil hc]; cases hp
  exact wpAny_allTrue_Or_nil ⟨Ext.refl _, rfl⟩
theorem and_cons {a : PE} {as : PEs} (ha : TOk prog w hb n C a) (has : AndOk prog w hb n C as) : AndOk prog w hb n C (.cons a as) := by
  intro fm A s σ Ow m es b K hA I hc hp
  refine ea_2_4 (chks_cons hc) fun x xs hrf2 h0 h1 h2 => ?_
  subst hrf2
  rw [pAndC] at hp
  cases hb' : pt C a σ with
  | none => rw [hb'] at hp; cases hp
  | some c =>
    rw [hb'] at hp
    refine wpAny_allTrue_And_cons (wpAny_mono (ha fm A s σ Ow m x c K hA I h1 hb') (fun v s₁ ⟨x1, e⟩ => ?_) fun Z Z q => q)
    subst e
    cases v with
    | true => exact wpAny_mono (has fm A s₁ σ Ow m xs b K hA (I.ext x1) h2 hp) (fun v s₂ ⟨x2, e⟩ => ⟨x1.trans x2, e⟩) fun Z Z q => q
    | false => cases hp; exact ⟨x1, rfl⟩
theorem or_cons {a : PE} {as : PEs} (ha : TOk prog w hb n C a) (has : OrOk prog w hb n C as) : OrOk prog w hb n C (.cons a as) := by
  intro fm A s σ Ow m es b K hA I hc hp
  refine ea_2_4 (chks_cons hc) fun x xs hrf2 h0 h1 h2 => ?_
  subst hrf2
  rw [pOrC] at hp
  cases hb' : pt C a σ with
  | none => rw [hb'] at hp; cases hp
  | some c =>
    rw [hb'] at hp
    refine wpAny_allTrue_Or_cons (wpAny_mono (ha fm A s σ Ow m x c K hA I h1 hb') (fun v s₁ ⟨x1, e⟩ => ?_) fun Z Z q => q)
    subst e
    cases v with
    | false => exact wpAny_mono (has fm A s₁ σ Ow m xs b K hA (I.ext x1) h2 hp) (fun v s₂ ⟨x2, e⟩ => ⟨x1.trans x2, e⟩) fun Z Z q => q
    | true => cases hp; exact ⟨x1, rfl⟩
end
theorem Rows.get {h : Heap} {X : Addr → Prop} : ∀ {as : List Addr} {rows : List (List PyData)} {i : Nat} {row : List PyData}, Rows h X as rows → rows[i]? = some row →
    ∃ r vs k, as[i]? = some r ∧ vs.size ≤ sizeLine ∧ h.get? r = some { cls := .type "list", data := .seq vs k } ∧ RepL h X vs.toList row
  | _, _, 0, _, .cons h1 h2 h3 _, e => by
    rw [List.getElem?_cons_zero] at e; cases e
    exact ⟨_, _, _, rfl, h1, h2, h3⟩
  | _, _, i + 1, _, .cons _ _ _ h4, e => by
    rw [List.getElem?_cons_succ] at e
    rw [List.getElem?_cons_succ]
    exact Rows.get h4 e
  | _, _, _, _, .nil, e => by simp at e
theorem Rows.length {h : Heap} {X : Addr → Prop} : ∀ {as : List Addr} {rows : List (List PyData)}, Rows h X as rows → as.length = rows.length
  | _, _, .nil => rfl
  | _, _, .cons _ _ _ r => congrArg (· + 1) (Rows.length r)
section
variable {prog : Program} {w : World} {mg mb : Str → Option Value} {hb : Heap} {n : Nat} {C : Nat → List PV → Option PV}
theorem ok_ownIdx {i : Nat} {a : PE} (ha : EOk prog w hb n C a) : EOk prog w hb n C (.ownIdx i a) := by
  intro fm A s σ Ow m e p K hA I hc hp
  refine chk_ownIdx _ hc fun x p1 k pos h1 h2 h3 h4 => ?_
  refine Classical.byContradiction fun hng => ?_
  refine eWI hp fun j xs idx hj hk hp => ?_
  refine eIf hp fun hij hq => ?_
  subst hij
  refine ea_1_2 (Option.map_eq_some_iff.mp hq) fun y hy hrf2 => ?_
  subst hrf2
  refine hng ?_
  refine Subscript_ (loadOwn_ok K I h1 h2 hj fun ad ow Z => ?_)
  refine wpAny_mono (ha fm A s σ Ow m k _ K hA I h4 hk) (fun u s₁ ⟨x1, r1⟩ => ?_) fun Z Z q => q
  refine Rep.intE _ r1 fun Z => ?_
  refine Classical.byContradiction fun hng => ?_
  obtain ⟨_, vs, nn, hz, hg, hl⟩ := ow.ext x1.keep'
  refine hng ?_
  have hL : s₁.heap.IsList ad vs := ⟨_, hg, rfl, _, rfl⟩
  exact tail_any hL.typeIs slot_list_getitem.lookup (getItem_rep hz hL hl hy fun v r => ⟨x1, r⟩) (subscripted_plain h3 _ _)
theorem ok_ownIdx2 {i : Nat} {a b : PE} (ha : EOk prog w hb n C a) (hb' : EOk prog w hb n C b) : EOk prog w hb n C (.ownIdx2 i a b) := by
  intro fm A s σ Ow m e p K hA I hc hp
  refine chk_ownIdx2 _ hc fun x p1 k p2 l pos h1 h2 h3 h3' h4 h5 => ?_
  refine Classical.byContradiction fun hng => ?_
  refine eWII hp fun j rows i1 i2 hj hk hl hp => ?_
  refine eIf hp fun hij hq => ?_
  subst hij
  refine eXs hq fun row hrow hq => ?_
  refine ea_1_2 (Option.map_eq_some_iff.mp hq) fun y hy hrf2 => ?_
  subst hrf2
  refine hng ?_
  refine Subscript_ (Subscript_ (loadOwn_ok K I h1 h2 hj fun ad ow Z => ?_))
  refine wpAny_mono (ha fm A s σ Ow m k _ K hA I h4 hk) (fun u s₁ ⟨x1, r1⟩ => ?_) fun Z Z q => q
  refine Rep.intE _ r1 fun Z => ?_
  refine Classical.byContradiction fun hng => ?_
  obtain ⟨_, vs, nn, as, hz, hg, hvs, _, _, _, hr⟩ := ow.ext x1.keep'
  refine hng ?_
  have hL : s₁.heap.IsList ad vs := ⟨_, hg, rfl, _, rfl⟩
  refine ea_1_2 (pidx_seq hrow) fun jj hjj hrw => ?_
  refine ea_3_4 (hr.get hrw) fun r ws kk har hwz hwg hwl => ?_
  have hb := seq_bounds hjj
  have hlen : vs.size = rows.length := by rw [← Array.length_toList, hvs, List.length_map, hr.length]
  have hv : vs[jj]? = some (.ref r) := by rw [← Array.getElem?_toList, hvs, List.getElem?_map, har]; rfl
  have item : ∀ (tk : Tok) (Q : Value → Shared → Prop), Q (.ref r) s₁ → wpAny (model prog w) A (getItem (.ref ad) (.int i1 tk)) Q Fl s₁ := by
    intro tk Q hQ
    rw [sizeLine_eq] at hz
    refine ea_0_3 (hb) fun b1 b2 e => ?_
    by_cases hneg : i1 < 0
    · rw [if_pos hneg] at e
      exact wpAny_getItem_list_neg hL hneg (by lia) (by lia) (by rw [hlen, ← e]; exact hv) hQ
    · rw [if_neg hneg] at e
      exact wpAny_getItem_list hL (by lia) (by lia) (by rw [← e]; exact hv) hQ
  refine tail_any hL.typeIs slot_list_getitem.lookup (item _ _ ?_) (subscripted_plain h3 _ _)
  refine wpAny_mono (hb' fm A s₁ σ Ow m l _ K hA (I.ext x1) h5 hl) (fun u' s₂ ⟨x2, r2⟩ => ?_) fun Z Z q => q
  refine Rep.intE _ r2 fun Z => ?_
  have hL2 : s₂.heap.IsList r ws := ⟨_, x2.keep' _ _ hwg, rfl, _, rfl⟩
  exact tail_any hL2.typeIs slot_list_getitem.lookup (getItem_rep hwz hL2 (hwl.ext x2) hy fun v r => ⟨x1.trans x2, r⟩) (subscripted_plain h3' _ _)
theorem neNil_ok {i : Nat} {fm : Fm} {A : Around} {s : Shared} {σ : St} {Ow : List Addr} {m : Str → Option Value} {x : Str} {p1 p2 : Pos} {xs : List PyData} {Q : Value → Shared → Prop} (K : FmOk hb fm) (hA : AOk A n) (I : Inv prog w hb fm s σ Ow m)
    (h1 : fm.names[i]? = some x) (h2 : isVar fm.S x = true) (hj : σ.ow = some (i, .lst xs)) (hQ : ∀ s', Ext s s' → Q (.bool (!xs.isEmpty)) s') :
    wpAny (model prog w) A (eval (.Name x p1) fm.env) (fun a' s₁ => wpAny (model prog w) A (eval (.List [] p2) fm.env) (fun b' s₂ => wpAny (model prog w) A (compareOp .NotEq a' b') Q Fl s₂) Fl s₁) Fl s := by
  refine loadOwn_ok K I h1 h2 hj fun ad ow Z => ?_
  refine wpAny_List (wpAny_items_nil ⟨Nat.zero_le _, ?_⟩)
  have x1 : Ext s { s with heap := s.heap.push { cls := .type "list", data := .seq ([] : List Value).toArray } } := Ext.push _ (tk := s.toks)
  refine Classical.byContradiction fun hng => ?_
  obtain ⟨_, vs, nn, hz, hg, hl⟩ := ow.ext x1.keep'
  refine hng ?_
  have ra : Rep (s.heap.push { cls := .type "list", data := .seq ([] : List Value).toArray }) (fun Z => False) (.ref ad) (.list xs) :=
    .list (fun q => q) hz ⟨_, hg, rfl, _, rfl⟩ (hl.mono (fun Z Z Z e => e) fun Z Z q => q.elim)
  have rb : Rep (s.heap.push { cls := .type "list", data := .seq ([] : List Value).toArray }) (fun Z => False) (.ref s.heap.objs.size) (.list []) :=
    .list (fun q => q) (Nat.zero_le _) ⟨_, Heap.get?_push_size _ rfl, rfl, _, rfl⟩ .nil
  refine ea_1_1 (ra.reads) fun as qa => ?_
  refine ea_1_1 (rb.reads) fun bs qb => ?_
  have hu := hA.room
  refine SeqAt.compareNe_reads (s := { s with heap := _ }) qa qb ra.canLay rb.canLay (by simp only [PyData.depth, PyData.depthAll]; lia) ?_
  have e : PyData.eqv (.list xs) (.list []) = xs.isEmpty := by
    cases xs <;> simp [PyData.eqv, PyData.eqvAll]
  rw [e]
  exact hQ _ x1
theorem ok_ownNeNil {i : Nat} : EOk prog w hb n C (.ownNeNil i) := by
  intro fm A s σ Ow m e p K hA I hc hp
  refine chk_ownNeNil _ hc fun x p1 p2 pos h1 h2 => ?_
  refine Classical.byContradiction fun hng => ?_
  refine eW hp fun j xs hj hp => ?_
  refine eIf hp fun hij hq => ?_
  subst hij
  cases hq
  refine hng ?_
  exact wpAny_Compare1 (neNil_ok K hA I h1 h2 hj fun s' x => ⟨x, .bool _⟩) rfl
theorem tok_ownNeNil {i : Nat} : TOk prog w hb n C (.ownNeNil i) := by
  intro fm A s σ Ow m e p K hA I hc hp
  refine chk_ownNeNil _ hc fun x p1 p2 pos h1 h2 => ?_
  refine Classical.byContradiction fun hng => ?_
  refine eW hp fun j xs hj hp => ?_
  refine eIf hp fun hij hq => ?_
  subst hij
  cases hq
  refine hng ?_
  exact wpAny_isTrue_Compare1 (neNil_ok K hA I h1 h2 hj fun s' x => wpAny_truthy_bool ⟨x, rfl⟩) rfl
noncomputable def IterOk (prog : Program) (w : World) (s : Shared) (X : Addr → Prop) (it : Addr) (xs : List PyData) : Prop :=
  ∃ (fp : List Addr) (P : Nat → Value → Prop) (St : Nat → Heap → Prop), (∀ A' : Around, A'.handled = Option.none → Walks prog w A' it fp [it] xs.length P St) ∧ St 0 s.heap ∧ (∀ i h, St i h → Al h it) ∧ (∀ b ∈ fp, Al s.heap b) ∧ (∀ b ∈ fp, b ≠ it → ¬ X b) ∧
    ∀ i v x, P i v → xs[i]? = some x → Rep s.heap (fun a => X a ∨ a = it) v x
noncomputable def IOk (prog : Program) (w : World) (hb : Heap) (n : Nat) (C : Nat → List PV → Option PV) (P : PE) : Prop :=
  ∀ (fm : Fm) (A : Around) (s : Shared) (σ : St) (Ow : List Addr) (m : Str → Option Value) (e : Expr) (xs : List PyData), FmOk hb fm → AOk A n → Inv prog w hb fm s σ Ow m →
  chk fm.S fm.names P e = true → pit C P σ = some xs → wpAny (model prog w) A (eval e fm.env) (fun v s₁ => wpAny (model prog w) A (pyIter v) (fun it s₂ => Ext s s₂ ∧ ∃ I, it = .ref I ∧ ¬ Al s.heap I ∧ IterOk prog w s₂ (fm.X Ow) I xs) Fl s₁) Fl s
theorem iter_list {A : Around} {s s₀ : Shared} {X : Addr → Prop} {v : Value} {xs : List PyData} (x : Ext s₀ s) (r : Rep s.heap X v (.list xs)) :
    wpAny (model prog w) A (pyIter v) (fun it s₂ => Ext s₀ s₂ ∧ ∃ I, it = .ref I ∧ ¬ Al s₀.heap I ∧ IterOk prog w s₂ X I xs) Fl s := by
  refine Rep.listE _ r fun a vs hna hsa hga hla => ?_
  have x1 : Ext s { s with heap := s.heap.push { cls := .type "list_iterator", data := .fields #[.ref a, .int 0 0] } } := Ext.push _ (tk := s.toks)
  refine wpAny_pyIter_list hga ⟨x.trans x1, _, rfl, fun q => al_size _ (x.al _ q), ?_⟩
  have hne : a ≠ s.heap.objs.size := fun e => by obtain ⟨o, ho, _⟩ := hga; rw [e, get_size] at ho; cases ho
  have e := hla.length
  simp only [Array.length_toList] at e
  refine ⟨[s.heap.objs.size, a], fun i v => vs[i]? = some v, fun i h => h.IsListIter s.heap.objs.size a i ∧ h.IsList a vs, fun A' hA' => e ▸ Walks.list hA' _ a hne vs, ?_, fun i h q => let ⟨o, ho, _⟩ := q.1; ⟨o, ho⟩, ?_, ?_, ?_⟩
  · refine ⟨⟨_, Heap.get?_push_size _ rfl, rfl, rfl⟩, ?_⟩
    refine ea_1_2 (hga) fun o ho hr => ?_
    exact ⟨o, Heap.get?_push_of_some _ ho, hr⟩
  · intro b hb'
    rcases List.mem_cons.mp hb' with rfl | hb'
    · exact ⟨_, Heap.get?_push_size _ rfl⟩
    · have : b = a := by simpa using hb'
      subst this
      refine ea_1_2 (hga) fun o ho hr => ?_
      exact ⟨o, Heap.get?_push_of_some _ ho⟩
  · intro b hb' hbi
    rcases List.mem_cons.mp hb' with rfl | hb'
    · exact absurd rfl hbi
    · have : b = a := by simpa using hb'
      subst this; exact hna
  · intro i v y hv hy
    refine ea_1_2 (hla.get hy) fun v' hv' r => ?_
    have : v = v' := by
      rw [Array.getElem?_toList, hv] at hv'; exact Option.some.inj hv'
    subst this
    refine r.mono (fun b o Z e => x1.keep' b o e) fun b hb q => q.elim id fun q => ?_
    subst q; exact absurd hb (al_size _)
theorem iter_str {A : Around} {s s₀ : Shared} {X : Addr → Prop} {v : Value} {y : Str} (x : Ext s₀ s) (r : Rep s.heap X v (.str y)) :
    wpAny (model prog w) A (pyIter v) (fun it s₂ => Ext s₀ s₂ ∧ ∃ I, it = .ref I ∧ ¬ Al s₀.heap I ∧ IterOk prog w s₂ X I (chars y)) Fl s := by
  refine Rep.strE _ r fun t hy => ?_
  have hlen : y.cps.size = (chars y).length := by simp [chars]
  have fin : ∀ (o : Obj) (St : Nat → Heap → Prop), o.isFreed = false → (∀ A' : Around, A'.handled = Option.none → Walks prog w A' s.heap.objs.size [s.heap.objs.size] [s.heap.objs.size] y.cps.size (SignAt y) St) → (∀ i h, St i h → Al h s.heap.objs.size) → St 0 (s.heap.push o) →
      Ext s₀ { s with heap := s.heap.push o } ∧ ∃ I, Value.ref s.heap.objs.size = .ref I ∧ ¬ Al s₀.heap I ∧ IterOk prog w { s with heap := s.heap.push o } X I (chars y) := by
    intro o St hf W hal h0
    have x1 : Ext s { s with heap := s.heap.push o } := Ext.push _ (tk := s.toks)
    refine ⟨x.trans x1, _, rfl, fun q => al_size _ (x.al _ q), [s.heap.objs.size], SignAt y, St, fun A' hA' => hlen ▸ W A' hA', h0, hal, ?_, ?_, ?_⟩
    · intro b hb'
      have : b = s.heap.objs.size := by simpa using hb'
      subst this
      exact ⟨_, Heap.get?_push_size _ hf⟩
    · intro b hb' hbi
      exact absurd (by simpa using hb') hbi
    · intro i v z hv hz
      refine ea_2_2 (hv) fun c u hc hrf3 => ?_
      subst hrf3
      have hz' : z = .str ⟨#[c]⟩ := by
        simp only [chars, List.getElem?_map, Array.getElem?_toList, hc, Option.map_some] at hz
        exact (Option.some.inj hz).symm
      subst hz'
      exact .str _ _ ⟨ok_one hy.1 (List.mem_of_getElem? (by rw [Array.getElem?_toList]; exact hc)), by rw [sizeLine_eq]; show 1 ≤ _; decide⟩
  cases ha : y.cps.all (· < 128)
  · exact wpAny_pyIter_wide ha (fin _ _ rfl (fun A' hA => Walks.strWide hA _ y t) (fun i h q => let ⟨o, ho, _⟩ := q; ⟨o, ho⟩) ⟨_, Heap.get?_push_size _ rfl, rfl, rfl⟩)
  · exact wpAny_pyIter_ascii ha (fin _ _ rfl (fun A' hA => Walks.strAscii hA _ y t) (fun i h q => let ⟨o, ho, _⟩ := q; ⟨o, ho⟩) ⟨_, Heap.get?_push_size _ rfl, rfl, rfl⟩)
theorem iter_range {A : Around} {s s₀ : Shared} {X : Addr → Prop} {r : Addr} {a b c : Int} {t u v : Tok} {xs : List PyData} (x : Ext s₀ s) (hr : IsRange s.heap r a b c t u v) (hx : rangeL a b c = some xs) :
    wpAny (model prog w) A (pyIter (.ref r)) (fun it s₂ => Ext s₀ s₂ ∧ ∃ I, it = .ref I ∧ ¬ Al s₀.heap I ∧ IterOk prog w s₂ X I xs) Fl s := by
  unfold rangeL at hx
  split at hx
  · cases hx
  · rename_i hno
    cases hx
    simp only [not_or, Bool.not_eq_false] at hno
    have x1 : Ext s { s with heap := s.heap.push { cls := .type "range_iterator", data := .fields #[rawInt a, rawInt (Builtin.Range.rangeSize a b c), rawInt c] } } := Ext.push _ (tk := s.toks)
    have hpos : 0 ≤ Builtin.Range.rangeSize a b c := by
      unfold Builtin.Range.rangeSize
      split
      · split
        · have := Int.ediv_nonneg (a := b - a - 1) (b := c) (by lia) (by lia); lia
        · lia
      · split
        · have := Int.ediv_nonneg (a := a - b - 1) (b := -c) (by lia) (by lia); lia
        · lia
    refine wpAny_pyIter_range hr hno.2.1 ⟨x.trans x1, _, rfl, fun q => al_size _ (x.al _ q), ?_⟩
    refine ⟨[s.heap.objs.size], fun i v => ∃ t, v = .int (a + i * c) t, fun i h => IsRangeIter h s.heap.objs.size (a + (i : Nat) * c) (((Builtin.Range.rangeSize a b c).toNat : Int) - (i : Nat)) c, fun A' hA' => ?_, ?_, fun i h q => ⟨_, q⟩, ?_, ?_, ?_⟩
    · have := Walks.range (prog := prog) (w := w) hA' s.heap.objs.size a c (Builtin.Range.rangeSize a b c).toNat
      simpa using this
    · show IsRangeIter _ _ _ _ _
      have e : ((Builtin.Range.rangeSize a b c).toNat : Int) - ((0 : Nat) : Int) = Builtin.Range.rangeSize a b c := by lia
      rw [e]
      have e2 : a + ((0 : Nat) : Int) * c = a := by simp
      rw [e2]
      exact Heap.get?_push_size _ rfl
    · intro b' hb'
      have : b' = s.heap.objs.size := by simpa using hb'
      subst this
      exact ⟨_, Heap.get?_push_size _ rfl⟩
    · intro b' hb' hbi
      exact absurd (by simpa using hb') hbi
    · intro i v' z hv hz
      refine ea_1_1 (hv) fun t' hrf1 => ?_
      subst hrf1
      have hz' : z = .int (a + i * c) := by
        rw [List.getElem?_map] at hz
        refine ea_1_2 (Option.map_eq_some_iff.mp hz) fun k hk hrf2 => ?_
        subst hrf2
        by_cases q : i < (Builtin.Range.rangeSize a b c).toNat
        · rw [List.getElem?_range q] at hk; cases hk; rfl
        · rw [List.getElem?_eq_none (by simpa using Nat.not_lt.mp q)] at hk; cases hk
      subst hz'
      exact .int _ _
theorem iok_of {P : PE} (hP : EOk prog w hb n C P) (h : ∀ σ xs, pit C P σ = some xs → pe C P σ = some (.d (.list xs)) ∨ ∃ y, pe C P σ = some (.d (.str y)) ∧ xs = chars y) : IOk prog w hb n C P := by
  intro fm A s σ Ow m e xs K hA I hc hp
  rcases h σ xs hp with hq | ⟨y, hq, rfl⟩
  · exact wpAny_mono (hP fm A s σ Ow m e _ K hA I hc hq) (fun v s₁ ⟨x1, r⟩ => iter_list x1 r) fun Z Z q => q
  · exact wpAny_mono (hP fm A s σ Ow m e _ K hA I hc hq) (fun v s₁ ⟨x1, r⟩ => iter_str x1 r) fun Z Z q => q
theorem iok_var {i : Nat} : IOk prog w hb n C (.var i) := iok_of (ok_var i) fun σ xs h => by
  refine eLS h (fun Z q h => ?_) fun Z q h => ?_
  · cases h; exact .inl q
  · cases h; exact .inr ⟨_, q, rfl⟩
theorem iok_idx {a i : PE} (ha : EOk prog w hb n C (.idx a i)) : IOk prog w hb n C (.idx a i) := iok_of ha fun σ xs h => by
  refine eD2 h fun Z Z e1 e2 h => eL h fun Z q h => ?_
  cases h; exact .inl (by rw [peIdx, e1, e2]; exact q)
theorem iok_bin {op : BOp} {a b : PE} (ha : EOk prog w hb n C (.bin op a b)) : IOk prog w hb n C (.bin op a b) := iok_of ha fun σ xs h => by
  refine eD2 h fun Z Z e1 e2 h => eL h fun Z q h => ?_
  cases h; exact .inl (by rw [peBin, e1, e2]; exact q)
theorem iok_sl {a l u : PE} (ha : EOk prog w hb n C (.sl a l u)) : IOk prog w hb n C (.sl a l u) := iok_of ha fun σ xs h => by
  refine eD3 h fun Z Z Z e1 e2 e3 h => eL h fun Z q h => ?_
  cases h; exact .inl (by rw [peSl, e1, e2, e3]; exact q)
theorem iok_call {k : Nat} {nm : Str} {args : PEs} (ha : EOk prog w hb n C (.call k nm args)) : IOk prog w hb n C (.call k nm args) := iok_of ha fun σ xs h => by
  refine eVs h fun Z e1 h => eL h fun Z q h => ?_
  cases h; exact .inl (by rw [peCall, e1]; exact q)
theorem iok_range1 (G : Gd mg mb hb) {a : PE} (ha : EOk prog w hb n C a) : IOk prog w hb n C (.range1 a) := by
  intro fm A s σ Ow m e xs K hA I hc hp
  refine chk_range1 _ hc fun p1 x pos hg hs h1 => ?_
  refine Classical.byContradiction fun hng => ?_
  refine eI hp fun k hk hp => ?_
  refine hng ?_
  refine type1 G ha K hA I hg bi_range hs h1 hk fun u s' x1 r => ?_
  refine Rep.intE _ r fun Z => ?_
  refine call_range_1 ?_
  exact iter_range (x1.trans (Ext.push _)) (IsRange.new _ _ _ _ _ _ _) hp
theorem iok_range2 (G : Gd mg mb hb) {a b : PE} (ha : EOk prog w hb n C a) (hb' : EOk prog w hb n C b) : IOk prog w hb n C (.range2 a b) := by
  intro fm A s σ Ow m e xs K hA I hc hp
  refine chk_range2 _ hc fun p1 x y pos hg hs hs' h1 h2 => ?_
  refine Classical.byContradiction fun hng => ?_
  refine eI2 hp fun k l hk hl hp => ?_
  refine hng ?_
  refine Call_ (built_ok G K I hg bi_range ?_)
  have e2 : starEach [y] fm.env = [(false, eval y fm.env)] := starEach_plain hs'
  refine PyProof.Rows.callWith_type1 (args_cons (wpAny_mono (ha fm A s σ Ow m x _ K hA I h1 hk) (fun u s₁ ⟨x1, r1⟩ => ?_) fun Z Z q => q) (starEach_plain hs)) (starEach_plain hs) (by rw [e2]; rfl)
  refine args_cons (wpAny_mono (hb' fm A s₁ σ Ow m y _ K hA (I.ext x1) h2 hl) (fun u' s₂ ⟨x2, r2⟩ => args_nil ?_) fun Z Z q => q) (starEach_plain hs')
  refine Rep.intE _ r1 fun Z => ?_; refine Rep.intE _ r2 fun Z => ?_
  refine call_range_2 ?_
  exact iter_range ((x1.trans x2).trans (Ext.push _)) (IsRange.new _ _ _ _ _ _ _) hp
theorem range_log {k l j : Int} {xs : List PyData} (hp : rangeL k l j = some xs) : j ≠ 0 ∧ j.natAbs.log2 < 64 := by
  unfold rangeL at hp
  split at hp
  · cases hp
  · rename_i q
    simp only [not_or, Bool.not_eq_false] at q
    refine ea_0_3 (q) fun hj hsm Z => ?_
    refine ⟨hj, (Nat.log2_lt (Int.natAbs_ne_zero.mpr hj)).mpr ?_⟩
    simp only [Builtin.Range.small, Builtin.Range.rangeFitsLong, Bool.and_eq_true, decide_eq_true_eq] at hsm
    have h1 := hsm.1.1.2
    clear hp hsm
    lia
theorem iok_range3 (G : Gd mg mb hb) {a b c : PE} (ha : EOk prog w hb n C a) (hb' : EOk prog w hb n C b) (hc' : EOk prog w hb n C c) : IOk prog w hb n C (.range3 a b c) := by
  intro fm A s σ Ow m e xs K hA I hc hp
  refine chk_range3 _ hc fun p1 x y z pos hg hs hs' hs'' h1 h2 h3 => ?_
  refine Classical.byContradiction fun hng => ?_
  refine eI3 hp fun k l j hk hl hj hp => ?_
  refine hng ?_
  have hr := range_log hp
  have hj0 := hr.1
  refine Call_ (built_ok G K I hg bi_range ?_)
  have e2 : starEach [y, z] fm.env = [(false, eval y fm.env), (false, eval z fm.env)] := (starEach_plain hs').trans (congrArg _ (starEach_plain hs''))
  refine PyProof.Rows.callWith_type1 (args_cons (wpAny_mono (ha fm A s σ Ow m x _ K hA I h1 hk) (fun u s₁ ⟨x1, r1⟩ => ?_) fun Z Z q => q) (starEach_plain hs)) (starEach_plain hs) (by rw [e2]; rfl)
  refine args_cons (wpAny_mono (hb' fm A s₁ σ Ow m y _ K hA (I.ext x1) h2 hl) (fun u' s₂ ⟨x2, r2⟩ => ?_) fun Z Z q => q) (starEach_plain hs')
  refine args_cons (wpAny_mono (hc' fm A s₂ σ Ow m z _ K hA ((I.ext x1).ext x2) h3 hj) (fun u'' s₃ ⟨x3, r3⟩ => args_nil ?_) fun Z Z q => q) (starEach_plain hs'')
  refine Rep.intE _ r1 fun Z => ?_; refine Rep.intE _ r2 fun Z => ?_; refine Rep.intE _ r3 fun Z => ?_
  refine call_range_3 hj0 ?_ (.inl (PyProof.noPylong_of_log2 ?_))
  rotate_left
  · exact Nat.lt_of_lt_of_le hr.2 (by decide)
  exact iter_range (((x1.trans x2).trans x3).trans (Ext.push _)) (IsRange.new _ _ _ _ _ _ _) hp
theorem dictOk_cons {a b : Str} {r : List (Str × Str)} {ks : List (Option Expr)} {vs : List Expr} (h : dictOk ((a, b) :: r) ks vs = true) :
    ∃ i1 p1 ks' i2 p2 vs', ks = some (.Constant (.str a) i1 p1) :: ks' ∧ vs = .Constant (.str b) i2 p2 :: vs' ∧ sOk a = true ∧ sOk b = true ∧ dictOk r ks' vs' = true := by
  cases ks with
  | nil => exact ff h
  | cons x ks =>
    cases vs with
    | nil => exact ff h
    | cons y vs =>
      cases x with
      | none => exact ff h
      | some x =>
        refine dCst_ind (Q := fun x => ∃ i1 p1 ks' i2 p2 vs', some x :: ks = some (.Constant (.str a) i1 p1) :: ks' ∧ y :: vs = .Constant (.str b) i2 p2 :: vs' ∧ sOk a = true ∧ sOk b = true ∧ dictOk r ks' vs' = true) (fun c k p h => ?_) x h
        refine dCst_ind (Q := fun y => ∃ i1 p1 ks' i2 p2 vs', some (Expr.Constant c k p) :: ks = some (.Constant (.str a) i1 p1) :: ks' ∧ y :: vs = .Constant (.str b) i2 p2 :: vs' ∧ sOk a = true ∧ sOk b = true ∧ dictOk r ks' vs' = true) (fun d k2 p2 h => ?_) y h
        refine eqb_ind (Q := fun c => ∃ i1 p1 ks' i2 p2' vs', some (Expr.Constant c k p) :: ks = some (.Constant (.str a) i1 p1) :: ks' ∧ Expr.Constant d k2 p2 :: vs = .Constant (.str b) i2 p2' :: vs' ∧ sOk a = true ∧ sOk b = true ∧ dictOk r ks' vs' = true) (fun h => ?_) c h
        refine eqb_ind (Q := fun d => ∃ i1 p1 ks' i2 p2' vs', some (Expr.Constant (.str a) k p) :: ks = some (.Constant (.str a) i1 p1) :: ks' ∧ Expr.Constant d k2 p2 :: vs = .Constant (.str b) i2 p2' :: vs' ∧ sOk a = true ∧ sOk b = true ∧ dictOk r ks' vs' = true) (fun h => ?_) d h
        exact ⟨k, p, ks, k2, p2, vs, rfl, rfl, (bb (bb h).1).1, (bb (bb h).1).2, (bb h).2⟩
theorem dict_vals {fm : Fm} {A : Around} {pos : Pos} : ∀ (kvs : List (Str × Str)) (ks : List (Option Expr)) (vs : List Expr), dictOk kvs ks vs = true →
    ∃ pairs : List (Sem Value × Sem Value), (evalEachOpt ks fm.env).zip ((evalEach vs fm.env).map fun v => do let x ← v; standAt pos; pure x) = pairs.map (fun p => (some p.1, p.2)) ∧ pairs.length = kvs.length ∧
      (∀ q ∈ kvs, sOk q.1 = true ∧ sOk q.2 = true) ∧
      ∀ (s : Shared) (Q : List (Value × Value) → Shared → Prop), (∀ us (kv : List (Str × Value)) tk, Carries (strKind prog w) us kv → kv.map (·.1) = kvs.map (·.1) → (∀ k, match kvs.lookup k with | Option.none => valueAt kv k = Option.none | some x => ∃ t, valueAt kv k = some (.str x t)) → us.length = kvs.length → Q us { s with toks := tk }) →
        wpAny (model prog w) A (evalPairs pairs) Q Fl s := by
  intro kvs
  induction kvs with
  | nil =>
    intro ks vs h
    have hk : ks = [] := l0_ind (Q := fun l => l = []) (fun Z => rfl) ks h
    subst hk
    exact ⟨[], rfl, rfl, by simp, fun s Q h => evalPairs_nil (h [] [] s.toks trivial rfl (by simp [valueAt]) rfl)⟩
  | cons kv r ih =>
    intro ks vs h
    obtain ⟨a, b⟩ := kv
    refine ea_6_5 (dictOk_cons h) fun i1 p1 ks i2 p2 vs hrf6 hrf7 h1 h2 h3 => ?_
    subst hrf6
    subst hrf7
    · refine ea_1_4 (ih _ _ h3) fun pairs e hl hok hw => ?_
      refine ⟨(eval (.Constant (.str a) i1 p1) fm.env, do let x ← eval (.Constant (.str b) i2 p2) fm.env; standAt pos; pure x) :: pairs, ?_, ?_, ?_, ?_⟩
      · rw [List.map_cons, ← e]; rfl
      · simp [hl]
      · intro q hq
        rcases List.mem_cons.mp hq with rfl | hq
        · exact ⟨h1, h2⟩
        · exact hok q hq
      · intro s Q hQ
        refine evalPairs_cons (wpAny_Constant_str (wpAny_bind (wpAny_Constant_str (wpAny_bind (wpAny_standAt (wpAny_pure (hw _ _ fun us kv tk hc hn hv hlen => ?_)))))))
        refine hQ _ ((a, .str b (s.toks + 1)) :: kv) tk ⟨strKind_is prog w _ _, rfl, hc⟩ (by simp [hn]) (fun k => ?_) (by simp [hlen])
        have hk := hv k
        rw [List.lookup_cons]
        by_cases q : k = a
        · subst q
          simp [valueAt]
        · have q' : (k == a) = false := by simpa using q
          rw [q']
          have e : valueAt ((a, Value.str b (s.toks + 1)) :: kv) k = valueAt kv k := by
            unfold valueAt
            rw [List.find?_cons_of_neg]
            simpa using fun e => q e.symm
          dsimp only
          rw [e]
          exact hk
theorem lookup_mem {α β : Type} [BEq α] [LawfulBEq α] : ∀ {l : List (α × β)} {k : α} {v : β}, l.lookup k = some v → (k, v) ∈ l
  | [], _, _, h => by cases h
  | (a, b) :: r, k, v, h => by
    rw [List.lookup_cons] at h
    by_cases q : k = a
    · subst q; simp at h; subst h; exact .head _
    · have q' : (k == a) = false := by simpa using q
      rw [q'] at h
      exact .tail _ (lookup_mem h)
theorem ok_dstr (G : Gd mg mb hb) {kvs : List (Str × Str)} : EOk prog w hb n C (.dstr kvs) := by
  intro fm A s σ Ow m e p K hA I hc hp
  refine chk_dstr _ hc fun ks vs pos h1 h2 h3 h4 => ?_
  cases hp
  refine ea_1_4 (dict_vals (prog := prog) (w := w) (fm := fm) (A := A) (pos := pos) kvs ks vs h4) fun pairs e hl hok hw => ?_
  refine wpAny_Dict_pairs (knd := strKind prog w) e (fun q => h1 (List.eq_nil_of_length_eq_zero (by rw [← hl, q]; rfl))) (by lia) (hw _ _ fun us kv tk hc hn hv hlen => ?_)
  have x1 : Ext s { s with heap := s.heap.push { cls := .type "dict", data := .dict #[] } } := Ext.push _ (tk := s.toks)
  refine ⟨kv, hc, Heap.DictOf.new _, fun h' hd hs => ?_⟩
  rw [merged_nil_of_nodup _ (by rw [hn]; exact h3)] at hd
  have hk : ∀ b o, s.heap.get? b = some o → h'.get? b = some o := fun b o e => (hs.2 b (fun q => by rw [q, get_size] at e; cases e)).trans (x1.keep' b o e)
  refine ⟨Ext.of hk, s.heap.objs.size, valueAt kv, rfl, I.fresh K, ?_, hd.mapOf, fun k => ?_⟩
  · refine ea_3_2 (G.g) fun o es ep ho Z => ?_
    have hlt := Heap.lt_size (I.hbk _ _ ho)
    rw [beq_eq_false_iff_ne]
    intro q
    rw [q] at hlt
    exact absurd hlt (by decide)
  · have := hv k
    split at this
    · rename_i q; (try rw [q]); exact this
    · rename_i x q
      try rw [q]
      refine ea_1_1 (this) fun t ht => ?_
      have hmem : (k, x) ∈ kvs := lookup_mem q
      exact ⟨sOk_iff (hok _ hmem).2, t, ht⟩
end
theorem folded_plain {i : Expr} {env : Env} (h : notSet i = true) (x : Value) : foldedSetIterable i env x = pure x := by
  cases i <;> first | rfl | exact absurd h Bool.false_ne_true
noncomputable def closList (env : Env) : List (Str × NameKind) → List (Str × Addr) → List (Str × Addr)
  | [], acc => acc
  | (y, k) :: r, acc => closList env r (if k == .free then (match env.cells.lookup y with | some c => (y, c) :: acc | Option.none => acc) else acc)
theorem clos_forIn (env : Env) : ∀ (l : List (Str × NameKind)) (acc : List (Str × Addr)), (∀ y ∈ l, y.2 = .free → ∃ c, env.cells.lookup y.1 = some c) →
    (forIn l acc (fun (x : Str × NameKind) (r : List (Str × Addr)) => if (x.2 == NameKind.free) = true then do let a ← cellOf env x.1; pure (ForInStep.yield ((x.1, a) :: r)) else pure (ForInStep.yield r)) : Sem (List (Str × Addr))) = pure (closList env l acc)
  | [], acc, _ => rfl
  | (y, k) :: r, acc, h => by
    rw [List.forIn_cons]
    cases hk : (k == NameKind.free) with
    | false =>
      have := clos_forIn env r acc fun z hz => h z (.tail _ hz)
      rw [closList, hk]
      simp only [hk, Bool.false_eq_true, if_false]
      exact this
    | true =>
      refine ea_1_1 (h (y, k) (.head _) (beq_iff_eq.mp hk)) fun c hc => ?_
      have := clos_forIn env r ((y, c) :: acc) fun z hz => h z (.tail _ hz)
      rw [closList, hk]
      simp only [hk, if_true]
      have e : cellOf env y = pure c := by unfold cellOf; rw [show env.cells.lookup y = some c from hc]
      rw [e]
      simp only [show env.cells.lookup y = some c from hc]
      exact this
theorem closureFor_eq {scope : Scope} {env : Env} (h : ∀ y ∈ scope.names, y.2 = .free → ∃ c, env.cells.lookup y.1 = some c) : closureFor scope env = pure (closList env scope.names []) := by
  have := clos_forIn env scope.names [] h
  unfold closureFor
  exact (congrArg (· >>= pure) this)
theorem closList_sub (env : Env) : ∀ (l : List (Str × NameKind)) (acc : List (Str × Addr)), (∀ y c, acc.lookup y = some c → env.cells.lookup y = some c) → ∀ y c, (closList env l acc).lookup y = some c → env.cells.lookup y = some c
  | [], acc, h => h
  | (z, k) :: r, acc, h => by
    rw [closList]
    refine closList_sub env r _ ?_
    intro y c hy
    split at hy
    · split at hy
      · rename_i d hd
        rw [List.lookup_cons] at hy
        by_cases q : y = z
        · subst q; simp at hy; subst hy; exact hd
        · have q' : (y == z) = false := by simpa using q
          rw [q'] at hy; exact h y c hy
      · exact h y c hy
    · exact h y c hy
theorem closList_has (env : Env) : ∀ (l : List (Str × NameKind)) (acc : List (Str × Addr)) (y : Str), (acc.lookup y).isSome = true ∨ ((y, NameKind.free) ∈ l ∧ ∃ c, env.cells.lookup y = some c) → ((closList env l acc).lookup y).isSome = true
  | [], acc, y, h => by
    rcases h with h | ⟨h, _⟩
    · exact h
    · simp at h
  | (z, k) :: r, acc, y, h => by
    rw [closList]
    refine closList_has env r _ y ?_
    rcases h with h | ⟨h, c, hc⟩
    · left
      split
      · split
        · rw [List.lookup_cons]
          by_cases q : y = z
          · subst q; simp
          · have q' : (y == z) = false := by simpa using q
            rw [q']; exact h
        · exact h
      · exact h
    · rcases List.mem_cons.mp h with e | h
      · cases e
        left
        simp only [beq_self_eq_true, if_true, hc]
        rw [List.lookup_cons]; simp
      · exact .inr ⟨h, c, hc⟩
theorem compOk_facts {S : Tab} {N : List Str} {caps : List Nat} {x : Str} {scope : Scope} {N' : List Str} (h : compOk S N caps x scope = some N') :
    ∃ cs, mapO (fun i => N[i]?) caps = some cs ∧ N' = x :: cs ∧ scope.kind = .function ∧ scope.names.lookup x = some .local ∧ (∀ y ∈ scope.names, y.2 ≠ .cell) ∧ (scope.names.map (·.1)).Nodup ∧ scope.isCoroutine = false ∧
      (∀ y ∈ scope.names, y.2 = .free → y.1 ∈ cs ∧ S.lookup y.1 = some .cell) ∧ (∀ c ∈ cs, scope.names.lookup c = some .free ∧ c ≠ x) ∧ cs.Nodup := by
  unfold compOk at h
  split at h
  · rename_i cs hcs
    split at h
    · rename_i hc
      cases h
      simp only [Bool.and_eq_true, beq_iff_eq, List.all_eq_true, bne_iff_ne, decide_eq_true_eq, Bool.not_eq_true', Bool.or_eq_true, ne_eq, List.contains_iff_mem] at hc
      refine Classical.byContradiction fun hng => ?_
      obtain ⟨⟨⟨⟨⟨⟨⟨h1, h2⟩, h3⟩, h4⟩, h5⟩, h6⟩, h7⟩, h8⟩ := hc
      refine hng ?_
      exact ⟨cs, hcs, rfl, h1, h2, h3, h4, h5, fun y hy hf => (h6 y hy).resolve_left (fun q => q hf), fun c hc => h7 c hc, h8⟩
    · cases h
  · cases h
theorem lookup_of_mem_nodup' : ∀ {l : List (Str × NameKind)} {y : Str} {k : NameKind}, (l.map (·.1)).Nodup → (y, k) ∈ l → l.lookup y = some k
  | (z, j) :: r, y, k, hn, h => by
    rw [List.map_cons, List.nodup_cons] at hn
    rw [List.lookup_cons]
    rcases List.mem_cons.mp h with e | h
    · cases e; simp
    · have : y ≠ z := fun q => hn.1 (q ▸ List.mem_map.mpr ⟨_, h, rfl⟩)
      have q' : (y == z) = false := by simpa using this
      rw [q']
      exact lookup_of_mem_nodup' hn.2 h
theorem mem_of_lookup' {l : List (Str × NameKind)} {y : Str} {k : NameKind} (h : l.lookup y = some k) : (y, k) ∈ l := lookup_mem h
theorem relabel_lookup {scope : Scope} {env : Env} (y : Str) : (relabel scope env).names.lookup y = (scope.names.lookup y).map fun k => if (k == .free && env.scope.kind == .function && env.kindOf y == some .cell) then .cell else k := by
  unfold relabel
  dsimp only
  induction scope.names with
  | nil => rfl
  | cons z r ih =>
    obtain ⟨z, k⟩ := z
    rw [List.map_cons]
    have e : (if ((z, k).snd == NameKind.free && env.scope.kind == ScopeKind.function && env.kindOf (z, k).fst == some NameKind.cell) = true then ((z, k).fst, NameKind.cell) else ((z, k).fst, (z, k).snd)) =
        (z, if (k == NameKind.free && env.scope.kind == ScopeKind.function && env.kindOf z == some NameKind.cell) = true then NameKind.cell else k) := by
      dsimp only
      split <;> rfl
    rw [e, List.lookup_cons, List.lookup_cons]
    by_cases q : y = z
    · subst q; simp
    · have q' : (y == z) = false := by simpa using q
      rw [q']
      exact ih
noncomputable def inEnv (env : Env) (scope : Scope) (c : Addr) : Env :=
  { scope := relabel scope env, locals := c, globals := env.globals, cells := closList env scope.names [], qual := env.qual, func := Option.none, code := env.code, frame := env.frame, builtins := env.builtins }
noncomputable def inFm (fm : Fm) (Ow : List Addr) (scope : Scope) (N' : List Str) (c i d : Addr) (h0 : Heap) : Fm :=
  { env := inEnv fm.env scope c, S := scope.names, names := N', Kb := [c], Xb := fun a => fm.X Ow a ∨ a = i ∨ a = d, A0 := Al h0, own := false, Pc := fun Z => False, T := fun Z => True }
theorem mapO_length {α β : Type} {f : α → Option β} : ∀ {l : List α} {r : List β}, mapO f l = some r → r.length = l.length
  | [], r, h => by cases h; rfl
  | x :: l, r, h => by
    refine eMap h fun y ys hy hys h => ?_
    cases h
    rw [List.length_cons, List.length_cons, mapO_length hys]
theorem mapO_get {α β : Type} {f : α → Option β} : ∀ {l : List α} {r : List β} {i : Nat} {x : α}, mapO f l = some r → l[i]? = some x → ∃ y, f x = some y ∧ r[i]? = some y
  | [], r, i, x, _, e => by simp at e
  | z :: l, r, i, x, h, e => by
    refine eMap h fun y ys hy hys h => ?_
    cases h
    cases i with
    | zero => rw [List.getElem?_cons_zero] at e; cases e; exact ⟨y, hy, rfl⟩
    | succ i => rw [List.getElem?_cons_succ] at e ⊢; exact mapO_get hys e
section
variable {prog : Program} {w : World} {hb : Heap} {fm : Fm} {s : Shared} {σ : St} {Ow : List Addr} {m : Str → Option Value} {scope : Scope} {N' cs : List Str} {x : Str} {caps : List Nat} {c i d : Addr} {h0 : Heap}
theorem in_ok (K : FmOk hb fm) (hk : scope.kind = .function) (hnc : ∀ y ∈ scope.names, y.2 ≠ .cell) (hfr : ∀ y ∈ scope.names, y.2 = .free → y.1 ∈ cs ∧ fm.S.lookup y.1 = some .cell)
    (hcs : cs.Nodup) (hne : ∀ z ∈ cs, z ≠ x) (hN : N' = x :: cs) (hb0 : ∀ b o, hb.get? b = some o → h0.get? b = some o) (hxb : ∀ a, fm.X Ow a ∨ a = i ∨ a = d → Al h0 a ∧ ¬ Al hb a) (hc : ¬ Al h0 c) :
    FmOk hb (inFm fm Ow scope N' c i d h0) where
  kind := hk
  globals := K.globals
  builtins := K.builtins
  loc := fun y h => by
    show (relabel scope fm.env).names.lookup y = _
    rw [relabel_lookup, show scope.names.lookup y = some .local from h]; rfl
  glo := fun y h => by
    show (relabel scope fm.env).names.lookup y = _
    rw [relabel_lookup, show scope.names.lookup y = some .globalImplicit from h]; rfl
  cel := fun y h => absurd rfl (hnc _ (mem_of_lookup' h))
  fre := fun y h => by
    show (relabel scope fm.env).names.lookup y = _ ∨ (relabel scope fm.env).names.lookup y = _
    rw [relabel_lookup, show scope.names.lookup y = some .free from h, Option.map_some]
    split
    · exact .inl rfl
    · exact .inr rfl
  locK := .head _
  hb0 := fun b o e => ⟨o, hb0 b o e⟩
  xb := hxb
  celK := fun h => by cases h
  celHas := fun y h => absurd rfl (hnc _ (mem_of_lookup' h))
  celInj := fun y z k h1 h2 => K.celInj y z k (closList_sub fm.env _ [] (by simp) y k h1) (closList_sub fm.env _ [] (by simp) z k h2)
  nodup := by
    show N'.Nodup
    rw [hN, List.nodup_cons]
    exact ⟨fun q => hne _ q rfl, hcs⟩
  newK := fun a h => by
    have : a = c := by simpa [inFm] using h
    subst this; exact hc
  pcX := fun a h => h.elim
noncomputable def Turn (c i d : Addr) (a : Addr) : Prop := a = c ∨ a = i ∨ a = d
theorem in_inv (K : FmOk hb fm) (I : Inv prog w hb fm s σ Ow m) (hmap : mapO (fun j => fm.names[j]?) caps = some cs) (hN : N' = x :: cs) (hx : scope.names.lookup x = some .local)
    (hfr : ∀ y ∈ scope.names, y.2 = .free → y.1 ∈ cs ∧ fm.S.lookup y.1 = some .cell) (hcf : ∀ z ∈ cs, scope.names.lookup z = some .free ∧ z ≠ x)
    {s' : Shared} {m' : Str → Option Value} {v : Value} {y : PyData} (hk : ∀ b o, s.heap.get? b = some o → s'.heap.get? b = some o) (hg : AllBare s'.gens) (hci : ¬ Al s.heap c) (hii : ¬ Al s.heap i) (hdi : ¬ Al s.heap d)
    (hns : s'.heap.Ns c m') (hal : ∀ a, Al h0 a → Al s'.heap a) (hm : m' x = some v) (hr : Rep s'.heap ((inFm fm Ow scope N' c i d h0).X []) v y) :
    Inv prog w hb (inFm fm Ow scope N' c i d h0) s' (inner σ caps y) [] m' where
  hbk := fun b o e => hk b o (I.hbk b o e)
  gens := hg
  ns := hns
  alK := fun a h => by
    have : a = c := by simpa [inFm] using h
    subst this
    refine ea_3_2 (hns) fun o Z Z ho Z => ?_
    exact ⟨o, ho⟩
  alO := fun a h => by simp at h
  al0 := hal
  newO := fun a h => by simp at h
  disj := fun a h => by simp at h
  cells := fun z k h => by
    refine ea_2_2 (I.cells z k (closList_sub fm.env _ [] (by simp) z k h)) fun u o ho hd => ?_
    exact ⟨u, o, hk _ _ ho, hd⟩
  vars := fun j p h => by
    cases j with
    | zero =>
      have : p = .d y := by
        simp only [St.get, inner, List.getD_cons_zero] at h
        exact (Option.some.inj h).symm
      subst this
      refine ⟨x, v, by show N'[0]? = _; rw [hN]; rfl, .inl ⟨?_, hm⟩, hr⟩
      show (relabel scope fm.env).names.lookup x = _
      rw [relabel_lookup, hx]; rfl
    | succ j =>
      have hj : (caps.map σ.get).getD j Option.none = some p := h
      rw [List.getD_eq_getElem?_getD, List.getElem?_map] at hj
      cases hcj : caps[j]? with
      | none => rw [hcj] at hj; cases hj
      | some t =>
        rw [hcj] at hj
        have hσ : σ.get t = some p := hj
        refine ea_2_3 (I.vars t p hσ) fun z u h1 h2 h3 => ?_
        refine ea_1_2 (mapO_get hmap hcj) fun z' e1 e2 => ?_
        have : z' = z := by rw [h1] at e1; exact (Option.some.inj e1).symm
        subst this
        have hzc : z' ∈ cs := List.mem_of_getElem? e2
        refine ea_0_2 (hcf z' hzc) fun hfree hzx => ?_
        have hcell := (hfr _ (mem_of_lookup' hfree) rfl).2
        have hkc := K.cel z' hcell
        refine ea_1_1 (K.celHas z' hcell) fun k hkk => ?_
        refine ⟨z', u, by show N'[j + 1]? = _; rw [hN, List.getElem?_cons_succ]; exact e2, .inr ⟨.inl ?_, k, ?_, ?_⟩, ?_⟩
        · show (relabel scope fm.env).names.lookup z' = _
          rw [relabel_lookup, hfree, Option.map_some]
          have h4 : (fm.env.scope.kind == ScopeKind.function) = true := by rw [K.kind]; rfl
          have h5 : (fm.env.kindOf z' == some NameKind.cell) = true := by rw [hkc]; rfl
          rw [h4, h5]; rfl
        · have hs := closList_has fm.env scope.names [] z' (.inr ⟨mem_of_lookup' hfree, k, hkk⟩)
          show (closList fm.env scope.names []).lookup z' = _
          cases hq : (closList fm.env scope.names []).lookup z' with
          | none => rw [hq] at hs; cases hs
          | some k' =>
            have := closList_sub fm.env _ [] (by simp) z' k' hq
            rw [hkk] at this; rw [this]
        · rcases h2 with ⟨q, _⟩ | ⟨_, k', hk', hcell'⟩
          · rw [hkc] at q; cases q
          · rw [hkk] at hk'; cases hk'
            exact hcell'.keeps hk
        · refine h3.mono (fun b o Z e => hk b o e) fun a ha q => ?_
          rcases q with (q | q | q) | q | q
          · exact q
          · subst q; exact absurd ha hii
          · subst q; exact absurd ha hdi
          · have : a = c := by simpa [inFm] using q
            subst this; exact absurd ha hci
          · simp at q
  own := fun j ov h => by cases h
  tab := trivial
  tSt := fun Z Z Z Z => trivial
end
theorem filterMapO_snoc {α β : Type} {t : α → Option Bool} {f : α → Option β} : ∀ {l : List α} {r : List β} {x : α} {b : Bool}, filterMapO t f l = some r → t x = some b → (b = true → (f x).isSome = true) →
    filterMapO t f (l ++ [x]) = some (if b then r ++ (f x).toList else r)
  | [], r, x, b, h, ht, hf => by
    cases h
    rw [List.nil_append, filterMapO, ht]
    cases b with
    | false => rfl
    | true =>
      cases hx : f x with
      | none => rw [hx] at hf; exact absurd (hf rfl) (by simp)
      | some y => simp [filterMapO, hx]
  | z :: l, r, x, b, h, ht, hf => by
    rw [List.cons_append, filterMapO]
    refine eFil h (fun hz h => ?_) fun y ys hz hy hys h => ?_
    · rw [hz]; exact filterMapO_snoc h ht hf
    · cases h
      simp only [hz, hy, filterMapO_snoc hys ht hf]
      cases b <;> simp
theorem filterMapO_at {α β : Type} {t : α → Option Bool} {f : α → Option β} : ∀ {l : List α} {r : List β} {j : Nat} {x : α}, filterMapO t f l = some r → l[j]? = some x → ∃ b, t x = some b ∧ (b = true → ∃ y, f x = some y)
  | [], r, j, x, _, e => by simp at e
  | z :: l, r, j, x, h, e => by
    refine eFil h (fun hz h => ?_) fun y ys hz hy hys h => ?_
    · cases j with
      | zero => rw [List.getElem?_cons_zero] at e; cases e; exact ⟨false, hz, fun q => by cases q⟩
      | succ j => rw [List.getElem?_cons_succ] at e; exact filterMapO_at h e
    · cases j with
      | zero => rw [List.getElem?_cons_zero] at e; cases e; exact ⟨true, hz, fun Z => ⟨y, hy⟩⟩
      | succ j => rw [List.getElem?_cons_succ] at e; exact filterMapO_at hys e
section
variable {prog : Program} {w : World} {hb : Heap} {n : Nat} {C : Nat → List PV → Option PV}
theorem comp_core {β : Type} {fm : Fm} {A : Around} {s : Shared} {σ : St} {Ow : List Addr} {m : Str → Option Value} (K : FmOk hb fm) (hA : AOk A n) (I₀ : Inv prog w hb fm s σ Ow m)
    {scope : Scope} {x : Str} {caps : List Nat} {N' : List Str} (hco : compOk fm.S fm.names caps x scope = some N')
    {it : PE} {i : Expr} (hit : IOk prog w hb n C it) (hci : chk fm.S fm.names it i = true) (hns : notSet i = true) {xs : List PyData} (hxs : pit C it σ = some xs) (hlen : xs.length ≤ lim)
    {elt : Expr} {ifs : List Expr} {px pos cpos : Pos} (t : PyData → Option Bool) (f : PyData → Option β) {bs : List β} (hbs : filterMapO t f xs = some bs)
    (Acc : (Addr → Prop) → Heap → List Value → List β → Prop) (acc0 : ∀ X h, Acc X h [] [])
    (accM : ∀ X h h' vs bs, Acc X h vs bs → (∀ b o, ¬ X b → h.get? b = some o → h'.get? b = some o) → Acc X h' vs bs)
    (htest : ∀ (fm' : Fm) (s' : Shared) (m' : Str → Option Value) (y : PyData) (b : Bool), FmOk hb fm' → fm'.S = scope.names → fm'.names = N' → Inv prog w hb fm' s' (inner σ caps y) [] m' → t y = some b →
      wpAny (model prog w) A (forIn ifs true fun c r => if r = true then do let ok ← isTrue c fm'.env (eval c fm'.env); pure (ForInStep.yield ok) else pure (ForInStep.yield r)) (fun ok s'' => Ext s' s'' ∧ ok = b) Fl s')
    (helt : ∀ (fm' : Fm) (s' : Shared) (m' : Str → Option Value) (y : PyData) (b : β) (vs : List Value) (bs' : List β), FmOk hb fm' → fm'.S = scope.names → fm'.names = N' → Inv prog w hb fm' s' (inner σ caps y) [] m' → f y = some b →
      (∀ a, Al s.heap a → Al s'.heap a) → Acc (fm'.X []) s'.heap vs bs' → wpAny (model prog w) A (eval elt fm'.env) (fun v s'' => Ext s' s'' ∧ Acc (fm'.X []) s''.heap (vs ++ [v]) (bs' ++ [b])) Fl s')
    {use : Option (Value → Sem Unit)} {Q : Value → Shared → Prop}
    (hend : ∀ (d c : Addr) (s' : Shared) (vs : Array Value) (k : Nat) (X' : Addr → Prop), Ext s s' → ¬ Al s.heap d → ¬ Al s.heap c → d ≠ c → s'.heap.get? d = some { cls := .type "list", data := .seq vs k } → vs.size ≤ sizeLine →
      Acc X' s'.heap vs.toList bs → (∀ a, Al s.heap a → X' a → fm.X Ow a) → (∀ a, fm.X Ow a → X' a) → X' d → X' c → (∃ m, s'.heap.Ns c m) →
      match use with
      | Option.none => ∀ h', Heap.SameBut c s'.heap h' → Q (.ref d) { s' with heap := h' }
      | some u => wpAny (model prog w) A (u (.ref d)) (fun Z s'' => (∃ m, s''.heap.Ns c m) ∧ ∀ h', Heap.SameBut c s''.heap h' → Q .none { s'' with heap := h' }) Fl s') :
    wpAny (model prog w) A (comprehension (.ListComp elt [⟨.Name x px, i, ifs, 0⟩] scope pos) scope fm.env cpos (newList []) false (eval i fm.env) use) Q Fl s := by
  refine ea_1_10 (compOk_facts hco) fun cs hmap hN hkind hx hnc hnd hcor hfr hcf hcsn => ?_
  have hclos := closureFor_eq (scope := scope) (env := fm.env) fun y hy hf => K.celHas _ (hfr y hy hf).2
  refine wpAny_comprehension_free rfl (fun v => folded_plain hns v) hclos hkind (fun y hy hl => by rw [lookup_of_mem_nodup' hnd (show (y.1, y.2) ∈ scope.names from hy), hl]) ?_
  refine wpAny_mono (hit fm A s σ Ow m i xs K hA I₀ hci hxs) (fun v s₁ h₁ => wpAny_mono h₁ (fun itv s₂ ⟨x2, ia, eit, hia, hiter⟩ => ?_) fun Z Z q => q) fun Z Z q => q
  subst eit
  refine ea_3_6 (hiter) fun fp P St W hst hStAl hfal hfx hPr => ?_
  have hW := W A hA.1
  refine wpAny_newObj_type (wpAny_newFunctionEnv hnc (by intro y hy; simp at hy) (fun h₁ hns₁ hsb₁ => ?_) hkind)
  dsimp only at hns₁ hsb₁ ⊢
  generalize hH2 : s₂.heap.push { cls := .type "list", dict := none, data := .seq ([] : List Value).toArray } = H2 at hns₁ hsb₁ ⊢
  have hdne : ¬ Al s₂.heap s₂.heap.objs.size := al_size _
  have hcne : ¬ Al H2 H2.objs.size := al_size _
  have hd2 : H2.get? s₂.heap.objs.size = some { cls := .type "list", data := .seq #[] 0 } := hH2 ▸ Heap.get?_push_size _ rfl
  have h22 : ∀ b o, s₂.heap.get? b = some o → H2.get? b = some o := fun b o e => hH2 ▸ Heap.get?_push_of_some _ e
  generalize s₂.heap.objs.size = d at hdne hd2 ⊢
  have hsb : ∀ b, b ≠ H2.objs.size → ∀ o, H2.get? b = some o → h₁.get? b = some o := fun b hb' o e => hsb₁.extBut b o hb' (Heap.get?_push_of_some _ e)
  have hc1 : h₁.Ns H2.objs.size (fun Z => Option.none) := hns₁
  generalize H2.objs.size = c at hcne hsb hc1 ⊢
  clear hns₁ hsb₁
  have hH2h : ∀ b o, H2.get? b = some o → h₁.get? b = some o := fun b o e => hsb b (fun q => hcne (q ▸ ⟨o, e⟩)) o e
  have hia2 : Al s₂.heap ia := hStAl _ _ hst
  have iaH : Al H2 ia := let ⟨o, e⟩ := hia2; ⟨o, h22 _ _ e⟩
  have hdc : d ≠ c := fun q => hcne (q ▸ ⟨_, hd2⟩)
  have hic : ia ≠ c := fun q => hcne (q ▸ iaH)
  have hid : ia ≠ d := fun q => hdne (q ▸ hia2)
  have hds : ¬ Al s.heap d := fun q => hdne (x2.al _ q)
  have hcs' : ¬ Al s.heap c := fun q => hcne (let ⟨o, e⟩ := x2.al _ q; ⟨o, h22 _ _ e⟩)
  have hbs2 : ∀ b o, hb.get? b = some o → H2.get? b = some o := fun b o e => h22 b o (x2.keep' b o (I₀.hbk b o e))
  have hFm : FmOk hb (inFm fm Ow scope N' c ia d H2) := in_ok K hkind hnc hfr hcsn (fun z hz => (hcf z hz).2) hN hbs2 (fun a q => by
    rcases q with q | q | q
    · exact ⟨let ⟨o, e⟩ := x2.al _ (I₀.alX K q); ⟨o, h22 _ _ e⟩, I₀.xhb K q⟩
    · subst q; exact ⟨iaH, fun ⟨o, e⟩ => hia ⟨o, I₀.hbk _ _ e⟩⟩
    · subst q; exact ⟨⟨_, hd2⟩, fun ⟨o, e⟩ => hds ⟨o, I₀.hbk _ _ e⟩⟩) hcne
  have hX' : ∀ a, (inFm fm Ow scope N' c ia d H2).X [] a ↔ (fm.X Ow a ∨ a = ia ∨ a = d) ∨ a = c := fun a => by
    constructor
    · intro q
      rcases q with q | q | q
      · exact .inl q
      · exact .inr (by simpa [inFm] using q)
      · simp at q
    · intro q
      rcases q with q | q
      · exact .inl q
      · exact .inr (.inl (by simp [inFm, q]))
  generalize hXX : (inFm fm Ow scope N' c ia d H2).X [] = X' at hX'
  have notT : ∀ b, Al s.heap b → ¬ Turn c ia d b := fun b hb' q => by
    rcases q with q | q | q
    · exact hcs' (q ▸ hb')
    · exact hia (q ▸ hb')
    · exact hds (q ▸ hb')
  have TX : ∀ b, Turn c ia d b → X' b := fun b q => (hX' b).mpr (by
    rcases q with q | q | q
    · exact .inr q
    · exact .inl (.inr (.inl q))
    · exact .inl (.inr (.inr q)))
  have loop : ∀ s₄ : Shared, s₄ = { s₂ with heap := h₁, toks := s₂.toks + ([] : List (Str × Value)).length } →
      codeAny (model prog w) A (.compLoop (.ListComp elt [⟨.Name x px, i, ifs, 0⟩] scope pos) 0 (.ref ia) (.ref d) (inEnv fm.env scope c)) (compPost (model prog w) A Fl use Q (.ref d) c) s₄ := by
    intro s₄ hs₄
    have e4h : s₄.heap = h₁ := by rw [hs₄]
    refine codeAny_compLoop_tests (fun k s' => ∃ (j : Nat) (vs : Array Value) (kk : Nat) (bs' : List β) (m' : Str → Option Value), k = xs.length + 1 - j ∧ j ≤ xs.length ∧ filterMapO t f (xs.take j) = some bs' ∧ vs.size ≤ j ∧
      s'.heap.get? d = some { cls := .type "list", data := .seq vs kk } ∧ Acc X' s'.heap vs.toList bs' ∧ St j s'.heap ∧ s'.heap.Ns c m' ∧ (∀ b o, ¬ Turn c ia d b → h₁.get? b = some o → s'.heap.get? b = some o) ∧
      s'.os = s.os ∧ AllBare s'.gens ∧ (∀ b, Al H2 b → Al s'.heap b)) ?_ (xs.length + 1)
      ⟨0, #[], 0, [], fun Z => Option.none, rfl, Nat.zero_le _, by simp [filterMapO], Nat.le_refl _, by rw [e4h]; exact hH2h _ _ hd2, acc0 _ _, ?_, by rw [e4h]; exact hc1, by rw [e4h]; exact fun Z Z Z e => e, by rw [hs₄]; exact x2.os, by rw [hs₄]; exact x2.gens I₀.gens, by rw [e4h]; exact fun b ⟨o, e⟩ => ⟨o, hH2h _ _ e⟩⟩
    rotate_left
    · rw [e4h]; exact hW.frame _ _ _ hst fun b Z o e => hH2h b o (h22 b o e)
    intro k s' hcase
    refine ea_5_12 (hcase) fun j vs kk bs' m' hrf5 hj hfb hvj hgd hacc hst' hns' hkeep hos hgens hal => ?_
    subst hrf5
    have chain : ∀ b o, s.heap.get? b = some o → s'.heap.get? b = some o := fun b o e => hkeep b o (notT b ⟨o, e⟩) (hH2h b o (h22 b o (x2.keep' b o e)))
    by_cases hlt : j < xs.length
    · obtain ⟨y, hy⟩ : ∃ y, xs[j]? = some y := ⟨xs[j], by simp [hlt]⟩
      refine ea_1_2 (filterMapO_at hbs hy) fun b htb hfy => ?_
      refine hW.item j s' _ _ hlt hst' fun v h₂ tk₂ hPv hst₂ hk₂ => ?_
      have hk₂' : ∀ b o, b ≠ ia → s'.heap.get? b = some o → h₂.get? b = some o := fun b o hb' e => hk₂ b o (by simpa using hb') e
      have hns₂ : h₂.Ns c m' := hns'.at' fun o e => hk₂' c o (Ne.symm hic) e
      have hkx : (inEnv fm.env scope c).kindOf x = some .local := by
        show (relabel scope fm.env).names.lookup x = _
        rw [relabel_lookup, hx]; rfl
      have hp : ((inEnv fm.env scope c).scope.kind == .class || ((inEnv fm.env scope c).scope.kind == .module && (inEnv fm.env scope c).locals != (inEnv fm.env scope c).globals)) = false := by
        show (scope.kind == .class || (scope.kind == .module && _)) = false
        rw [hkind]; rfl
      refine wpAny_assign_Name (wpAny_storeName_local hkx hns₂ (fun h₃ hns₃ hs₃ => ?_) hp)
      have hs₃' : Heap.SameBut c h₂ h₃ := hs₃
      have hns₃' : h₃.Ns c (fun z => if z = x then some v else m' z) := hns₃
      have hk₃ : ∀ b o, b ≠ ia → b ≠ c → s'.heap.get? b = some o → h₃.get? b = some o := fun b o h1 h2 e => hs₃'.extBut b o h2 (hk₂' b o h1 e)
      have hst₃ : St (j + 1) h₃ := hW.frame _ _ _ hst₂ fun b hb' o e => hs₃'.extBut b o (fun q => by
        refine ea_1_1 (hfal b hb') fun o' e' => ?_
        exact hcne (q ▸ ⟨o', h22 _ _ e'⟩)) e
      have hal₃ : ∀ b, Al H2 b → Al h₃ b := fun b hb' => by
        by_cases q : b = ia
        · subst q; exact hStAl _ _ hst₃
        · refine ea_1_1 (hal b hb') fun o e => ?_
          exact ⟨o, hk₃ b o q (fun q' => hcne (q' ▸ hb')) e⟩
      have hacc₃ : Acc X' h₃ vs.toList bs' := accM _ _ _ _ _ hacc fun b o hb' e => hk₃ b o (fun q => hb' (TX _ (.inr (.inl q)))) (fun q => hb' (TX _ (.inl q))) e
      have hrep : Rep h₃ X' v y := (hPr j v y hPv hy).mono (fun b o hb' e => by
          have hbn : b ≠ ia := fun q => hb' (.inr q)
          have hbc : b ≠ c := fun q => hcne (q ▸ ⟨o, h22 _ _ e⟩)
          have hbd : b ≠ d := fun q => hdne (q ▸ ⟨o, e⟩)
          have hnT : ¬ Turn c ia d b := fun q => q.elim hbc fun q => q.elim hbn hbd
          exact hk₃ b o hbn hbc (hkeep b o hnT (hH2h b o (h22 b o e)))) (fun a ha q => by
        rcases (hX' a).mp q with (q | q | q) | q
        · exact .inl q
        · exact .inr q
        · exact absurd (q ▸ ha) hdne
        · obtain ⟨o, e⟩ := ha; exact absurd (q ▸ ⟨o, h22 _ _ e⟩) hcne)
      have chain₃ : ∀ b o, s.heap.get? b = some o → h₃.get? b = some o := fun b o e => hk₃ b o (fun q => hia (q ▸ ⟨o, e⟩)) (fun q => hcs' (q ▸ ⟨o, e⟩)) (chain b o e)
      have hInv : Inv prog w hb (inFm fm Ow scope N' c ia d H2) { s' with heap := h₃, toks := tk₂ + 1 } (inner σ caps y) [] (fun z => if z = x then some v else m' z) :=
        in_inv K I₀ hmap hN hx hfr hcf chain₃ hgens hcs' hia hds hns₃' hal₃ (by simp) (hXX ▸ hrep)
      refine wpAny_mono (htest _ _ _ y b hFm rfl rfl hInv htb) (fun ok s₅ ⟨x5, eok⟩ => ?_) fun Z Z q => q.elim
      subst eok
      have hgd₅ : s₅.heap.get? d = some { cls := .type "list", data := .seq vs kk } := x5.keep' _ _ (hk₃ d _ (Ne.symm hid) hdc hgd)
      have hacc₅ : Acc X' s₅.heap vs.toList bs' := accM _ _ _ _ _ hacc₃ fun b o Z e => x5.keep' b o e
      have htake : xs.take (j + 1) = xs.take j ++ [y] := by rw [List.take_add_one, hy]; rfl
      have hkeep₅ : ∀ b o, ¬ Turn c ia d b → h₁.get? b = some o → s₅.heap.get? b = some o := fun b o hb' e => x5.keep' b o (hk₃ b o (fun q => hb' (.inr (.inl q))) (fun q => hb' (.inl q)) (hkeep b o hb' e))
      cases ok with
      | false =>
        simp only [Bool.false_eq_true, if_false]
        refine ⟨xs.length + 1 - (j + 1), by lia, j + 1, vs, kk, bs', _, rfl, hlt, ?_, by lia, hgd₅, hacc₅, hW.frame _ _ _ hst₃ fun b Z o e => x5.keep' b o e, hns₃'.keeps x5.keep', hkeep₅, x5.os.trans hos, x5.gens hgens, fun b hb' => x5.al b (hal₃ b hb')⟩
        rw [htake, filterMapO_snoc hfb htb (fun q => by cases q)]; rfl
      | true =>
        simp only [if_true]
        refine ea_1_1 (hfy rfl) fun fy hfy' => ?_
        refine wpAny_mono (helt _ s₅ _ y fy vs.toList bs' hFm rfl rfl (hInv.ext x5) hfy' (fun a ⟨o, e⟩ => ⟨o, x5.keep' _ _ (chain₃ _ _ e)⟩) (hXX ▸ hacc₅)) (fun u s₆ ⟨x6, hacc₆⟩ => ?_) fun Z Z q => q.elim
        have hgd₆ := x6.keep' _ _ hgd₅
        have hsz : vs.size ≤ sizeLine := by have := lim_line; lia
        refine wpAny_list_append_plain (hsz := hsz) ⟨kk, hgd₆⟩ fun h₇ hpl hs₇ => ?_
        refine ea_1_1 (hpl) fun k7 hg7 => ?_
        refine ⟨xs.length + 1 - (j + 1), by lia, j + 1, vs.push u, k7, bs' ++ [fy], _, rfl, hlt, ?_, by rw [Array.size_push]; lia, hg7, ?_, ?_, ((hns₃'.keeps x5.keep').keeps x6.keep').sameBut hs₇ (Ne.symm hdc), ?_, (x6.os.trans x5.os).trans hos, x6.gens (x5.gens hgens), ?_⟩
        · rw [htake, filterMapO_snoc hfb htb (fun Z => by rw [hfy']; rfl), hfy']; rfl
        · rw [Array.toList_push]
          exact accM _ _ _ _ _ (hXX ▸ hacc₆) fun b o hb' e => hs₇.extBut b o (fun q => hb' (TX _ (.inr (.inr q)))) e
        · refine hW.frame _ _ _ hst₃ fun b hb' o e => hs₇.extBut b o (fun q => ?_) (x6.keep' b o (x5.keep' b o e))
          exact hdne (q ▸ hfal b hb')
        · exact fun b o hb' e => hs₇.extBut b o (fun q => hb' (.inr (.inr q))) (x6.keep' b o (hkeep₅ b o hb' e))
        · intro b hb'
          by_cases q : b = d
          · subst q; exact ⟨_, hg7⟩
          · refine ea_1_1 (x6.al b (x5.al b (hal₃ b hb'))) fun o e => ?_
            exact ⟨o, hs₇.extBut b o q e⟩
    · have hje : j = xs.length := by lia
      subst hje
      refine hW.done s' _ _ hst' fun h₂ tk₂ hk₂ => ?_
      have hk₂' : ∀ b o, b ≠ ia → s'.heap.get? b = some o → h₂.get? b = some o := fun b o hb' e => hk₂ b o (by simpa using hb') e
      rw [List.take_length, hbs] at hfb
      cases hfb
      have hxs' : Ext s { s' with heap := h₂, toks := tk₂ } := by
        have kp : ∀ b o, s.heap.get? b = some o → h₂.get? b = some o := fun b o e => hk₂' b o (fun q => hia (q ▸ ⟨o, e⟩)) (chain b o e)
        exact ⟨fun b o Z e => kp b o e, fun b ⟨o, e⟩ => ⟨o, kp b o e⟩, hos, fun Z => hgens⟩
      have hns₂ : h₂.Ns c m' := hns'.at' fun o e => hk₂' c o (Ne.symm hic) e
      have hE := hend d c { s' with heap := h₂, toks := tk₂ } vs kk X' hxs' hds hcs' hdc (hk₂' d _ (Ne.symm hid) hgd) (by have := lim_line; lia)
        (accM _ _ _ _ _ hacc fun b o hb' e => hk₂' b o (fun q => hb' (TX _ (.inr (.inl q)))) e)
        (fun a ha q => by
          rcases (hX' a).mp q with (q | q | q) | q
          · exact q
          · exact absurd (q ▸ ha) hia
          · exact absurd (q ▸ ha) hds
          · exact absurd (q ▸ ha) hcs') (fun a q => (hX' a).mpr (.inl (.inl q))) (TX _ (.inr (.inr rfl))) (TX _ (.inl rfl)) ⟨m', hns₂⟩
      cases use with
      | none => exact ⟨m', hns₂, hE⟩
      | some u => exact wpAny_mono hE (fun _ s'' ⟨⟨mm, hm⟩, q⟩ => ⟨mm, hm, q⟩) fun Z Z q => q
  exact codeAny_compStart_list (loop _ rfl) (hW.self 0 _ _ _ (hW.frame _ _ _ hst fun b Z o e => hH2h b o (h22 b o e)) (loop _ rfl))
end
theorem filterMapO_all {α β : Type} {f : α → Option β} : ∀ {l : List α} {r : List β}, mapO f l = some r → filterMapO (fun Z => some true) f l = some r
  | [], r, h => h
  | x :: l, r, h => by
    rw [mapO] at h
    rw [filterMapO]
    split at h
    · cases h
    · rename_i y hy
      split at h
      · cases h
      · rename_i ys hys
        cases h
        simp only [hy, filterMapO_all hys]
structure CE (fm : Fm) (Ow : List Addr) (s s' : Shared) (d c : Addr) (vs : Array Value) (R : (Addr → Prop) → Heap → List Value → Prop) : Prop where
  ext : Ext s s'
  nd : ¬ Al s.heap d
  nc : ¬ Al s.heap c
  ne : d ≠ c
  obj : ∃ k, s'.heap.get? d = some { cls := .type "list", data := .seq vs k }
  sz : vs.size ≤ sizeLine
  rep : ∃ X' : Addr → Prop, R X' s'.heap vs.toList ∧ (∀ a, Al s.heap a → X' a → fm.X Ow a) ∧ (∀ a, fm.X Ow a → X' a) ∧ X' d ∧ X' c
  ns : ∃ m, s'.heap.Ns c m
section
variable (prog : Program) (w : World) (hb : Heap) (n : Nat) (C : Nat → List PV → Option PV)
noncomputable def UOk (P : PE) : Prop := ∀ (fm : Fm) (A : Around) (s : Shared) (σ : St) (Ow : List Addr) (m : Str → Option Value) (el : Expr) (gens : List Comprehension) (scope : Scope) (pos : Pos) (xs : List PyData), FmOk hb fm → AOk A n → Inv prog w hb fm s σ Ow m →
  chk fm.S fm.names P (.ListComp el gens scope pos) = true → pe C P σ = some (.d (.list xs)) → ∀ (use : Option (Value → Sem Unit)) (Q : Value → Shared → Prop),
  (∀ d c s' vs, CE fm Ow s s' d c vs (fun X h us => RepL h X us xs) →
      match use with
      | Option.none => ∀ h', Heap.SameBut c s'.heap h' → Q (.ref d) { s' with heap := h' }
      | some u => wpAny (model prog w) A (u (.ref d)) (fun Z s'' => (∃ m, s''.heap.Ns c m) ∧ ∀ h', Heap.SameBut c s''.heap h' → Q .none { s'' with heap := h' }) Fl s') →
  wpAny (model prog w) A (comprehension (.ListComp el gens scope pos) scope fm.env (firstIterPos gens pos) (newList []) (firstAsync gens) (firstIter gens fm.env) use) Q Fl s
end
section
variable {prog : Program} {w : World} {mg mb : Str → Option Value} {hb : Heap} {n : Nat} {C : Nat → List PV → Option PV}
theorem uok_comp {caps : List Nat} {elt it : PE} (helt : EOk prog w hb n C elt) (hit : IOk prog w hb n C it) : UOk prog w hb n C (.comp caps elt it) := by
  intro fm A s σ Ow m el gens scope pos xs K hA I hc hp use Q hend
  refine ea_6_4 (chk_comp_ex hc) fun el' x p1 i scope' pos' e h1 h2 h3 => ?_
  cases e
  refine Classical.byContradiction fun hng => ?_
  refine eXs hp fun ys hys hp => ?_
  refine eIf hp fun hlen hp => ?_
  refine ea_1_2 (Option.map_eq_some_iff.mp hp) fun zs hzs e => ?_
  refine hng ?_
  cases e
  refine eCo h1 fun N' hN' h1 => ?_
  refine comp_core K hA I hN' hit h3 h2 hys hlen (fun Z => some true) (fun x => match pe C elt (inner σ caps x) with | some p => toD p | Option.none => Option.none) (filterMapO_all hzs)
    (fun X h vs bs => RepL h X vs bs) (fun Z Z => .nil) (fun X h h' vs bs r hk => r.mono hk fun Z Z q => q) ?_ ?_ ?_
  · intro fm' s' m' y b _ _ _ _ hb'
    cases hb'
    exact wpAny_pure ⟨Ext.refl _, rfl⟩
  · intro fm' s' m' y b vs bs' K' hS hN I' hf _ hacc
    refine eP hf fun p hp' hf => ?_
    cases p with
    | d z =>
      cases hf
      exact wpAny_mono (helt fm' A s' _ _ m' el _ K' hA I' (by rw [hS, hN]; exact h1) hp') (fun v s'' ⟨x1, r⟩ => ⟨x1, (hacc.ext x1).snoc r⟩) fun Z Z q => q
    | di m => cases hf
    | ds m => cases hf
  · intro d c s' vs k X' x1 hd hc' hdc hg hsz hacc h4 h5 h6 h7 h8
    exact hend d c s' vs ⟨x1, hd, hc', hdc, ⟨k, hg⟩, hsz, ⟨X', hacc, h4, h5, h6, h7⟩, h8⟩
theorem uok_compIf {caps : List Nat} {elt it cond : PE} (helt : EOk prog w hb n C elt) (hit : IOk prog w hb n C it) (hcond : TOk prog w hb n C cond) : UOk prog w hb n C (.compIf caps elt it cond) := by
  intro fm A s σ Ow m el gens scope pos xs K hA I hc hp use Q hend
  refine ea_7_4 (chk_compIf_ex hc) fun el' x p1 i ce scope' pos' e h1 h2 h3 => ?_
  cases e
  refine Classical.byContradiction fun hng => ?_
  refine eXs hp fun ys hys hp => ?_
  refine eIf hp fun hlen hp => ?_
  refine ea_1_2 (Option.map_eq_some_iff.mp hp) fun zs hzs e => ?_
  refine hng ?_
  cases e
  refine eCo h1 fun N' hN' h1 => ?_
  rw [Bool.and_eq_true] at h1
  refine comp_core K hA I hN' hit h3 h2 hys hlen (fun x => pt C cond (inner σ caps x)) (fun x => match pe C elt (inner σ caps x) with | some p => toD p | Option.none => Option.none) hzs
    (fun X h vs bs => RepL h X vs bs) (fun Z Z => .nil) (fun X h h' vs bs r hk => r.mono hk fun Z Z q => q) ?_ ?_ ?_
  · intro fm' s' m' y b K' hS hN I' hb'
    rw [List.forIn_cons]
    simp only [if_true]
    refine wpAny_bind (wpAny_bind (wpAny_mono (hcond fm' A s' _ _ m' ce b K' hA I' (by rw [hS, hN]; exact h1.2) hb') (fun v s'' ⟨x1, e⟩ => ?_) fun Z Z q => q))
    refine wpAny_pure ?_
    exact wpAny_pure ⟨x1, e⟩
  · intro fm' s' m' y b vs bs' K' hS hN I' hf _ hacc
    refine eP hf fun p hp' hf => ?_
    cases p with
    | d z =>
      cases hf
      exact wpAny_mono (helt fm' A s' _ _ m' el _ K' hA I' (by rw [hS, hN]; exact h1.1) hp') (fun v s'' ⟨x1, r⟩ => ⟨x1, (hacc.ext x1).snoc r⟩) fun Z Z q => q
    | di m => cases hf
    | ds m => cases hf
  · intro d c s' vs k X' x1 hd hc' hdc hg hsz hacc h4 h5 h6 h7 h8
    exact hend d c s' vs ⟨x1, hd, hc', hdc, ⟨k, hg⟩, hsz, ⟨X', hacc, h4, h5, h6, h7⟩, h8⟩
theorem same_ext {s s' : Shared} {c : Addr} {h' : Heap} (x : Ext s s') (hc : ¬ Al s.heap c) (hs : Heap.SameBut c s'.heap h') : Ext s { s' with heap := h' } := by
  have kp : ∀ b o, s.heap.get? b = some o → h'.get? b = some o := fun b o e => hs.extBut b o (fun q => hc (q ▸ ⟨o, e⟩)) (x.keep' b o e)
  exact ⟨fun b o Z e => kp b o e, fun b ⟨o, e⟩ => ⟨o, kp b o e⟩, x.os, x.gens⟩
theorem CE.done {fm : Fm} {s s' : Shared} {σ : St} {Ow : List Addr} {m : Str → Option Value} {d c : Addr} {vs : Array Value} {xs : List PyData} (K : FmOk hb fm) (I : Inv prog w hb fm s σ Ow m)
    (h : CE fm Ow s s' d c vs (fun X h us => RepL h X us xs)) {h' : Heap} (hs : Heap.SameBut c s'.heap h') : Ext s { s' with heap := h' } ∧ RepV prog w h' (fm.X Ow) (.ref d) (.d (.list xs)) := by
  refine Classical.byContradiction fun hng => ?_
  obtain ⟨x1, hd, hc, hdc, ⟨k, hg⟩, hsz, ⟨X', hr, h4, h5, h6, h7⟩, h8⟩ := h
  refine hng ?_
  refine ⟨same_ext x1 hc hs, .list (vs := vs) (fun q => hd (I.alX K q)) hsz ⟨_, hs.extBut d _ hdc hg, rfl, k, rfl⟩ (hr.mono (fun b o hb' e => hs.extBut b o (fun q => hb' (q ▸ h7)) e) fun a Z q => h5 a q)⟩
theorem ok_ofU {P : PE} (hU : UOk prog w hb n C P) (hl : ∀ (S : Tab) (N : List Str) (e : Expr), chk S N P e = true → ∃ el gens scope pos, e = .ListComp el gens scope pos) (hv : ∀ σ p, pe C P σ = some p → ∃ xs, p = .d (.list xs)) : EOk prog w hb n C P := by
  intro fm A s σ Ow m e p K hA I hc hp
  refine ea_4_1 (hl _ _ _ hc) fun el gens scope pos hrf4 => ?_
  subst hrf4
  refine ea_1_1 (hv _ _ hp) fun xs hrf1 => ?_
  subst hrf1
  rw [eval_ListComp]
  exact hU fm A s σ Ow m el gens scope pos xs K hA I hc hp Option.none _ fun d c s' vs h h' hs => h.done K I hs
theorem ok_comp {caps : List Nat} {elt it : PE} (helt : EOk prog w hb n C elt) (hit : IOk prog w hb n C it) : EOk prog w hb n C (.comp caps elt it) := by
  refine ok_ofU (uok_comp helt hit) (fun S N e h => ?_) fun σ p h => ?_
  · refine ea_6_2 (chk_comp_ex h) fun el' x p1 i scope' pos' e Z => ?_
    exact ⟨_, _, _, _, e⟩
  · refine eXs h fun Z Z h => ?_
    refine eIf h fun Z h => ?_
    refine ea_1_2 (Option.map_eq_some_iff.mp h) fun zs hzs e => ?_
    exact ⟨zs, e.symm⟩
theorem ok_compIf {caps : List Nat} {elt it cond : PE} (helt : EOk prog w hb n C elt) (hit : IOk prog w hb n C it) (hcond : TOk prog w hb n C cond) : EOk prog w hb n C (.compIf caps elt it cond) := by
  refine ok_ofU (uok_compIf helt hit hcond) (fun S N e h => ?_) fun σ p h => ?_
  · refine ea_7_2 (chk_compIf_ex h) fun el' x p1 i ce scope' pos' e Z => ?_
    exact ⟨_, _, _, _, e⟩
  · refine eXs h fun Z Z h => ?_
    refine eIf h fun Z h => ?_
    refine ea_1_2 (Option.map_eq_some_iff.mp h) fun zs hzs e => ?_
    exact ⟨zs, e.symm⟩
end
section
variable (prog : Program) (w : World) (hb : Heap)
noncomputable def Post (fm : Fm) (s : Shared) (Ow : List Addr) (r : St × Option PV) (fl : Flow) (s' : Shared) : Prop :=
  ∃ Ow' m', Inv prog w hb fm s' r.1 Ow' m' ∧ Keep (fun a => fm.O Ow a ∨ fm.Pc a) s s' ∧ (∀ a ∈ Ow', a ∈ Ow ∨ ¬ Al s.heap a) ∧
    match r.2 with | Option.none => fl = .next | some p => ∃ v, fl = .ret v ∧ RepV prog w s'.heap (fm.X Ow') v p
variable (n : Nat) (C : Nat → List PV → Option PV) (G : Fm → Prop)
noncomputable def TSOk (t : PE) : Prop := ∀ (fm : Fm), G fm → FmOk hb fm → fm.own = true → ∀ (A : Around) (s : Shared) (σ : St) (Ow : List Addr) (m : Str → Option Value) (e : Expr) (b : Bool), AOk A n → Inv prog w hb fm s σ Ow m →
  chk fm.S fm.names t e = true → pt C t σ = some b → wpAny (model prog w) A (isTrue e fm.env (eval e fm.env)) (fun v s' => Inv prog w hb fm s' σ Ow m ∧ Keep fm.Pc s s' ∧ v = b) Fl s
noncomputable def StOk (P : PS) : Prop := ∀ (fm : Fm), G fm → FmOk hb fm → fm.own = true → ∀ (A : Around) (s : Shared) (σ : St) (Ow : List Addr) (m : Str → Option Value) (st : Stmt) (r : St × Option PV), AOk A n → Inv prog w hb fm s σ Ow m →
  chkS fm.S fm.names P st = true → ps C P σ = some r → wpAny (model prog w) A (exec st fm.env) (Post prog w hb fm s Ow r) Fl s
noncomputable def SsOk (P : PSs) : Prop := ∀ (fm : Fm), G fm → FmOk hb fm → fm.own = true → ∀ (A : Around) (s : Shared) (σ : St) (Ow : List Addr) (m : Str → Option Value) (ss : List Stmt) (r : St × Option PV), AOk A n → Inv prog w hb fm s σ Ow m →
  chkSs fm.S fm.names P ss = true → pss C P σ = some r → wpAny (model prog w) A (execs ss fm.env) (Post prog w hb fm s Ow r) Fl s
end
section
variable {prog : Program} {w : World} {mg mb : Str → Option Value} {hb : Heap} {n : Nat} {C : Nat → List PV → Option PV} {G : Fm → Prop}
theorem TSOk.of {t : PE} (h : TOk prog w hb n C t) : TSOk prog w hb n C G t := by
  intro fm _ K _ A s σ Ow m e b hA I hc hp
  exact wpAny_mono (h fm A s σ Ow m e b K hA I hc hp) (fun v s' ⟨x, e⟩ => ⟨I.ext x, x.toKeep, e⟩) fun Z Z q => q
theorem Post.trans {fm : Fm} {s s₁ s₂ : Shared} {Ow Ow₁ : List Addr} {r : St × Option PV} {fl : Flow} (kp : Keep (fun a => fm.O Ow a ∨ fm.Pc a) s s₁) (ho : ∀ a ∈ Ow₁, a ∈ Ow ∨ ¬ Al s.heap a) (h : Post prog w hb fm s₁ Ow₁ r fl s₂) : Post prog w hb fm s Ow r fl s₂ := by
  refine ea_2_4 (h) fun Ow' m' I' kp' ho' hr => ?_
  refine ⟨Ow', m', I', kp.trans kp' fun a ha q => ?_, fun a ha => ?_, hr⟩
  · rcases q with (q | q) | q
    · exact .inl (.inl q)
    · exact .inl (.inr ((ho a q).resolve_right (fun h => h ha)))
    · exact .inr q
  · rcases ho' a ha with q | q
    · exact ho a q
    · exact .inr fun h => q (kp.al a h)
theorem ss_nil : SsOk prog w hb n C G .nil := by
  intro fm _ K own A s σ Ow m ss r hA I hc hp
  rw [chkSs_nil hc]
  cases hp
  exact wpAny_execs_nil ⟨Ow, m, I, Keep.refl _ _, fun a h => .inl h, rfl⟩
theorem ss_cons' {P : PS} {Ps : PSs} (hP : StOk prog w hb n C G P) (hPs : SsOk prog w hb n C G Ps) (hc' : ∀ S N ss, chkSs S N (.cons P Ps) ss = true → ∃ x xs, ss = x :: xs ∧ chkS S N P x = true ∧ chkSs S N Ps xs = true) : SsOk prog w hb n C G (.cons P Ps) := by
  intro fm hG K own A s σ Ow m ss r hA I hc hp
  refine ea_2_3 (hc' _ _ _ hc) fun x xs hrf2 h1 h2 => ?_
  subst hrf2
  refine wpAny_execs_cons ?_
  refine eR hp (fun σ' hσ hp => ?_) fun σ' p hσ hp => ?_
  · refine wpAny_mono (hP fm hG K own A s σ Ow m x _ hA I h1 hσ) (fun fl s₁ h => ?_) fun Z Z q => q
    refine ea_2_4 (h) fun Ow₁ m₁ I₁ kp ho hr => ?_
    dsimp only at hr
    subst hr
    exact wpAny_mono (hPs fm hG K own A s₁ _ Ow₁ m₁ xs r hA I₁ h2 hp) (fun fl s₂ h => Post.trans kp ho h) fun Z Z q => q
  · cases hp
    refine wpAny_mono (hP fm hG K own A s σ Ow m x _ hA I h1 hσ) (fun fl s₁ h => ?_) fun Z Z q => q
    have h' := h
    refine ea_2_4 (h) fun Ow₁ m₁ I₁ kp ho hr => ?_
    refine ea_1_2 (hr) fun v e Z => ?_
    subst e
    exact h'
theorem touchOw {fm : Fm} {s : Shared} {σ σ' : St} {Ow : List Addr} {m : Str → Option Value} {a : Addr} {h' : Heap} {tk : Nat} (K : FmOk hb fm) (own : fm.own = true) (I : Inv prog w hb fm s σ Ow m) (ha : a ∈ Ow) (hs : Heap.SameBut a s.heap h') (hal : Al h' a)
    (hvars : ∀ i, σ'.get i = σ.get i) (how : ∀ i ov, σ'.ow = some (i, ov) → ∃ x a', fm.names[i]? = some x ∧ HasVar fm.env m s.heap x (.ref a') ∧ OwnRep h' (fm.X Ow) Ow a' ov) :
    Inv prog w hb fm { s with heap := h', toks := tk } σ' Ow m ∧ Keep (fun b => fm.O Ow b ∨ fm.Pc b) s { s with heap := h', toks := tk } := by
  have kp : ∀ b o, b ≠ a → s.heap.get? b = some o → h'.get? b = some o := fun b o hb' e => (hs.2 b hb').trans e
  have al : ∀ b, Al s.heap b → Al h' b := fun b ⟨o, e⟩ => by
    by_cases q : b = a
    · exact q ▸ hal
    · exact ⟨o, kp b o q e⟩
  have hX : ∀ b o, ¬ fm.X Ow b → s.heap.get? b = some o → h'.get? b = some o := fun b o hb' e => kp b o (fun q => hb' (.inr (.inr (q ▸ ha)))) e
  have hKb : ∀ b ∈ fm.Kb, b ≠ a := fun b hb' q => I.disj a ha (q ▸ hb')
  have hA0 : ∀ b, fm.A0 b → b ≠ a := fun b hb' q => I.newO a ha (q ▸ hb')
  have hcl : ∀ y c, fm.env.cells.lookup y = some c → c ≠ a := fun y c e => hKb c (K.celK own y c e)
  have hv : ∀ y u, HasVar fm.env m s.heap y u → HasVar fm.env m h' y u := fun y u h => h.keeps fun c hc o e => kp c o (hcl y c hc) e
  refine ⟨⟨fun b o e => kp b o (hA0 b (K.hb0 b o e)) (I.hbk b o e), I.gens, I.ns.at' fun o e => kp _ o (hKb _ K.locK) e, fun b h => al b (I.alK b h), fun b h => al b (I.alO b h), fun b h => al b (I.al0 b h), I.newO, I.disj,
    fun y c e => ?_, fun i p e => ?_, fun i ov e => ?_, I.tSt _ _ I.tab fun b o hb' e => kp b o ?_ e, I.tSt⟩, ⟨fun b o hb' e => kp b o (fun q => hb' (.inl (.inr (q ▸ ha)))) e, al, rfl, fun e => e⟩⟩
  · refine ea_2_2 (I.cells y c e) fun v o ho hd => ?_
    exact ⟨v, o, kp _ _ (hcl y c e) ho, hd⟩
  · rw [hvars] at e
    refine ea_2_3 (I.vars i p e) fun y v h1 h2 h3 => ?_
    exact ⟨y, v, h1, hv y v h2, h3.mono hX fun Z Z q => q⟩
  · refine ea_2_3 (how i ov e) fun y a' h1 h2 h3 => ?_
    exact ⟨y, a', h1, hv y _ h2, h3⟩
  · rcases hb' with ⟨o', e'⟩ | hb'
    · exact hA0 b (K.hb0 b o' e')
    · exact hA0 b (K.xb b (K.pcX b hb')).1
theorem touchX {fm : Fm} {s : Shared} {σ : St} {Ow : List Addr} {m : Str → Option Value} {c : Addr} {h' : Heap} {tk : Nat} (K : FmOk hb fm) (own : fm.own = true) (I : Inv prog w hb fm s σ Ow m) (hc : fm.Xb c) (hP : ¬ fm.Pc c)
    (kp : ∀ b o, b ≠ c → s.heap.get? b = some o → h'.get? b = some o) (hal : Al h' c) : Inv prog w hb fm { s with heap := h', toks := tk } σ Ow m := by
  have al : ∀ b, Al s.heap b → Al h' b := fun b ⟨o, e⟩ => by
    by_cases q : b = c
    · exact q ▸ hal
    · exact ⟨o, kp b o q e⟩
  have hX : ∀ b o, ¬ fm.X Ow b → s.heap.get? b = some o → h'.get? b = some o := fun b o hb' e => kp b o (fun q => hb' (.inl (q ▸ hc))) e
  have hKb : ∀ b ∈ fm.Kb, b ≠ c := fun b hb' q => K.newK b hb' (q ▸ (K.xb c hc).1)
  have hO : ∀ b ∈ Ow, b ≠ c := fun b hb' q => I.newO b hb' (q ▸ (K.xb c hc).1)
  have hhb : ∀ b o, hb.get? b = some o → b ≠ c := fun b o e q => (K.xb c hc).2 (q ▸ ⟨o, e⟩)
  have hcl : ∀ y k, fm.env.cells.lookup y = some k → k ≠ c := fun y k e => hKb k (K.celK own y k e)
  have hv : ∀ y u, HasVar fm.env m s.heap y u → HasVar fm.env m h' y u := fun y u h => h.keeps fun k hk o e => kp k o (hcl y k hk) e
  refine ⟨fun b o e => kp b o (hhb b o e) (I.hbk b o e), I.gens, I.ns.at' fun o e => kp _ o (hKb _ K.locK) e, fun b h => al b (I.alK b h), fun b h => al b (I.alO b h), fun b h => al b (I.al0 b h), I.newO, I.disj,
    fun y k e => ?_, fun i p e => ?_, fun i ov e => ?_, I.tSt _ _ I.tab fun b o hb' e => kp b o ?_ e, I.tSt⟩
  · refine ea_2_2 (I.cells y k e) fun v o ho hd => ?_
    exact ⟨v, o, kp _ _ (hcl y k e) ho, hd⟩
  · refine ea_2_3 (I.vars i p e) fun y v h1 h2 h3 => ?_
    exact ⟨y, v, h1, hv y v h2, h3.mono hX fun Z Z q => q⟩
  · refine ea_2_3 (I.own i ov e) fun y a h1 h2 h3 => ?_
    refine ⟨y, a, h1, hv y _ h2, ?_⟩
    cases ov with
    | lst xs => obtain ⟨h0, vs, n, e1, e2, e3⟩ := h3; exact ⟨h0, vs, n, e1, kp _ _ (hO a h0) e2, e3.mono hX fun Z Z q => q⟩
    | dict m =>
      refine Classical.byContradiction fun hng => ?_
      obtain ⟨h0, g, ⟨o, es, ep, ho, q⟩, e2, e3⟩ := h3
      refine hng ?_
      exact ⟨h0, g, ⟨o, es, ep, kp _ _ (hO a h0) ho, q⟩, e2, e3.of_same ho (kp _ _ (hO a h0) ho)⟩
    | tab rows =>
      refine Classical.byContradiction fun hng => ?_
      obtain ⟨h0, vs, n, as', e1, e2, e3, e4, e5, e6, e7⟩ := h3
      refine hng ?_
      exact ⟨h0, vs, n, as', e1, kp _ _ (hO a h0) e2, e3, e4, e5, e6, e7.mono (fun r hr o e => kp r o (hO r (e6 r hr)) e) hX fun Z Z q => q⟩
  · rcases hb' with ⟨o', e'⟩ | hb'
    · exact hhb b o' e'
    · exact fun q => hP (q ▸ hb')
theorem get_setVar {σ : St} {i j : Nat} {p q : PV} {o : Option (Nat × OV)} (h : (⟨σ.vars.set i (some p), o⟩ : St).get j = some q) : (j = i ∧ q = p) ∨ (j ≠ i ∧ σ.get j = some q) := by
  simp only [St.get, List.getD_eq_getElem?_getD, List.getElem?_set] at h
  by_cases e : i = j
  · subst e
    refine .inl ⟨rfl, ?_⟩
    by_cases l : i < σ.vars.length
    · simp [l] at h; exact h.symm
    · simp [l] at h
  · refine .inr ⟨fun q => e q.symm, ?_⟩
    simpa [e, St.get, List.getD_eq_getElem?_getD] using h
theorem rows_repL {h : Heap} {X : Addr → Prop} : ∀ {as : List Addr} {rows : List (List PyData)}, (∀ a ∈ as, ¬ X a) → Rows h X as rows → RepL h X (as.map Value.ref) (rows.map .list)
  | _, _, _, .nil => .nil
  | _, _, hx, .cons h1 h2 h3 h4 => .cons (.list (hx _ (.head _)) h1 ⟨_, h2, rfl, _, rfl⟩ h3) (rows_repL (fun a ha => hx a (.tail _ ha)) h4)
theorem freeze_ok {fm : Fm} {s : Shared} {σ : St} {Ow : List Addr} {m : Str → Option Value} {i : Nat} {ov : OV} (K : FmOk hb fm) (I : Inv prog w hb fm s σ Ow m) (ho : σ.ow = some (i, ov)) :
    Inv prog w hb fm s ⟨σ.vars.set i (some (thaw ov)), Option.none⟩ [] m := by
  have hx : ∀ a, Al s.heap a → fm.X [] a → fm.X Ow a := fun a Z q => by
    rcases q with q | q | q
    · exact .inl q
    · exact .inr (.inl q)
    · simp at q
  have hn : ∀ a ∈ Ow, ¬ fm.X [] a := fun a ha q => by
    rcases q with q | q | q
    · exact I.newO a ha (K.xb a q).1
    · exact I.disj a ha q
    · simp at q
  refine ⟨I.hbk, I.gens, I.ns, I.alK, by simp, I.al0, by simp, by simp, I.cells, fun j p e => ?_, fun j ov' e => (by cases e), I.tab, I.tSt⟩
  rcases get_setVar e with ⟨rfl, rfl⟩ | ⟨ne, e⟩
  · refine ea_2_3 (I.own _ _ ho) fun y a h1 h2 h3 => ?_
    refine ⟨y, .ref a, h1, h2, ?_⟩
    cases ov with
    | lst xs => obtain ⟨h0, vs, n, e1, e2, e3⟩ := h3; exact .list (hn a h0) e1 ⟨_, e2, rfl, n, rfl⟩ (e3.mono (fun Z Z Z e => e) hx)
    | dict mm => obtain ⟨h0, g, h4, h5, h6⟩ := h3; exact ⟨a, g, rfl, hn a h0, h4, h5⟩
    | tab rows =>
      refine Classical.byContradiction fun hng => ?_
      obtain ⟨h0, vs, n, as', e1, e2, e3, e4, e5, e6, e7⟩ := h3
      refine hng ?_
      refine .list (hn a h0) e1 ⟨_, e2, rfl, n, rfl⟩ ?_
      rw [e3]
      exact rows_repL (fun a ha => hn a (e6 a ha)) (e7.mono (fun Z Z Z e => e) (fun Z Z Z e => e) hx)
  · refine ea_2_3 (I.vars j p e) fun y v h1 h2 h3 => ?_
    exact ⟨y, v, h1, h2, h3.mono (fun Z Z Z e => e) hx⟩
theorem ss_freeze {i : Nat} {Ps : PSs} (hPs : SsOk prog w hb n C G Ps) : SsOk prog w hb n C G (.cons (.freeze i) Ps) := by
  intro fm hG K own A s σ Ow m ss r hA I hc hp
  have hc := chkSs_freeze hc
  refine eR hp (fun σ' hσ hp => ?_) fun σ' p hσ Z => ?_
  · refine eWA hσ fun j o ho hσ => eIf hσ fun hij hq => ?_
    subst hij
    cases hq
    exact wpAny_mono (hPs fm hG K own A s _ [] m ss r hA (freeze_ok K I ho) hc hp) (fun fl s₂ h => Post.trans (Keep.refl _ _) (by simp) h) fun Z Z q => q
  · refine eWA hσ fun j o ho hσ => eIf hσ fun hij hσ => ?_
    cases hσ
end
theorem swaps_false {v : Expr} {t : Expr} {l : Nat} {env : Env} (h : plainV v = true) : swapsWith v (some t) l env = pure false := by
  cases v <;> first | rfl | exact absurd h Bool.false_ne_true
theorem chk_plainV {S : Tab} {N : List Str} {P : PE} {v : Expr} (h : chk S N P v = true) : plainV v = true ∨ ∃ el gens scope pos, v = .ListComp el gens scope pos := by
  cases v <;> first | exact .inl rfl | exact .inr ⟨_, _, _, _, rfl⟩ | (exfalso; cases P <;> exact ff h)
theorem swaps_comp (el gens scope pos x p l env) : ∃ b, swapsWith (.ListComp el gens scope pos) (some (.Name x p)) l env = pure b := ⟨_, rfl⟩
inductive Tgt where
  | val (p : PV)
  | own (ov : OV)
noncomputable def Tgt.put (t : Tgt) (σ : St) (i : Nat) : St := match t with
  | .val p => σ.set i p
  | .own ov => σ.setOw i ov
noncomputable def Tgt.good (prog : Program) (w : World) (t : Tgt) (h : Heap) (X : Addr → Prop) (Ow : List Addr) (a : Addr) : Prop := match t with
  | .val p => RepV prog w h X (.ref a) p
  | .own ov => OwnRep h X Ow a ov
section
variable {prog : Program} {w : World} {mg mb : Str → Option Value} {hb : Heap} {n : Nat} {C : Nat → List PV → Option PV} {G : Fm → Prop}
theorem storeT_ok {fm : Fm} {s : Shared} {σ : St} {Ow : List Addr} {m : Str → Option Value} {A : Around} {i : Nat} {t : Tgt} {x : Str} {a : Addr} {Q : Unit → Shared → Prop} (K : FmOk hb fm) (I : Inv prog w hb fm s σ Ow m) (hn : fm.names[i]? = some x) (hv : canStore fm.S x = true) (hown : fm.own = true)
    (hr : t.good prog w s.heap (fm.X Ow) Ow a) (h : ∀ s' m', Inv prog w hb fm s' (t.put σ i) Ow m' → Keep (fun a => a ∈ fm.Kb) s s' → Q () s') :
    wpAny (model prog w) A (storeName fm.env x (.ref a)) Q Fl s := by
  cases t with
  | val p => exact store_ok K I hn hv hown hr h
  | own ov => exact storeOwn_ok K I hn hv hown hr h
theorem Inv.grow0 {fm : Fm} {s s' : Shared} {σ : St} {Ow : List Addr} {m : Str → Option Value} {as : List Addr} (I : Inv prog w hb fm s σ Ow m) (x : Ext s s') (ha : ∀ a ∈ as, ¬ Al s.heap a ∧ Al s'.heap a) :
    Inv prog w hb fm s' σ (as ++ Ow) m := by
  have hx : ∀ b, Al s.heap b → fm.X (as ++ Ow) b → fm.X Ow b := fun b hal q => by
    rcases q with q | q | q
    · exact .inl q
    · exact .inr (.inl q)
    · rcases List.mem_append.mp q with q | q
      · exact absurd hal (ha b q).1
      · exact .inr (.inr q)
  have hk := x.keep'
  refine ⟨fun b o e => hk b o (I.hbk b o e), x.gens I.gens, I.ns.keeps hk, fun a h => x.al a (I.alK a h), fun a h => ?_, fun a h => x.al a (I.al0 a h), fun a h q => ?_, fun a h q => ?_, fun y c h => ?_, fun i p h => ?_, fun i ov h => ?_,
    I.tSt _ _ I.tab fun b o Z e => hk b o e, I.tSt⟩
  · rcases List.mem_append.mp h with h | h
    · exact (ha a h).2
    · exact x.al a (I.alO a h)
  · rcases List.mem_append.mp h with h | h
    · exact (ha a h).1 (I.al0 a q)
    · exact I.newO a h q
  · rcases List.mem_append.mp h with h | h
    · exact (ha a h).1 (I.alK a q)
    · exact I.disj a h q
  · refine ea_2_2 (I.cells y c h) fun v o ho hd => ?_
    exact ⟨v, o, hk _ _ ho, hd⟩
  · refine ea_2_3 (I.vars i p h) fun y v h1 h2 h3 => ?_
    exact ⟨y, v, h1, h2.keeps fun Z Z o e => hk _ o e, h3.mono (fun b o Z e => hk b o e) hx⟩
  · refine ea_2_3 (I.own i ov h) fun y a h1 h2 h3 => ?_
    refine ⟨y, a, h1, h2.keeps fun Z Z o e => hk _ o e, ?_⟩
    cases ov with
    | lst xs => obtain ⟨h0, vs, n, e1, e2, e3⟩ := h3; exact ⟨List.mem_append.mpr (.inr h0), vs, n, e1, hk _ _ e2, e3.mono (fun b o Z e => hk b o e) hx⟩
    | dict m =>
      refine Classical.byContradiction fun hng => ?_
      obtain ⟨h0, g, ⟨o, es, ep, ho, q⟩, e2, e3⟩ := h3
      refine hng ?_
      exact ⟨List.mem_append.mpr (.inr h0), g, ⟨o, es, ep, hk _ _ ho, q⟩, e2, e3.of_same ho (hk _ _ ho)⟩
    | tab rows =>
      refine Classical.byContradiction fun hng => ?_
      obtain ⟨h0, vs, n, as', e1, e2, e3, e4, e5, e6, e7⟩ := h3
      refine hng ?_
      exact ⟨List.mem_append.mpr (.inr h0), vs, n, as', e1, hk _ _ e2, e3, e4, e5, fun r hr => List.mem_append.mpr (.inr (e6 r hr)), e7.mono (fun r Z o e => hk r o e) (fun b o Z e => hk b o e) hx⟩
theorem post_store {fm : Fm} {s s₁ s₂ : Shared} {σ' : St} {Ow as : List Addr} {m' : Str → Option Value} (x : Ext s s₁) (I' : Inv prog w hb fm s₂ σ' (as ++ Ow) m') (kp : Keep (fun a => a ∈ fm.Kb) s₁ s₂) (ha : ∀ a ∈ as, ¬ Al s.heap a) :
    Post prog w hb fm s Ow (σ', Option.none) .next s₂ := by
  refine ⟨as ++ Ow, m', I', ⟨fun b o hb' e => kp.keep b o (fun q => hb' (.inl (.inl q))) (x.keep' b o e), fun b q => kp.al b (x.al b q), kp.os.trans x.os, fun g => kp.gens (x.gens g)⟩, fun a h => ?_, rfl⟩
  rcases List.mem_append.mp h with h | h
  · exact .inr (ha a h)
  · exact .inl h
theorem assign_comp {fm : Fm} {A : Around} {s : Shared} {σ : St} {Ow : List Addr} {m : Str → Option Value} {el : Expr} {gens : List Comprehension} {scope : Scope} {pos px spos : Pos} {x : Str} {i : Nat} {t : Tgt} {R : (Addr → Prop) → Heap → List Value → Prop}
    (K : FmOk hb fm) (own : fm.own = true) (I : Inv prog w hb fm s σ Ow m) (hn : fm.names[i]? = some x) (hv : canStore fm.S x = true)
    (run : ∀ (use : Option (Value → Sem Unit)) (Q : Value → Shared → Prop), (∀ d c s' vs, CE fm Ow s s' d c vs R →
      match use with
      | Option.none => ∀ h', Heap.SameBut c s'.heap h' → Q (.ref d) { s' with heap := h' }
      | some u => wpAny (model prog w) A (u (.ref d)) (fun Z s'' => (∃ m, s''.heap.Ns c m) ∧ ∀ h', Heap.SameBut c s''.heap h' → Q .none { s'' with heap := h' }) Fl s') →
      wpAny (model prog w) A (comprehension (.ListComp el gens scope pos) scope fm.env (firstIterPos gens pos) (newList []) (firstAsync gens) (firstIter gens fm.env) use) Q Fl s)
    (pay : ∀ d c s' vs, CE fm Ow s s' d c vs R → ∃ as : List Addr, (∀ a ∈ as, ¬ Al s.heap a ∧ Al s'.heap a) ∧ c ∉ as ∧
      ∀ (X : Addr → Prop) (h' : Heap), (∀ a, X a → fm.X (as ++ Ow) a ∨ a = c) → ¬ X d ∨ d ∈ as → (∀ b o, b ≠ c → s'.heap.get? b = some o → h'.get? b = some o) → t.good prog w h' X (as ++ Ow) d) :
    wpAny (model prog w) A (exec (.Assign [.Name x px] (.ListComp el gens scope pos) spos) fm.env) (Post prog w hb fm s Ow (t.put σ i, Option.none)) Fl s := by
  have hpA : ∀ a, fm.Pc a → fm.A0 a := fun a h => (K.xb a (K.pcX a h)).1
  refine ea_1_1 (swaps_comp el gens scope pos x px spos.line fm.env) fun b hb' => ?_
  cases b with
  | false =>
    refine wpAny_Assign_Name ?_ hb'
    rw [eval_ListComp]
    refine run Option.none _ fun d c s' vs ce => ?_
    refine ea_1_3 (pay d c s' vs ce) fun as h1 h2 h3 => ?_
    intro h' hs
    have hcA : ¬ fm.A0 c := fun q => ce.nc (I.al0 c q)
    have hc' : Al s'.heap c := let ⟨_, o, _, _, ho, _⟩ := ce.ns; ⟨o, ho⟩
    have Ig := Inv.letGo (K.excl I ce.nc) own (I.grow K ce.ext ce.nc hc' h2 h1) hcA hpA hs
    have hal' : ∀ a ∈ as, Al h' a := fun a ha => let ⟨o, e⟩ := (h1 a ha).2; ⟨o, hs.extBut a o (fun q => h2 (q ▸ ha)) e⟩
    have hgood := h3 (fm.X (as ++ Ow)) h' (fun a q => .inl q) (by
      by_cases q : d ∈ as
      · exact .inr q
      · refine .inl fun q' => ?_
        rcases q' with q' | q' | q'
        · exact ce.nd (I.al0 d (K.xb d q').1)
        · exact ce.nd (I.alK d q')
        · rcases List.mem_append.mp q' with q' | q'
          · exact q q'
          · exact ce.nd (I.alO d q')) fun b o hb'' e => hs.extBut b o hb'' e
    exact storeT_ok K Ig hn hv own hgood fun s'' m'' I'' kp => post_store (same_ext ce.ext ce.nc hs) I'' kp fun a ha => (h1 a ha).1
  | true =>
    rw [exec_Assign_Name_used _ _ _ _ hb']
    refine wpAny_bind (wpAny_standAt (wpAny_bind ?_))
    rw [arm_evalThenUse_ListComp]
    refine wpAny_bind (wpAny_mono (run (some (assign (.Name x px) fm.env)) (fun Z s' => Post prog w hb fm s Ow (t.put σ i, Option.none) .next s') fun d c s' vs ce => ?_) (fun Z s' h => wpAny_pure (wpAny_pure h)) fun Z Z q => q)
    refine ea_1_3 (pay d c s' vs ce) fun as h1 h2 h3 => ?_
    have hcA : ¬ fm.A0 c := fun q => ce.nc (I.al0 c q)
    have hc' : Al s'.heap c := let ⟨_, o, _, _, ho, _⟩ := ce.ns; ⟨o, ho⟩
    have K' := K.excl I ce.nc
    have Ig := I.grow K ce.ext ce.nc hc' h2 h1
    have hgood := h3 ((fm.excl c).X (as ++ Ow)) s'.heap (fun a q => Fm.X_excl.mp q) (by
      by_cases q : d ∈ as
      · exact .inr q
      · refine .inl fun q' => ?_
        rcases Fm.X_excl.mp q' with (q' | q' | q') | q'
        · exact ce.nd (I.al0 d (K.xb d q').1)
        · exact ce.nd (I.alK d q')
        · rcases List.mem_append.mp q' with q' | q'
          · exact q q'
          · exact ce.nd (I.alO d q')
        · exact ce.ne q') fun b o Z e => e
    refine wpAny_assign_Name (storeT_ok (fm := fm.excl c) K' Ig hn hv own hgood fun s'' m'' I'' kp => ?_)
    have hcK : c ∉ fm.Kb := fun q => ce.nc (I.alK c q)
    refine ⟨let ⟨mm, hm⟩ := ce.ns; ⟨mm, hm.at' fun o e => kp.keep c o hcK e⟩, fun h' hs => ?_⟩
    have If := Inv.letGo K' own I'' hcA hpA hs
    refine ⟨as ++ Ow, m'', If, ⟨fun b o hb'' e => ?_, fun b hb'' => ?_, kp.os.trans ce.ext.os, fun g => kp.gens (ce.ext.gens g)⟩, fun a h => ?_, rfl⟩
    · exact hs.extBut b o (fun q => ce.nc (q ▸ ⟨o, e⟩)) (kp.keep b o (fun q => hb'' (.inl (.inl q))) (ce.ext.keep' b o e))
    · refine ea_1_1 (kp.al b (ce.ext.al b hb'')) fun o e => ?_
      exact ⟨o, hs.extBut b o (fun q => ce.nc (q ▸ hb'')) e⟩
    · rcases List.mem_append.mp h with h | h
      · exact .inr (h1 a h).1
      · exact .inl h
theorem st_asg {i : Nat} {e : PE} (he : EOk prog w hb n C e) (hU : UOk prog w hb n C e ∨ ∀ S N el gens scope pos, chk S N e (.ListComp el gens scope pos) = false) (hv : ∀ S N el gens scope pos σ p, chk S N e (.ListComp el gens scope pos) = true → pe C e σ = some p → ∃ xs, p = .d (.list xs)) :
    StOk prog w hb n C G (.asg i e) := by
  intro fm hG K own A s σ Ow m st r hA I hc hp
  refine chkS_asg _ hc fun x px v pos h1 h2 => ?_
  refine ea_0_3 (nameAt_facts h1) fun hn hs hx => ?_
  refine Classical.byContradiction fun hng => ?_
  refine eD hp fun p hpe hp => ?_
  cases hp
  refine hng ?_
  rcases chk_plainV h2 with hpl | ⟨el, gens, scope, pos', rfl⟩
  · refine wpAny_Assign_Name (wpAny_mono (he fm A s σ Ow m v _ K hA I h2 hpe) (fun u s₁ ⟨x1, r⟩ => ?_) fun Z Z q => q) (swaps_false hpl)
    exact store_ok K (I.ext x1) hn hs own r fun s' m' I' kp => post_store (as := []) x1 I' kp (by simp)
  · rcases hU with hU | hU
    · refine ea_1_1 (hv _ _ _ _ _ _ _ _ h2 hpe) fun xs hrf1 => ?_
      subst hrf1
      refine assign_comp (t := .val (.d (.list xs))) K own I hn hs (fun use Q h => hU fm A s σ Ow m el gens scope pos' xs K hA I h2 hpe use Q h) fun d c s' vs ce => ?_
      refine ⟨[], by simp, by simp, fun X h' hX hd hk => ?_⟩
      refine Classical.byContradiction fun hng => ?_
      obtain ⟨x1, nd, nc, ne, ⟨k, hg⟩, hsz, ⟨X', hr, h4, h5, h6, h7⟩, hns⟩ := ce
      refine hng ?_
      refine .list (hd.resolve_right (by simp)) hsz ⟨_, hk d _ ne hg, rfl, k, rfl⟩ (hr.mono (fun b o hb' e => hk b o (fun q => hb' (q ▸ h7)) e) fun a Z q => ?_)
      rcases hX a q with q | q
      · exact h5 a q
      · exact q ▸ h7
    · rw [hU] at h2; cases h2
theorem st_ownC {i : Nat} {e : PE} (hU : UOk prog w hb n C e) : StOk prog w hb n C G (.ownC i e) := by
  intro fm hG K own A s σ Ow m st r hA I hc hp
  refine chkS_ownC _ hc fun x px v pos h1 hcv h2 => ?_
  refine ea_0_3 (nameAt_facts h1) fun hn hs hx => ?_
  refine Classical.byContradiction fun hng => ?_
  refine eNL hp fun xs how hpe hp => ?_
  cases hp
  refine hng ?_
  rcases chk_plainV h2 with hpl | ⟨el, gens, scope, pos', rfl⟩
  · exfalso
    cases v <;> first | (cases hcv; done) | (cases hpl; done)
  · refine assign_comp (t := .own (.lst xs)) K own I hn hs (fun use Q h => hU fm A s σ Ow m el gens scope pos' xs K hA I h2 hpe use Q h) fun d c s' vs ce => ?_
    refine Classical.byContradiction fun hng => ?_
    obtain ⟨x1, nd, nc, ne, ⟨k, hg⟩, hsz, ⟨X', hr, h4, h5, h6, h7⟩, hns⟩ := ce
    refine hng ?_
    refine ⟨[d], fun a ha => ?_, fun q => ne (by simpa using q : c = d).symm, fun X h' hX hd hk => ⟨by simp, vs, k, hsz, hk d _ ne hg, hr.mono (fun b o hb' e => hk b o (fun q => hb' (q ▸ h7)) e) fun a Z q => ?_⟩⟩
    · have : a = d := by simpa using ha
      subst this; exact ⟨nd, _, hg⟩
    · rcases hX a q with q | q
      · rcases q with q | q | q
        · exact h5 a (.inl q)
        · exact h5 a (.inr (.inl q))
        · rcases List.mem_append.mp q with q | q
          · have : a = d := by simpa using q
            exact this ▸ h6
          · exact h5 a (.inr (.inr q))
      · exact q ▸ h7
theorem st_ownL {i : Nat} : StOk prog w hb n C G (.ownL i) := by
  intro fm hG K own A s σ Ow m st r hA I hc hp
  refine chkS_ownL _ hc fun x px p2 pos h1 => ?_
  refine ea_0_3 (nameAt_facts h1) fun hn hs hx => ?_
  refine Classical.byContradiction fun hng => ?_
  refine eN hp fun Z hp => ?_
  cases hp
  refine hng ?_
  refine wpAny_Assign_Name (wpAny_List (wpAny_items_nil ⟨Nat.zero_le _, ?_⟩)) rfl
  have x1 : Ext s { s with heap := s.heap.push { cls := .type "list", data := .seq ([] : List Value).toArray } } := Ext.push _ (tk := s.toks)
  have hg : (s.heap.push { cls := .type "list", data := .seq ([] : List Value).toArray }).get? s.heap.objs.size = _ := Heap.get?_push_size _ rfl
  have Ig := Inv.grow0 (as := [s.heap.objs.size]) I x1 (fun a ha => by
    have : a = s.heap.objs.size := by simpa using ha
    subst this; exact ⟨al_size _, _, hg⟩)
  refine storeOwn_ok K Ig hn hs own (ov := .lst []) ⟨by simp, #[], 0, Nat.zero_le _, hg, .nil⟩ fun s' m' I' kp => post_store (as := [s.heap.objs.size]) x1 I' kp fun a ha => ?_
  have : a = s.heap.objs.size := by simpa using ha
  subst this; exact al_size _
theorem st_ownD {i : Nat} : StOk prog w hb n C G (.ownD i) := by
  intro fm hG K own A s σ Ow m st r hA I hc hp
  refine chkS_ownD _ hc fun x px p2 pos h1 => ?_
  refine ea_0_3 (nameAt_facts h1) fun hn hs hx => ?_
  refine Classical.byContradiction fun hng => ?_
  refine eN hp fun Z hp => ?_
  cases hp
  refine hng ?_
  refine wpAny_Assign_Name (wpAny_Dict_empty ?_) rfl
  have x1 : Ext s { s with heap := s.heap.push { cls := .type "dict", data := .dict #[] } } := Ext.push _ (tk := s.toks)
  have hg : (s.heap.push { cls := .type "dict", data := .dict #[] }).get? s.heap.objs.size = _ := Heap.get?_push_size _ rfl
  have Ig := Inv.grow0 (as := [s.heap.objs.size]) I x1 (fun a ha => by
    have : a = s.heap.objs.size := by simpa using ha
    subst this; exact ⟨al_size _, _, hg⟩)
  refine storeOwn_ok K Ig hn hs own (ov := .dict []) ⟨by simp, fun Z => Option.none, ?_, fun Z => rfl, ?_⟩ fun s' m' I' kp => post_store (as := [s.heap.objs.size]) x1 I' kp fun a ha => ?_
  · exact Heap.IntMap.new s.heap
  · exact Heap.DictLe.new s.heap
  · have : a = s.heap.objs.size := by simpa using ha
    subst this; exact al_size _
theorem st_aug {i : Nat} {e : PE} (he : EOk prog w hb n C e) : StOk prog w hb n C G (.aug i e) := by
  intro fm hG K own A s σ Ow m st r hA I hc hp
  refine chkS_aug _ hc fun x px v pos h1 h2 => ?_
  refine ea_0_3 (nameAt_facts h1) fun hn hs hx => ?_
  refine Classical.byContradiction fun hng => ?_
  refine eI2 hp fun a b ha hbb hp => ?_
  cases hp
  refine hng ?_
  refine wpAny_AugAssign_Name ?_
  have go : ∀ u, RepV prog w s.heap (fm.X Ow) u (.d (.int a)) → wpAny (model prog w) A (eval v fm.env) (fun v' s₂ => wpAny (model prog w) A (inplaceOp .Add u v') (fun r s₃ => wpAny (model prog w) A (storeName fm.env x r) (fun Z => Post prog w hb fm s Ow (σ.set i (.d (.int (a + b))), Option.none) .next) Fl s₃) Fl s₂) Fl s := by
    intro u ru
    refine Rep.intE _ ru fun Z => ?_
    refine wpAny_mono (he fm A s σ Ow m v _ K hA I h2 hbb) (fun u' s₁ ⟨x1, r⟩ => ?_) fun Z Z q => q
    refine Rep.intE _ r fun Z => ?_
    have x2 : Ext s₁ { s₁ with toks := s₁.toks + 1 } := Ext.toks
    exact wpAny_iadd_int (store_ok K ((I.ext x1).ext x2) hn hs own (p := .d (.int (a + b))) (Rep.int _ _) fun s' m' I' kp => post_store (as := []) (x1.trans x2) I' kp (by simp))
  refine ea_2_3 (I.vars i _ ha) fun y u g1 g2 g3 => ?_
  obtain rfl : x = y := by rw [hn] at g1; exact Option.some.inj g1
  simp only [isVar, Bool.and_eq_true, bne_iff_ne, ne_eq] at hx
  rcases g2 with ⟨k, e⟩ | ⟨k | k, c, hc', hcell⟩
  · exact wpAny_loadName_local K.kind k I.ns e (go u g3)
  · exact wpAny_loadName_cell K.kind k hc' hcell (go u g3)
  · exact wpAny_loadName_free K.kind k hc' hcell (go u g3) (by simpa using hx.2)
theorem st_ret {e : PE} (he : EOk prog w hb n C e) : StOk prog w hb n C G (.ret e) := by
  intro fm hG K own A s σ Ow m st r hA I hc hp
  refine chkS_ret _ hc fun v pos h1 => ?_
  refine Classical.byContradiction fun hng => ?_
  refine eD hp fun p hpe hp => ?_
  cases hp
  refine hng ?_
  exact wpAny_Return_some (wpAny_mono (he fm A s σ Ow m v _ K hA I h1 hpe) (fun u s₁ ⟨x1, r⟩ => ⟨Ow, m, I.ext x1, x1.toKeep, fun a h => .inl h, u, rfl, r⟩) fun Z Z q => q)
theorem st_ite {t : PE} {a b : PSs} (ht : TSOk prog w hb n C G t) (ha : SsOk prog w hb n C G a) (hb' : SsOk prog w hb n C G b) : StOk prog w hb n C G (.ite t a b) := by
  intro fm hG K own A s σ Ow m st r hA I hc hp
  refine chkS_ite _ hc fun tx as bs pos h1 h2 h3 => ?_
  refine wpAny_If ?_
  have tr : ∀ {s₁ : Shared}, Keep fm.Pc s s₁ → Keep (fun a => fm.O Ow a ∨ fm.Pc a) s s₁ := fun k => k.weaken fun a q => .inr q
  refine eB hp (fun hb1 hp => ?_) fun hb1 hp => ?_
  · refine wpAny_mono (ht fm hG K own A s σ Ow m tx _ hA I h1 hb1) (fun v s₁ ⟨I₁, kp, e⟩ => ?_) fun Z Z q => q
    subst e
    rw [if_pos rfl]
    exact wpAny_mono (ha fm hG K own A s₁ σ Ow m as r hA I₁ h2 hp) (fun fl s₂ h => Post.trans (tr kp) (fun a h => .inl h) h) fun Z Z q => q
  · refine wpAny_mono (ht fm hG K own A s σ Ow m tx _ hA I h1 hb1) (fun v s₁ ⟨I₁, kp, e⟩ => ?_) fun Z Z q => q
    subst e
    rw [if_neg Bool.false_ne_true]
    exact wpAny_mono (hb' fm hG K own A s₁ σ Ow m bs r hA I₁ h3 hp) (fun fl s₂ h => Post.trans (tr kp) (fun a h => .inl h) h) fun Z Z q => q
end
section
variable {prog : Program} {w : World} {mg mb : Str → Option Value} {hb : Heap} {n : Nat} {C : Nat → List PV → Option PV} {G : Fm → Prop}
theorem Rows.set {h : Heap} {X : Addr → Prop} {h' : Heap} {r : Addr} : ∀ {as : List Addr} {rows : List (List PyData)} {j : Nat} {vs : Array Value} {k : Nat} {row : List PyData}, Rows h X as rows → as.Nodup → as[j]? = some r → vs.size ≤ sizeLine →
    h'.get? r = some { cls := .type "list", data := .seq vs k } → RepL h' X vs.toList row → (∀ b o, b ≠ r → h.get? b = some o → h'.get? b = some o) → (X r) → Rows h' X as (rows.set j row)
  | [], _, _, _, _, _, .nil, _, e, _, _, _, _, _ => by simp at e
  | a :: as, _, 0, vs, k, row, .cons h1 h2 h3 h4, nd, e, hz, hg, hr, hk, hX => by
    rw [List.getElem?_cons_zero] at e; cases e
    rw [List.set_cons_zero]
    rw [List.nodup_cons] at nd
    exact .cons hz hg hr (h4.mono (fun b hb' o e => hk b o (fun q => nd.1 (q ▸ hb')) e) (fun b o hb' e => hk b o (fun q => hb' (q ▸ hX)) e) fun Z Z q => q)
  | a :: as, _, j + 1, vs, k, row, .cons h1 h2 h3 h4, nd, e, hz, hg, hr, hk, hX => by
    rw [List.getElem?_cons_succ] at e
    rw [List.set_cons_succ]
    rw [List.nodup_cons] at nd
    have hne : a ≠ r := fun q => nd.1 (q ▸ List.mem_of_getElem? e)
    exact .cons h1 (hk a _ hne h2) (h3.mono (fun b o hb' e => hk b o (fun q => hb' (q ▸ hX)) e) fun Z Z q => q) (Rows.set h4 nd.2 e hz hg hr hk hX)
theorem interactive_false {fm : Fm} (K : FmOk hb fm) : interactive fm.env = false := by
  unfold interactive
  rw [K.kind]
  rfl
theorem st_app {i : Nat} {e : PE} (he : EOk prog w hb n C e) : StOk prog w hb n C G (.app i e) := by
  intro fm hG K own A s σ Ow m st r hA I hc hp
  refine chkS_app _ hc fun x px ap v cp pos hl h1 hst h2 => ?_
  refine ea_0_3 (nameAt_facts h1) fun hn hs hx => ?_
  refine Classical.byContradiction fun hng => ?_
  refine eWD hp fun j xs d how hpe hp => ?_
  refine eIf hp fun hij hq => ?_
  refine ea_0_2 (hij) fun hrf0 hlim => ?_
  subst hrf0
  cases hq
  refine hng ?_
  refine wpAny_Expr ?_ (interactive_false K) rfl
  have hse : backTo cp (starEach [v] fm.env) = [(false, eval v fm.env)] := by
    rw [starEach_plain hst]; rfl
  refine wpAny_Call_append rfl (by rw [hse]; rfl) (by simpa using hl) hse ?_
  refine loadOwn_ok K I hn hx how fun a ow hv => ?_
  refine Classical.byContradiction fun hng => ?_
  obtain ⟨ha, vs, k, hz, hg, hr⟩ := ow
  refine hng ?_
  refine ⟨a, vs, rfl, ⟨_, k, hg, rfl, rfl, rfl⟩, ?_⟩
  refine wpAny_mono (he fm A s σ Ow m v _ K hA I h2 hpe) (fun u s₁ ⟨x1, r⟩ => ?_) fun Z Z q => q
  have hg1 := x1.keep' _ _ hg
  have hlen := hr.length
  simp only [Array.length_toList] at hlen
  refine wpAny_list_append_plain (hsz := hz) ⟨k, hg1⟩ fun h' hpl hs' => ?_
  refine ea_1_1 (hpl) fun k' hg' => ?_
  have I1 := I.ext x1
  obtain ⟨I2, kp2⟩ := touchOw (tk := s₁.toks) (σ' := { σ with ow := some (i, .lst (xs ++ [d])) }) K own I1 ha hs' ⟨_, hg'⟩ (fun Z => rfl) fun j' ov' e' => by
    have e'' : some (i, OV.lst (xs ++ [d])) = some (j', ov') := e'
    cases e''
    refine ⟨x, a, hn, hv.keeps fun Z Z o e => x1.keep' _ o e, ha, vs.push u, k', ?_, hg', ?_⟩
    · rw [Array.size_push]; have := lim_line; lia
    · rw [Array.toList_push]
      have hk : ∀ b o, ¬ fm.X Ow b → s₁.heap.get? b = some o → h'.get? b = some o := fun b o hb' e => (hs'.2 b fun q => hb' (.inr (.inr (q ▸ ha)))).trans e
      exact ((hr.ext x1).mono hk fun Z Z q => q).snoc (Rep.mono hk (fun Z Z q => q) r)
  exact Post.trans x1.toKeep (fun a h => .inl h) ⟨Ow, m, I2, kp2, fun a h => .inl h, rfl⟩
theorem st_put {i : Nat} {k e : PE} (hk : EOk prog w hb n C k) (he : EOk prog w hb n C e) (hnc : ∀ S N v, chk S N e v = true → plainV v = true) : StOk prog w hb n C G (.put i k e) := by
  intro fm hG K own A s σ Ow m st r hA I hc hp
  refine chkS_put _ hc fun x px kx p2 v pos h1 hsl h2 h3 => ?_
  refine ea_0_3 (nameAt_facts h1) fun hn hs hx => ?_
  refine Classical.byContradiction fun hng => ?_
  refine ePut hp (fun j xs d a how hpe hpk hp => ?_) fun j mm d a how hpe hpk hp => ?_
  · refine eIf hp fun hij hq => ?_
    · refine ea_0_3 (hij) fun hrf0 hlo hhi => ?_
      subst hrf0
      cases hq
      refine hng ?_
      refine wpAny_Assign_Subscript ?_ (swaps_false (hnc _ _ _ h3))
      refine wpAny_mono (he fm A s σ Ow m v _ K hA I h3 hpe) (fun u s₁ ⟨x1, r⟩ => ?_) fun Z Z q => q
      refine loadOwn_ok K (I.ext x1) hn hx how fun ad ow hv => ?_
      refine wpAny_mono (hk fm A s₁ σ Ow m kx _ K hA (I.ext x1) h2 hpk) (fun u' s₂ ⟨x2, r2⟩ => ?_) fun Z Z q => q
      refine Rep.intE _ r2 fun Z => ?_
      refine Classical.byContradiction fun hng => ?_
      obtain ⟨ha, vs, kk, hz, hg, hr⟩ := ow.ext x2.keep'
      refine hng ?_
      have hlen := hr.length
      simp only [Array.length_toList] at hlen
      have I2 := (I.ext x1).ext x2
      have fin : ∀ (z : Nat), z = (if a < 0 then a + xs.length else a).toNat → ∀ h', h' = s₂.heap.update ad (Obj.mapSeq (·.setIfInBounds z u)) → Post prog w hb fm s Ow ({ σ with ow := some (i, .lst (xs.set z d)) }, Option.none) .next { s₂ with heap := h' } := by
        intro z hz' h' hh'
        have hs' : Heap.SameBut ad s₂.heap h' := hh' ▸ Heap.SameBut.update ..
        have hg' : h'.get? ad = some { cls := .type "list", data := .seq (vs.setIfInBounds z u) (if (vs.setIfInBounds z u).size == vs.size then kk else kk + 1) } := hh' ▸ PySem.IsL.update hg _
        obtain ⟨I3, kp3⟩ := touchOw (tk := s₂.toks) (σ' := { σ with ow := some (i, .lst (xs.set z d)) }) K own I2 ha hs' ⟨_, hg'⟩ (fun Z => rfl) fun j' ov' e' => by
          have e'' : some (i, OV.lst (xs.set z d)) = some (j', ov') := e'
          cases e''
          refine ⟨x, ad, hn, hv.keeps fun Z Z o e => x2.keep' _ o e, ha, _, _, ?_, hg', ?_⟩
          · simpa using hz
          · rw [Array.toList_setIfInBounds]
            have hkk : ∀ b o, ¬ fm.X Ow b → s₂.heap.get? b = some o → h'.get? b = some o := fun b o hb' e => (hs'.2 b fun q => hb' (.inr (.inr (q ▸ ha)))).trans e
            exact (hr.mono hkk fun Z Z q => q).set z (Rep.mono hkk (fun Z Z q => q) (Rep.ext r x2))
        exact Post.trans (x1.trans x2).toKeep (fun a h => .inl h) ⟨Ow, m, I3, kp3, fun a h => .inl h, rfl⟩
      rw [sizeLine_eq] at hz
      by_cases hneg : a < 0
      · rw [if_pos hneg]
        exact PySem.W.ki_setBack hg hneg (by lia) (by lia) (fin _ (by rw [if_pos hneg]) _ (by rw [hlen]))
      · rw [if_neg hneg]
        exact PySem.W.ki_setAt hg (by lia) (by lia) (by lia) (fin _ (by rw [if_neg hneg]) _ rfl)
  · refine eIf hp fun hij hq => ?_
    · refine ea_0_2 (hij) fun hrf0 hlim => ?_
      subst hrf0
      cases hq
      refine hng ?_
      refine wpAny_Assign_Subscript ?_ (swaps_false (hnc _ _ _ h3))
      refine wpAny_mono (he fm A s σ Ow m v _ K hA I h3 hpe) (fun u s₁ ⟨x1, r⟩ => ?_) fun Z Z q => q
      refine Rep.intE _ r fun tu => ?_
      refine loadOwn_ok K (I.ext x1) hn hx how fun ad ow hv => ?_
      refine wpAny_mono (hk fm A s₁ σ Ow m kx _ K hA (I.ext x1) h2 hpk) (fun u' s₂ ⟨x2, r2⟩ => ?_) fun Z Z q => q
      refine Rep.intE _ r2 fun Z => ?_
      refine Classical.byContradiction fun hng => ?_
      obtain ⟨ha, g, hmap, hrel, hle⟩ := ow.ext x2.keep'
      refine hng ?_
      have I2 := (I.ext x1).ext x2
      refine wpAny_setItem_intMap_le hmap hle (by have := lim_line; lia) fun h' hm' hle' hs' => ?_
      have hal : Al h' ad := let ⟨o, _, _, ho, _⟩ := hm'; ⟨o, ho⟩
      obtain ⟨I3, kp3⟩ := touchOw (tk := s₂.toks + 1) (σ' := { σ with ow := some (i, .dict ((a, d) :: mm)) }) K own I2 ha hs' hal (fun Z => rfl) fun j' ov' e' => by
        have e'' : some (i, OV.dict ((a, d) :: mm)) = some (j', ov') := e'
        cases e''
        refine ⟨x, ad, hn, hv.keeps fun Z Z o e => x2.keep' _ o e, ha, _, hm', fun k => ?_, hle'⟩
        rw [List.lookup_cons]
        by_cases q : k = a
        · subst q; simp
        · have q' : (k == a) = false := by simpa using q
          rw [q']
          simp only [if_neg q]
          exact hrel k
      exact Post.trans (x1.trans x2).toKeep (fun a h => .inl h) ⟨Ow, m, I3, kp3, fun a h => .inl h, rfl⟩
theorem rowAt {fm : Fm} {A : Around} {s : Shared} {Ow : List Addr} {ad : Addr} {rows : List (List PyData)} {i1 : Int} {tk : Tok} {vx kx : Expr} {Q : Value → Shared → Prop} (ow : OwnRep s.heap (fm.X Ow) Ow ad (.tab rows)) (h0 : 0 ≤ i1) (h1 : i1 < rows.length) (hsl : notSlice kx = true)
    (h : ∀ r vs as n k ws, ad ∈ Ow → vs.size ≤ sizeLine → s.heap.get? ad = some { cls := .type "list", data := .seq vs n } → vs.toList = as.map Value.ref → as.Nodup → ad ∉ as → (∀ r ∈ as, r ∈ Ow) → Rows s.heap (fm.X Ow) as rows → as[i1.toNat]? = some r → ws.size ≤ sizeLine →
      s.heap.get? r = some { cls := .type "list", data := .seq ws k } → RepL s.heap (fm.X Ow) ws.toList (rows.getD i1.toNat []) → Q (.ref r) s) :
    wpAny (model prog w) A (subscriptTail vx kx (.ref ad) (.int i1 tk)) Q Fl s := by
  refine Classical.byContradiction fun hng => ?_
  obtain ⟨ha, vs, nn, as, hz, hg, hvs, hnd, hna, hin, hr⟩ := ow
  refine hng ?_
  have hL : s.heap.IsList ad vs := ⟨_, hg, rfl, _, rfl⟩
  have hrow : rows[i1.toNat]? = some (rows.getD i1.toNat []) := by
    rw [List.getD_eq_getElem?_getD]
    have : i1.toNat < rows.length := by lia
    simp [this]
  refine ea_3_4 (hr.get hrow) fun r ws kk har hwz hwg hwl => ?_
  have hlen : vs.size = rows.length := by rw [← Array.length_toList, hvs, List.length_map, hr.length]
  have hv : vs[i1.toNat]? = some (.ref r) := by rw [← Array.getElem?_toList, hvs, List.getElem?_map, har]; rfl
  rw [sizeLine_eq] at hz
  refine tail_any hL.typeIs slot_list_getitem.lookup (wpAny_getItem_list hL h0 (by lia) hv ?_) (subscripted_plain hsl _ _)
  exact h r vs as nn kk ws ha (by rw [sizeLine_eq]; lia) hg hvs hnd hna hin hr har hwz hwg hwl
theorem st_put2 {i : Nat} {k l e : PE} (hk : EOk prog w hb n C k) (hl : EOk prog w hb n C l) (he : EOk prog w hb n C e) (hnc : ∀ S N v, chk S N e v = true → plainV v = true) : StOk prog w hb n C G (.put2 i k l e) := by
  intro fm hG K own A s σ Ow m st r hA I hc hp
  refine chkS_put2 _ hc fun x px kx p2 lx p3 v pos h1 hsl hsl' h2 h2' h3 => ?_
  refine ea_0_3 (nameAt_facts h1) fun hn hs hx => ?_
  refine Classical.byContradiction fun hng => ?_
  refine ePut2 hp fun j rows d a b how hpe hpk hpl hp => ?_
  refine eIf hp fun hij hq => ?_
  refine hng ?_
  refine ea_0_5 (hij) fun hrf0 ha0 ha1 hb0 hb1 => ?_
  subst hrf0
  cases hq
  refine wpAny_Assign_Subscript ?_ (swaps_false (hnc _ _ _ h3))
  refine wpAny_mono (he fm A s σ Ow m v _ K hA I h3 hpe) (fun u s₁ ⟨x1, r⟩ => ?_) fun Z Z q => q
  refine Subscript_ (loadOwn_ok K (I.ext x1) hn hx how fun ad ow hv => ?_)
  refine wpAny_mono (hk fm A s₁ σ Ow m kx _ K hA (I.ext x1) h2 hpk) (fun u' s₂ ⟨x2, r2⟩ => ?_) fun Z Z q => q
  refine Rep.intE _ r2 fun Z => ?_
  refine rowAt (ow.ext x2.keep') ha0 ha1 hsl fun rr vs as nn kk ws had hz hg hvs hnd hna hin hR har hwz hwg hwl => ?_
  refine wpAny_mono (hl fm A s₂ σ Ow m lx _ K hA ((I.ext x1).ext x2) h2' hpl) (fun u'' s₃ ⟨x3, r3⟩ => ?_) fun Z Z q => q
  refine Rep.intE _ r3 fun Z => ?_
  have hwlen := hwl.length
  simp only [Array.length_toList] at hwlen
  have hrO : rr ∈ Ow := hin rr (List.mem_of_getElem? har)
  have hwz' := hwz
  rw [sizeLine_eq] at hwz'
  have I3 := ((I.ext x1).ext x2).ext x3
  have hwg3 := x3.keep' _ _ hwg
  refine PySem.W.ki_setAt hwg3 hb0 (by lia) (by lia) ?_
  have hs' : Heap.SameBut rr s₃.heap (s₃.heap.update rr (Obj.mapSeq (·.setIfInBounds b.toNat u))) := Heap.SameBut.update ..
  have hg' : (s₃.heap.update rr (Obj.mapSeq (·.setIfInBounds b.toNat u))).get? rr = some { cls := .type "list", data := .seq (ws.setIfInBounds b.toNat u) (if (ws.setIfInBounds b.toNat u).size == ws.size then kk else kk + 1) } := PySem.IsL.update hwg3 _
  generalize s₃.heap.update rr (Obj.mapSeq (·.setIfInBounds b.toNat u)) = h' at hs' hg' ⊢
  have hkk : ∀ b o, ¬ fm.X Ow b → s₃.heap.get? b = some o → h'.get? b = some o := fun b o hb' e => (hs'.2 b fun q => hb' (.inr (.inr (q ▸ hrO)))).trans e
  obtain ⟨I4, kp4⟩ := touchOw (tk := s₃.toks) (σ' := { σ with ow := some (i, .tab (setRow rows a.toNat b.toNat d)) }) K own I3 hrO hs' ⟨_, hg'⟩ (fun Z => rfl) fun j' ov' e' => by
    have e'' : some (i, OV.tab (setRow rows a.toNat b.toNat d)) = some (j', ov') := e'
    cases e''
    have hadr : ad ≠ rr := fun q => hna (q ▸ List.mem_of_getElem? har)
    refine ⟨x, ad, hn, hv.keeps fun Z Z o e => x3.keep' _ o (x2.keep' _ o e), had, vs, nn, as, hz, (hs'.2 ad hadr).trans (x3.keep' _ _ hg), hvs, hnd, hna, hin, ?_⟩
    refine Rows.set (h := s₃.heap) (hR.mono (fun r Z o e => x3.keep' r o e) (fun b o Z e => x3.keep' b o e) fun Z Z q => q) hnd har ?_ hg' ?_ (fun b o hb' e => (hs'.2 b hb').trans e) (.inr (.inr hrO))
    · simpa using hwz
    · rw [Array.toList_setIfInBounds]
      exact ((hwl.ext x3).mono hkk fun Z Z q => q).set _ (Rep.mono hkk (fun Z Z q => q) (Rep.ext (Rep.ext r x2) x3))
  exact Post.trans ((x1.trans x2).trans x3).toKeep (fun a h => .inl h) ⟨Ow, m, I4, kp4, fun a h => .inl h, rfl⟩
theorem fl_noted {A : Around} {env : Env} {E : Value → Shared → Prop} {α : Type} {q : Sem α} {Q : α → Shared → Prop} {s : Shared} (h : wpAny (model prog w) A q Q Fl s) : wpAny (model prog w) A q Q (notedBy (model prog w) A env E) s :=
  wpAny_mono h (fun Z Z q => q) fun Z Z q => q.elim
theorem st_whl {t : PE} {b : PSs} (ht : TSOk prog w hb n C G t) (hbod : SsOk prog w hb n C G b) : StOk prog w hb n C G (.whl t b) := by
  intro fm hG K own A s σ Ow m st r hA I hc hp
  refine chkS_whl _ hc fun tx bs pos h1 h2 => ?_
  refine wpAny_While (codeAny_whileLoop (fun k s' => ∃ σ' Ow' m', Inv prog w hb fm s' σ' Ow' m' ∧ whileO (pt C t) (pss C b) k σ' = some r ∧ Keep (fun a => fm.O Ow a ∨ fm.Pc a) s s' ∧ ∀ a ∈ Ow', a ∈ Ow ∨ ¬ Al s.heap a) ?_ lim
    ⟨σ, Ow, m, I, hp, Keep.refl _ _, fun a h => .inl h⟩)
  intro k s' hcase
  refine ea_3_4 (hcase) fun σ' Ow' m' I' hw kp ho => ?_
  cases k with
  | zero => cases hw
  | succ k =>
    rw [whileO] at hw
    cases hb1 : pt C t σ' with
    | none => rw [hb1] at hw; cases hw
    | some bb =>
      rw [hb1] at hw
      refine fl_noted (wpAny_mono (ht fm hG K own A s' σ' Ow' m' tx _ hA I' h1 hb1) (fun v s₁ ⟨I₁, kp₁, e⟩ => ?_) fun Z Z q => q)
      subst e
      have kp' : Keep (fun a => fm.O Ow a ∨ fm.Pc a) s s₁ := kp.trans (kp₁.weaken fun a q => .inr q) fun a Z q => q
      cases v with
      | false =>
        rw [if_neg Bool.false_ne_true]
        cases hw
        exact wpAny_execs_nil ⟨Ow', m', I₁, kp', ho, rfl⟩
      | true =>
        rw [if_pos rfl]
        dsimp only at hw
        cases hbody : pss C b σ' with
        | none => rw [hbody] at hw; cases hw
        | some rr =>
          rw [hbody] at hw
          obtain ⟨σ₂, o⟩ := rr
          refine fl_noted (wpAny_mono (hbod fm hG K own A s₁ σ' Ow' m' bs _ hA I₁ h2 hbody) (fun fl s₂ h => ?_) fun Z Z q => q)
          have h' := Post.trans kp' ho h
          refine ea_2_4 (h') fun Ow₂ m₂ I₂ kp₂ ho₂ hr => ?_
          cases o with
          | none =>
            dsimp only at hr hw
            subst hr
            exact ⟨k, Nat.lt_succ_self k, σ₂, Ow₂, m₂, I₂, hw, kp₂, ho₂⟩
          | some p =>
            cases hw
            refine ea_1_2 (hr) fun v e hv => ?_
            subst e
            exact ⟨Ow₂, m₂, I₂, kp₂, ho₂, v, rfl, hv⟩
end
section
variable {prog : Program} {w : World} {mg mb : Str → Option Value} {hb : Heap} {n : Nat} {C : Nat → List PV → Option PV} {G : Fm → Prop}
theorem for_core {fm : Fm} {A : Around} {s s₂ : Shared} {σ : St} {Ow : List Addr} {m : Str → Option Value} (K : FmOk hb fm) (own : fm.own = true) (hA : AOk A n) (I₀ : Inv prog w hb fm s σ Ow m) (x2 : Ext s s₂) {ia : Addr} (hia : ¬ Al s.heap ia)
    {xs : List PyData} {fp : List Addr} {P : Nat → Value → Prop} {St' : Nat → Heap → Prop} (W : ∀ A' : Around, A'.handled = Option.none → Walks prog w A' ia fp [ia] xs.length P St') (hst : St' 0 s₂.heap) (hStAl : ∀ i h, St' i h → Al h ia)
    (hfal : ∀ b ∈ fp, Al s₂.heap b) (hfx : ∀ b ∈ fp, b ≠ ia → ¬ fm.X Ow b) (hPr : ∀ i v x, P i v → xs[i]? = some x → Rep s₂.heap (fun a => fm.X Ow a ∨ a = ia) v x)
    {target : Expr} {body : List Stmt} (f : PyData → St → Option (St × Option PV)) {r : St × Option PV} (hf : forO f xs σ = some r)
    (hlet : ∀ j (s' : Shared) v (Q : Unit → Shared → Prop), j < xs.length → P j v → St' (j + 1) s'.heap → Q () s' → wpAny (model prog w) A (letOwnedTupleGo target (.ref ia) v) Q Fl s')
    (hturn : ∀ (s' : Shared) (σ' : St) (Ow' : List Addr) (m' : Str → Option Value) (v : Value) (y : PyData) (r' : St × Option PV), FmOk hb (fm.excl ia) → Inv prog w hb (fm.excl ia) s' σ' Ow' m' → Rep s'.heap ((fm.excl ia).X Ow') v y → f y σ' = some r' →
      wpAny (model prog w) A (assign target fm.env v) (fun Z s₃ => wpAny (model prog w) A (execs body fm.env) (Post prog w hb (fm.excl ia) s' Ow' r') Fl s₃) Fl s') :
    codeAny (model prog w) A (.forLoop target (.ref ia) body [] fm.env) (fun r' s' => match r' with | .ok fl => Post prog w hb fm s Ow r fl s' | .error e => cameBackBy (model prog w) A fm.env Fl e s') s₂ := by
  have hW := W A hA.1
  have K' := K.excl I₀ hia
  have hpA : ∀ a, fm.Pc a → fm.A0 a := fun a h => (K.xb a (K.pcX a h)).1
  have hiA : ¬ fm.A0 ia := fun q => hia (I₀.al0 ia q)
  have hiP : ¬ fm.Pc ia := fun q => hiA (hpA ia q)
  have I₂ : Inv prog w hb (fm.excl ia) s₂ σ Ow m := I₀.grow (as := []) K x2 hia (hStAl 0 _ hst) (by simp) (by simp)
  have fin : ∀ (s' : Shared) (σ' : St) (Ow' : List Addr) (m' : Str → Option Value) (o : Option PV) (fl : Flow), Inv prog w hb (fm.excl ia) s' σ' Ow' m' → Keep (fun a => fm.O Ow a ∨ fm.Pc a ∨ a = ia) s₂ s' → (∀ a ∈ Ow', a ∈ Ow ∨ ¬ Al s₂.heap a) →
      (match o with | Option.none => fl = .next | some p => ∃ v, fl = .ret v ∧ RepV prog w s'.heap ((fm.excl ia).X Ow') v p) → Post prog w hb fm s Ow (σ', o) fl s' := by
    intro s' σ' Ow' m' o fl I' kp ho ho'
    refine ⟨Ow', m', Inv.letGo (h' := s'.heap) K' own I' hiA hpA ⟨rfl, fun Z Z => rfl⟩, ⟨fun b ob hb' e => kp.keep b ob ?_ (x2.keep' b ob e), fun b q => kp.al b (x2.al b q), kp.os.trans x2.os, fun g => kp.gens (x2.gens g)⟩, fun a h => ?_, ?_⟩
    · rintro (q | q | q)
      · exact hb' (.inl q)
      · exact hb' (.inr q)
      · exact hia (q ▸ ⟨ob, e⟩)
    · exact (ho a h).imp id fun q q' => q (x2.al a q')
    · cases o with
      | none => exact ho'
      | some p =>
        refine ea_1_2 (ho') fun v e hr => ?_
        exact ⟨v, e, hr.mono (fun Z Z Z e => e) fun a Z q => Fm.X_excl.mpr (.inl q)⟩
  refine codeAny_forLoop_any (fun k s' => ∃ (j : Nat) (σ' : St) (Ow' : List Addr) (m' : Str → Option Value), k = xs.length + 1 - j ∧ j ≤ xs.length ∧ forO f (xs.drop j) σ' = some r ∧ Inv prog w hb (fm.excl ia) s' σ' Ow' m' ∧ St' j s'.heap ∧
      Keep (fun a => fm.O Ow a ∨ fm.Pc a ∨ a = ia) s₂ s' ∧ ∀ a ∈ Ow', a ∈ Ow ∨ ¬ Al s₂.heap a) ?_ (xs.length + 1) ⟨0, σ, Ow, m, rfl, Nat.zero_le _, by simpa using hf, I₂, hst, Keep.refl _ _, fun a h => .inl h⟩
  intro k s' hcase
  refine ea_4_7 (hcase) fun j σ' Ow' m' hrf4 hj hfo I' hst' kp ho => ?_
  subst hrf4
  by_cases hlt : j < xs.length
  · obtain ⟨y, hy⟩ : ∃ y, xs[j]? = some y := ⟨xs[j], by simp [hlt]⟩
    have hdrop : xs.drop j = y :: xs.drop (j + 1) := by
      rw [List.drop_eq_getElem_cons hlt]
      rw [List.getElem?_eq_getElem hlt] at hy
      cases hy; rfl
    rw [hdrop, forO] at hfo
    refine hW.item j s' _ _ hlt hst' fun v h₂ tk₂ hPv hst₂ hk₂ => ?_
    have hk₂' : ∀ b o, b ≠ ia → s'.heap.get? b = some o → h₂.get? b = some o := fun b o hb' e => hk₂ b o (by simpa using hb') e
    have I₃ : Inv prog w hb (fm.excl ia) { s' with heap := h₂, toks := tk₂ } σ' Ow' m' := touchX K' own I' (.inr rfl) hiP hk₂' (hStAl _ _ hst₂)
    have hrep : Rep h₂ ((fm.excl ia).X Ow') v y := (hPr j v y hPv hy).mono (fun b o hb' e => by
        refine hk₂' b o (fun q => hb' (.inr q)) (kp.keep b o ?_ e)
        rintro (q | q | q)
        · exact hb' (.inl (Fm.O_X q))
        · exact hb' (.inl (.inl (K.pcX b q)))
        · exact hb' (.inr q)) (fun a ha q => by
        rcases Fm.X_excl.mp q with (q | q | q) | q
        · exact .inl (.inl q)
        · exact .inl (.inr (.inl q))
        · exact .inl (.inr (.inr ((ho a q).resolve_right fun h => h ha)))
        · exact .inr q)
    cases hfy : f y σ' with
    | none => rw [hfy] at hfo; cases hfo
    | some rr =>
      rw [hfy] at hfo
      obtain ⟨σ₂, o⟩ := rr
      refine fl_noted (hlet j { s' with heap := h₂, toks := tk₂ } v _ hlt hPv hst₂ ?_)
      refine fl_noted (wpAny_mono (hturn _ σ' Ow' m' v y _ K' I₃ hrep hfy) (fun Z s₃ h₃ => fl_noted (wpAny_mono h₃ (fun fl s₄ h₄ => ?_) fun Z Z q => q)) fun Z Z q => q)
      refine ea_2_4 (h₄) fun Ow₂ m₂ I₄ kp₄ ho₄ hr₄ => ?_
      have hO : ∀ b, fm.O Ow' b ∨ fm.Pc b → b ≠ ia := fun b q e => by
        rcases q with (q | q) | q
        · exact K'.newK b q (.inr e)
        · exact I'.newO b q (.inr e)
        · exact hiP (e ▸ q)
      have kp' : Keep (fun a => fm.O Ow a ∨ fm.Pc a ∨ a = ia) s₂ s₄ := by
        refine ⟨fun b o hb' e => ?_, fun b hb' => ?_, kp₄.os.trans kp.os, fun g => kp₄.gens (kp.gens g)⟩
        · refine kp₄.keep b o ?_ (hk₂' b o (fun q => hb' (.inr (.inr q))) (kp.keep b o hb' e))
          rintro ((q | q) | q)
          · exact hb' (.inl (.inl q))
          · exact hb' (.inl (.inr ((ho b q).resolve_right fun h => h ⟨o, e⟩)))
          · exact hb' (.inr (.inl q))
        · refine kp₄.al b ?_
          by_cases q : b = ia
          · exact q ▸ hStAl _ _ hst₂
          · refine ea_1_1 (kp.al b hb') fun o e => ?_
            exact ⟨o, hk₂' b o q e⟩
      have ho' : ∀ a ∈ Ow₂, a ∈ Ow ∨ ¬ Al s₂.heap a := fun a h => by
        rcases ho₄ a h with q | q
        · exact ho a q
        · refine .inr fun q' => q ?_
          by_cases e : a = ia
          · exact e ▸ hStAl _ _ hst₂
          · refine ea_1_1 (kp.al a q') fun o e' => ?_
            exact ⟨o, hk₂' a o e e'⟩
      cases o with
      | none =>
        dsimp only at hr₄ hfo
        subst hr₄
        refine ⟨xs.length + 1 - (j + 1), by lia, j + 1, σ₂, Ow₂, m₂, rfl, hlt, hfo, I₄, ?_, kp', ho'⟩
        refine hW.frame _ _ _ hst₂ fun b hb' o e => kp₄.keep b o (fun q => ?_) e
        by_cases e' : b = ia
        · exact hO b q e'
        · have hal := hfal b hb'
          rcases q with (q | q) | q
          · exact hfx b hb' e' (.inr (.inl q))
          · exact hfx b hb' e' (.inr (.inr ((ho b q).resolve_right fun h => h hal)))
          · exact hfx b hb' e' (.inl (K.pcX b q))
      | some p =>
        cases hfo
        have hr' := hr₄
        refine ea_1_2 (hr₄) fun v' e hv' => ?_
        subst e
        exact fin s₄ σ₂ Ow₂ m₂ (some p) _ I₄ kp' ho' hr'
  · have hje : j = xs.length := by lia
    subst hje
    rw [List.drop_length, forO] at hfo
    cases hfo
    refine hW.done s' _ _ hst' fun h₂ tk₂ hk₂ => ?_
    have hk₂' : ∀ b o, b ≠ ia → s'.heap.get? b = some o → h₂.get? b = some o := fun b o hb' e => hk₂ b o (by simpa using hb') e
    refine wpAny_execs_nil ⟨Ow', m', Inv.letGo' K' own I' hiA hpA hk₂', ⟨fun b ob hb' e => hk₂' b ob (fun q => hia (q ▸ ⟨ob, e⟩)) (kp.keep b ob ?_ (x2.keep' b ob e)), fun b q => ?_, kp.os.trans x2.os, fun g => kp.gens (x2.gens g)⟩, fun a h => ?_, rfl⟩
    · rintro (q | q | q)
      · exact hb' (.inl q)
      · exact hb' (.inr q)
      · exact hia (q ▸ ⟨ob, e⟩)
    · refine ea_1_1 (kp.al b (x2.al b q)) fun o e => ?_
      exact ⟨o, hk₂' b o (fun q' => hia (q' ▸ q)) e⟩
    · exact (ho a h).imp id fun q q' => q (x2.al a q')
theorem hlet_name {A : Around} {x : Str} {p : Pos} {ia : Addr} {v : Value} {s : Shared} {Q : Unit → Shared → Prop} (h : Q () s) : wpAny (model prog w) A (letOwnedTupleGo (.Name x p) (.ref ia) v) Q Fl s := wpAny_pure h
theorem st_for1 {i : Nat} {it : PE} {b : PSs} (hG : ∀ fm c, G fm → G (fm.excl c)) (hit : IOk prog w hb n C it) (hbod : SsOk prog w hb n C G b) : StOk prog w hb n C G (.for1 i it b) := by
  intro fm hg K own A s σ Ow m st r hA I hc hp
  refine chkS_for1 _ hc fun x px ix bs pos h1 hns h2 h3 => ?_
  refine ea_0_3 (nameAt_facts h1) fun hn hs hx => ?_
  refine Classical.byContradiction fun hng => ?_
  refine eXs hp fun xs hxs hp => ?_
  refine hng ?_
  refine wpAny_For (wpAny_mono (hit fm A s σ Ow m ix xs K hA I h2 hxs) (fun v s₁ h₁ => wpAny_mono h₁ (fun itv s₂ ⟨x2, ia, eit, hia, hiter⟩ => ?_) fun Z Z q => q) fun Z Z q => q) (folded_plain hns)
  subst eit
  refine ea_3_6 (hiter) fun fp P St' W hst hStAl hfal hfx hPr => ?_
  refine for_core K own hA I x2 hia W hst hStAl hfal hfx hPr _ hp (fun Z Z Z Z Z Z Z h => hlet_name h) ?_
  intro s' σ' Ow' m' v y r' K' I' hrep hf
  refine wpAny_assign_Name (store_ok (fm := fm.excl ia) (p := .d y) K' I' hn hs own hrep fun s₃ m₃ I₃ kp => ?_)
  exact wpAny_mono (hbod (fm.excl ia) (hG fm ia hg) K' own A s₃ _ Ow' m₃ bs r' hA I₃ h3 hf) (fun fl s₄ h => Post.trans (kp.weaken fun a q => .inl (.inl q)) (fun a h => .inl h) h) fun Z Z q => q
theorem store2 {fm : Fm} {A : Around} {s : Shared} {σ : St} {Ow : List Addr} {m : Str → Option Value} {i j : Nat} {x y : Str} {px py tp : Pos} {k : Nat} {v : Value} {a b : PyData} {Q : Unit → Shared → Prop} (K : FmOk hb fm) (own : fm.own = true) (hh : A.handled = Option.none) (I : Inv prog w hb fm s σ Ow m)
    (hn : fm.names[i]? = some x) (hs : canStore fm.S x = true) (hn' : fm.names[j]? = some y) (hs' : canStore fm.S y = true) (hr : Rep s.heap (fm.X Ow) v (.tuple [a, b]))
    (h : ∀ s' m', Inv prog w hb fm s' ((σ.set i (.d a)).set j (.d b)) Ow m' → Keep (fun a => a ∈ fm.Kb) s s' → Q () s') :
    wpAny (model prog w) A (assign (.Tuple [.Name x px, .Name y py] k tp) fm.env v) Q Fl s := by
  cases hr with | @tuple t vs _ hna hsz ht hl =>
  have hlen := hl.length
  simp only [Array.length_toList] at hlen
  refine wpAny_assign_Tuple hh ht (by rw [hlen]; rfl) rfl fun h' hx => ?_
  have x1 : Ext s { s with heap := h' } := Ext.of (tk := s.toks) fun b o e => hx b o (Nat.ne_of_lt (Heap.lt_size e)) e
  obtain ⟨vs⟩ := vs
  cases hl with | cons ra hl =>
  cases hl with | cons rb hl =>
  cases hl
  show wpAny (model prog w) A (holding [_] (assign (.Name x px) fm.env _) >>= fun Z => assignInOrder [assign (.Name y py) fm.env] [_]) Q Fl _
  refine wpAny_bind (wpAny_holding (wpAny_assign_Name (store_ok (p := .d a) K (I.ext x1) hn hs own (Rep.ext ra x1) fun s₂ m₂ I₂ kp₂ => ?_)))
  show wpAny (model prog w) A (holding [] (assign (.Name y py) fm.env _) >>= fun Z => assignInOrder [] []) Q Fl _
  have rb2 : Rep s₂.heap (fm.X Ow) _ b := (Rep.ext rb x1).mono (fun b o hb' e => kp₂.keep b o (fun q => hb' (.inr (.inl q))) e) fun Z Z q => q
  refine wpAny_bind (wpAny_holding (wpAny_assign_Name (store_ok (p := .d b) K I₂ hn' hs' own rb2 fun s₃ m₃ I₃ kp₃ => ?_)))
  exact wpAny_pure (h s₃ m₃ I₃ ⟨fun b o hb' e => kp₃.keep b o hb' (kp₂.keep b o hb' (x1.keep' b o e)), fun b q => kp₃.al b (kp₂.al b (x1.al b q)), kp₃.os.trans (kp₂.os.trans x1.os), fun g => kp₃.gens (kp₂.gens (x1.gens g))⟩)
theorem swapped_none {elts : List Expr} {k : Nat} {tp : Pos} {v : Expr} {env : Env} (h : notTup v = true) : swappedStores [.Tuple elts k tp] v env = pure Option.none := by
  cases v <;> first | rfl | exact absurd h Bool.false_ne_true
theorem sole_false {elts : List Expr} {k : Nat} {tp : Pos} {v : Expr} {l : Nat} {env : Env} (h : notTup v = true) : swapsWithSole [.Tuple elts k tp] v l env = pure false := by
  cases v <;> first | rfl | exact absurd h Bool.false_ne_true
theorem st_unp {i j : Nat} {e : PE} (he : EOk prog w hb n C e) : StOk prog w hb n C G (.unp i j e) := by
  intro fm hg K own A s σ Ow m st r hA I hc hp
  refine chkS_unp _ hc fun x px y py k tp v pos h1 h2 hnt h3 => ?_
  refine ea_0_3 (nameAt_facts h1) fun hn hs hx => ?_
  refine ea_0_3 (nameAt_facts h2) fun hn' hs' hx' => ?_
  refine Classical.byContradiction fun hng => ?_
  refine eT2 hp fun a b hpe hp => ?_
  cases hp
  refine hng ?_
  refine Assign_Tuple (wpAny_mono (he fm A s σ Ow m v _ K hA I h3 hpe) (fun u s₁ ⟨x1, r⟩ => ?_) fun Z Z q => q) (sole_false hnt) (swapped_none hnt)
  exact store2 K own hA.1 (I.ext x1) hn hs hn' hs' r fun s' m' I' kp => post_store (as := []) x1 I' kp (by simp)
theorem st_for2 {i j vi : Nat} {b : PSs} (hG : ∀ fm c, G fm → G (fm.excl c)) (hbod : SsOk prog w hb n C G b) : StOk prog w hb n C G (.for2 i j (.var vi) b) := by
  intro fm hg K own A s σ Ow m st r hA I hc hp
  refine chkS_for2 _ hc fun x px y py k tp ix bs pos h1 h1' hns h2 h3 => ?_
  refine ea_0_3 (nameAt_facts h1) fun hn hs hx => ?_
  refine ea_0_3 (nameAt_facts h1') fun hn' hs' hx' => ?_
  obtain ⟨vx, pv, rfl, hv1, hv2⟩ : ∃ x p, ix = PySem.Expr.Name x p ∧ fm.names[vi]? = some x ∧ isVar fm.S x = true := chk_var (Q := fun e => ∃ x p, e = PySem.Expr.Name x p ∧ fm.names[vi]? = some x ∧ isVar fm.S x = true) _ h2 fun x p a b => ⟨x, p, rfl, a, b⟩
  refine Classical.byContradiction fun hng => ?_
  refine eL hp fun xs hget hp => ?_
  refine hng ?_
  refine wpAny_For (load_ok K I hv1 hv2 hget fun v r => ?_)
  refine Rep.listE _ r fun a vs hna hsa hga hla => ?_
  have x1 : Ext s { s with heap := s.heap.push { cls := .type "list_iterator", data := .fields #[.ref a, .int 0 0] } } := Ext.push _ (tk := s.toks)
  refine wpAny_pyIter_list hga ?_
  have hne : a ≠ s.heap.objs.size := fun e => by obtain ⟨o, ho, _⟩ := hga; rw [e, get_size] at ho; cases ho
  have e := hla.length
  simp only [Array.length_toList] at e
  refine for_core (P := fun i v => vs[i]? = some v) (St' := fun i h => h.IsListIter s.heap.objs.size a i ∧ h.IsList a vs) (fp := [s.heap.objs.size, a]) K own hA I x1 (al_size _) (fun A' hA' => e ▸ Walks.list hA' _ a hne vs) ?_ (fun i h q => let ⟨o, ho, _⟩ := q.1; ⟨o, ho⟩) ?_ ?_ ?_ _ hp ?_ ?_
  · refine ⟨⟨_, Heap.get?_push_size _ rfl, rfl, rfl⟩, ?_⟩
    refine ea_1_2 (hga) fun o ho hr => ?_
    exact ⟨o, Heap.get?_push_of_some _ ho, hr⟩
  · intro b hb'
    rcases List.mem_cons.mp hb' with rfl | hb'
    · exact ⟨_, Heap.get?_push_size _ rfl⟩
    · have : b = a := by simpa using hb'
      subst this
      refine ea_1_2 (hga) fun o ho hr => ?_
      exact ⟨o, Heap.get?_push_of_some _ ho⟩
  · intro b hb' hbi
    rcases List.mem_cons.mp hb' with rfl | hb'
    · exact absurd rfl hbi
    · have : b = a := by simpa using hb'
      subst this; exact hna
  · intro i v y hv hy
    refine ea_1_2 (hla.get hy) fun v' hv' r => ?_
    have : v = v' := by
      rw [Array.getElem?_toList, hv] at hv'; exact Option.some.inj hv'
    subst this
    refine r.mono (fun b o Z e => x1.keep' b o e) fun b hb q => q.elim id fun q => ?_
    subst q; exact absurd hb (al_size _)
  · intro j' s' v Q hj' hPv hst hQ
    cases v with
    | ref T => exact wpAny_letOwnedTupleGo_listiter hst.1 hQ
    | _ => exact wpAny_pure hQ
  · intro s' σ' Ow' m' v y' r' K' I' hrep hf
    refine eDT2 hf fun a' b' ey hf => ?_
    subst ey
    refine store2 (fm := fm.excl s.heap.objs.size) K' own hA.1 I' hn hs hn' hs' hrep fun s₃ m₃ I₃ kp => ?_
    exact wpAny_mono (hbod (fm.excl s.heap.objs.size) (hG fm _ hg) K' own A s₃ _ Ow' m₃ bs r' hA I₃ h3 hf) (fun fl s₄ h => Post.trans (kp.weaken fun a q => .inl (.inl q)) (fun a h => .inl h) h) fun Z Z q => q
end
theorem Rows.snoc {h : Heap} {X : Addr → Prop} {r : Addr} {vs : Array Value} {k : Nat} {xs : List PyData} (hz : vs.size ≤ sizeLine) (hg : h.get? r = some { cls := .type "list", data := .seq vs k }) (hr : RepL h X vs.toList xs) :
    ∀ {as : List Addr} {rows : List (List PyData)}, Rows h X as rows → Rows h X (as ++ [r]) (rows ++ [xs])
  | _, _, .nil => .cons hz hg hr .nil
  | _, _, .cons h1 h2 h3 h4 => .cons h1 h2 h3 (Rows.snoc hz hg hr h4)
theorem Rows.al {h : Heap} {X : Addr → Prop} : ∀ {as : List Addr} {rows : List (List PyData)}, Rows h X as rows → ∀ a ∈ as, Al h a
  | _, _, .nil, a, q => by simp at q
  | _, _, .cons _ h2 _ h4, a, q => by
    rcases List.mem_cons.mp q with rfl | q
    · exact ⟨_, h2⟩
    · exact Rows.al h4 a q
theorem flatten_rep {α : Type} (x : α) : ∀ k : Nat, (List.replicate k [x]).flatten = List.replicate k x
  | 0 => rfl
  | k + 1 => by rw [List.replicate_succ, List.flatten_cons, flatten_rep x k]; rfl
theorem repL_zeros {h : Heap} {X : Addr → Prop} {t : Tok} : ∀ k : Nat, RepL h X (List.replicate k (.int 0 t)) (List.replicate k (.int 0))
  | 0 => .nil
  | k + 1 => .cons (.int 0 t) (repL_zeros k)
section
variable {prog : Program} {w : World} {mg mb : Str → Option Value} {hb : Heap} {n : Nat} {C : Nat → List PV → Option PV} {G : Fm → Prop}
theorem mul_zero {A : Around} {E : Value → Shared → Prop} {s : Shared} {l : Addr} {k : Nat} {t u : Tok} {x : Int} {Q : Value → Shared → Prop} (hl : s.heap.get? l = some { cls := .type "list", data := .seq #[.int 0 t] k })
    (h0 : 0 ≤ x) (h1 : x ≤ lim) (h : Q (.ref s.heap.objs.size) { s with heap := s.heap.push { cls := .type "list", data := .seq (List.replicate x.toNat (.int 0 t)).toArray } }) :
    wpAny (model prog w) A (binaryOp .Mult (.ref l) (.int x u)) Q E s := by
  have hlim : lim = 1000000 := rfl
  refine wpAny_binaryOp_repeat_ref (T := "list") (U := "int") (by decide) ⟨_, hl, rfl⟩ (fun s' => typeIs_int s' x u) noFill_list_mul PySem.F.fills_int_mul PySem.F.slot_int_rmul repeat_list PySem.F.slot_int_index.lookup
    (call_meets PySem.F.slot_int_rmul (typeIs_int s x u) PySem.F.entry_int_rmul (PySem.F.args_int_rmul_2 _ _) (int___rmul___int_list x u l _ k)
      ⟨hl, rfl, ⟨_, hl, rfl⟩, call_meets PySem.F.slot_list_mul ⟨_, hl, rfl⟩ PySem.F.entry_list_mul (PySem.F.args_list_mul_2 _ _)
        (AutoListH.list___mul___list_int_3 l _ k x u (by simp [Builtin.List.listFitsIndex]; lia) (by simp only [Array.size, List.length_singleton]; lia) (by simp [Builtin.List.listTooLong, sizeLine]; lia))
        ⟨hl, ?_⟩⟩)
  rw [listMul_foldl_if]
  have e : (List.replicate x.toNat (#[Value.int 0 t] : Array Value).toList).flatten.toArray = (List.replicate x.toNat (Value.int 0 t)).toArray := by
    rw [show (#[Value.int 0 t] : Array Value).toList = [Value.int 0 t] from rfl, flatten_rep]
  rw [e]
  exact h
noncomputable def TabR (s : Shared) (X : Addr → Prop) (h : Heap) (vs : List Value) (rows : List (List PyData)) : Prop :=
  ∃ as : List Addr, vs = as.map Value.ref ∧ as.Nodup ∧ (∀ a ∈ as, ¬ X a ∧ ¬ Al s.heap a) ∧ Rows h (fun Z => True) as rows
theorem st_ownT {i : Nat} {caps : List Nat} {we it : PE} (hw : EOk prog w hb n C we) (hit : IOk prog w hb n C it) : StOk prog w hb n C G (.ownT i caps we it) := by
  intro fm hg K own A s σ Ow m st r hA I hc hp
  refine chkS_ownT _ hc fun x px k1 p1 p2 wx p3 y p4 ix scope p5 pos h1 h2 hns h3 => ?_
  refine ea_0_3 (nameAt_facts h1) fun hn hs hx => ?_
  refine Classical.byContradiction fun hng => ?_
  refine eNX hp fun xs how hxs hp => ?_
  refine eRs hp fun rows hrows hp => ?_
  refine eIf hp fun hlen hp => ?_
  cases hp
  refine hng ?_
  refine eCo h2 fun N' hN' h2 => ?_
  refine assign_comp (t := .own (.tab rows)) (R := fun X h us => TabR s X h us rows) K own I hn hs (fun use Q h => ?_) fun d c s' vs ce => ?_
  · refine comp_core K hA I hN' hit h3 hns hxs hlen (fun Z => some true) _ (filterMapO_all hrows) (TabR s) (fun X h => ⟨[], rfl, .nil, by simp, .nil⟩) (fun X h h' vs bs q hk => ?_) ?_ ?_ ?_
    · refine ea_1_4 (q) fun as e1 e2 e3 e4 => ?_
      exact ⟨as, e1, e2, e3, e4.mono (fun r hr o e => hk r o (e3 r hr).1 e) (fun b o hb' Z => absurd trivial hb') fun Z Z Z => trivial⟩
    · intro fm' s' m' y b _ _ _ _ hb'
      cases hb'
      exact wpAny_pure ⟨Ext.refl _, rfl⟩
    · intro fm' s' m' y b vs bs' K' hS hN I' hf hal hacc
      refine eI hf fun k hk hf => ?_
      refine eIf hf fun hkb hf => ?_
      cases hf
      refine wpAny_BinOp (wpAny_List (wpAny_items_cons (wpAny_Constant_int (wpAny_items_nil ⟨by rw [sizeLine_eq]; simp, ?_⟩)) rfl))
      have xa : Ext s' { s' with heap := s'.heap.push { cls := .type "list", data := .seq [Value.int 0 s'.toks].toArray }, toks := s'.toks + 1 } := Ext.push _
      have hg0 : (s'.heap.push { cls := .type "list", data := .seq [Value.int 0 s'.toks].toArray }).get? s'.heap.objs.size = _ := Heap.get?_push_size _ rfl
      refine wpAny_mono (hw fm' A _ _ _ m' wx _ K' hA (I'.ext xa) (by rw [hS, hN]; exact h2) hk) (fun u s₂ ⟨x2, r2⟩ => ?_) fun Z Z q => q
      refine Rep.intE _ r2 fun Z => ?_
      refine mul_zero (x2.keep' _ _ hg0) hkb.1 hkb.2 ?_
      have xb : Ext s₂ { s₂ with heap := s₂.heap.push { cls := .type "list", data := .seq (List.replicate k.toNat (Value.int 0 s'.toks)).toArray } } := Ext.push _ (tk := s₂.toks)
      have hg1 : (s₂.heap.push { cls := .type "list", data := .seq (List.replicate k.toNat (Value.int 0 s'.toks)).toArray }).get? s₂.heap.objs.size = _ := Heap.get?_push_size _ rfl
      have xall := (xa.trans x2).trans xb
      refine ⟨xall, ?_⟩
      refine ea_1_4 (hacc) fun as e1 e2 e3 e4 => ?_
      have hnew : ∀ a ∈ as, a ≠ s₂.heap.objs.size := fun a ha q => by
        have := (xa.trans x2).al a (e4.al a ha)
        exact al_size _ (q ▸ this)
      refine ⟨as ++ [s₂.heap.objs.size], by rw [e1, List.map_append]; rfl, ?_, fun a ha => ?_, ?_⟩
      · rw [List.nodup_append]
        exact ⟨e2, by simp, fun a ha b hb' q => hnew a ha (q.trans (by simpa using hb'))⟩
      · rcases List.mem_append.mp ha with ha | ha
        · exact e3 a ha
        · have : a = s₂.heap.objs.size := by simpa using ha
          subst this
          exact ⟨fun q => al_size _ ((xa.trans x2).al _ (I'.alX K' q)), fun q => al_size _ ((xa.trans x2).al _ (hal _ q))⟩
      · refine Rows.snoc ?_ hg1 (repL_zeros _) (e4.mono (fun r Z o e => xall.keep' r o e) (fun b o hb' Z => absurd trivial hb') fun Z Z Z => trivial)
        have := lim_line
        have hlim : lim = 1000000 := rfl
        simp only [List.size_toArray, List.length_replicate]
        lia
    · intro d c s' vs k X' x1 hd hc' hdc hg hsz hacc h4 h5 h6 h7 h8
      exact h d c s' vs ⟨x1, hd, hc', hdc, ⟨k, hg⟩, hsz, ⟨X', hacc, h4, h5, h6, h7⟩, h8⟩
  · refine Classical.byContradiction fun hng => ?_
    obtain ⟨x1, nd, nc, ne, ⟨k, hg⟩, hsz, ⟨X', ⟨as, e1, e2, e3, e4⟩, h4, h5, h6, h7⟩, hns⟩ := ce
    refine hng ?_
    have hdas : d ∉ as := fun q => (e3 d q).1 h6
    have hcas : c ∉ as := fun q => (e3 c q).1 h7
    refine ⟨d :: as, fun a ha => ?_, fun q => ?_, fun X h' hX hd hk => ⟨by simp, vs, k, as, hsz, hk d _ ne hg, e1, e2, hdas, fun r hr => by simp [hr], ?_⟩⟩
    · rcases List.mem_cons.mp ha with rfl | ha
      · exact ⟨nd, _, hg⟩
      · exact ⟨(e3 a ha).2, e4.al a ha⟩
    · rcases List.mem_cons.mp q with q | q
      · exact ne q.symm
      · exact hcas q
    · exact e4.mono (fun r hr o e => hk r o (fun q => hcas (q ▸ hr)) e) (fun b o hb' Z => absurd trivial hb') fun Z Z Z => trivial
end
mutual
noncomputable def wfE : PE → Bool
  | .var _ => true
  | .none => true
  | .bool _ => true
  | .int _ => true
  | .neg a => wfE a
  | .str _ => true
  | .glob _ => true
  | .tup es => wfEs es && decide (es.len ≤ 1000)
  | .lst es => wfEs es && decide (es.len ≤ 1000)
  | .dstr _ => true
  | .bin _ a b => wfE a && wfE b
  | .cmp _ a b => wfE a && wfE b
  | .typeNotInt a => wfE a
  | .idx a i => wfE a && wfE i
  | .sl a l u => wfE a && wfE l && wfE u
  | .call k _ args => decide (k < 26) && wfEs args
  | .len a => wfE a
  | .mx a b => wfE a && wfE b
  | .mn a b => wfE a && wfE b
  | .abs a => wfE a
  | .list a => wfE a
  | .join a => wfE a
  | .splitnl a => wfE a
  | .lower a => wfE a
  | .fstr es => wfEs es
  | .comp _ elt it => wfE elt && wfI it
  | .compIf _ elt it cond => wfE elt && wfI it && wfT cond
  | .anyg _ _ _ => false
  | .range1 _ => false
  | .range2 _ _ => false
  | .range3 _ _ _ => false
  | .ownIdx _ a => wfE a
  | .ownIdx2 _ a b => wfE a && wfE b
  | .ownNeNil _ => true
  | .andE _ => false
  | .orE _ => false
  | .notE _ => false
noncomputable def wfT : PE → Bool
  | .var _ => false
  | .none => false
  | .bool _ => false
  | .int _ => false
  | .neg _ => false
  | .str _ => false
  | .glob _ => false
  | .tup _ => false
  | .lst _ => false
  | .dstr _ => false
  | .bin _ _ _ => false
  | .cmp _ a b => wfE a && wfE b
  | .typeNotInt a => wfE a
  | .idx _ _ => false
  | .sl _ _ _ => false
  | .call _ _ _ => false
  | .len _ => false
  | .mx _ _ => false
  | .mn _ _ => false
  | .abs _ => false
  | .list _ => false
  | .join _ => false
  | .splitnl _ => false
  | .lower _ => false
  | .fstr _ => false
  | .comp _ _ _ => false
  | .compIf _ _ _ _ => false
  | .anyg _ _ _ => false
  | .range1 _ => false
  | .range2 _ _ => false
  | .range3 _ _ _ => false
  | .ownIdx _ _ => false
  | .ownIdx2 _ _ _ => false
  | .ownNeNil _ => true
  | .andE es => wfTs es
  | .orE es => wfTs es
  | .notE a => wfT a
noncomputable def wfI : PE → Bool
  | .var _ => true
  | .none => false
  | .bool _ => false
  | .int _ => false
  | .neg _ => false
  | .str _ => false
  | .glob _ => false
  | .tup _ => false
  | .lst _ => false
  | .dstr _ => false
  | .bin _ a b => wfE a && wfE b
  | .cmp _ _ _ => false
  | .typeNotInt _ => false
  | .idx a i => wfE a && wfE i
  | .sl a l u => wfE a && wfE l && wfE u
  | .call k _ args => decide (k < 26) && wfEs args
  | .len _ => false
  | .mx _ _ => false
  | .mn _ _ => false
  | .abs _ => false
  | .list _ => false
  | .join _ => false
  | .splitnl _ => false
  | .lower _ => false
  | .fstr _ => false
  | .comp _ _ _ => false
  | .compIf _ _ _ _ => false
  | .anyg _ _ _ => false
  | .range1 a => wfE a
  | .range2 a b => wfE a && wfE b
  | .range3 a b c => wfE a && wfE b && wfE c
  | .ownIdx _ _ => false
  | .ownIdx2 _ _ _ => false
  | .ownNeNil _ => false
  | .andE _ => false
  | .orE _ => false
  | .notE _ => false
noncomputable def wfEs : PEs → Bool
  | .nil => true
  | .cons a as => wfE a && wfEs as
noncomputable def wfTs : PEs → Bool
  | .nil => true
  | .cons a as => wfT a && wfTs as
end
section
variable {prog : Program} {w : World} {mg mb : Str → Option Value} {hb : Heap} {n : Nat} {C : Nat → List PV → Option PV}
mutual
theorem all_E (G : Gd mg mb hb) (hC : CallOk prog w mg hb n C) : ∀ (P : PE), wfE P = true → EOk prog w hb n C P
  | .var _, _ => ok_var _
  | .none, _ => ok_none
  | .bool _, _ => ok_bool _
  | .int _, _ => ok_int _
  | .neg a, h => ok_neg (all_E G hC a h)
  | .str _, _ => ok_str _
  | .glob _, _ => ok_glob G _
  | .tup es, h => by
    have h := bb h
    exact ok_tup (all_Es G hC es h.1) (of_decide_eq_true h.2)
  | .lst es, h => by
    have h := bb h
    exact ok_lst (all_Es G hC es h.1) (of_decide_eq_true h.2)
  | .dstr _, _ => ok_dstr G
  | .bin _ a b, h => by
    have h := bb h
    exact ok_bin (all_E G hC a h.1) (all_E G hC b h.2)
  | .cmp _ a b, h => by
    have h := bb h
    exact ok_cmp (all_E G hC a h.1) (all_E G hC b h.2)
  | .typeNotInt a, h => ok_typeNotInt G (all_E G hC a h)
  | .idx a i, h => by
    have h := bb h
    exact ok_idx (all_E G hC a h.1) (all_E G hC i h.2)
  | .sl a l u, h => by
    have h := bb h
    exact ok_sl (all_E G hC a (bb h.1).1) (all_E G hC l (bb h.1).2) (all_E G hC u h.2)
  | .call k _ args, h => by
    have h := bb h
    exact ok_call G hC (of_decide_eq_true h.1) (all_Es G hC args h.2)
  | .len a, h => ok_len G (all_E G hC a h)
  | .mx a b, h => by
    have h := bb h
    exact ok_mx G (all_E G hC a h.1) (all_E G hC b h.2)
  | .mn a b, h => by
    have h := bb h
    exact ok_mn G (all_E G hC a h.1) (all_E G hC b h.2)
  | .abs a, h => ok_abs G (all_E G hC a h)
  | .list a, h => ok_listE G (all_E G hC a h)
  | .join a, h => ok_join (all_E G hC a h)
  | .splitnl a, h => ok_splitnl (all_E G hC a h)
  | .lower a, h => ok_lower (all_E G hC a h)
  | .fstr es, h => ok_fstr (all_F G hC es h)
  | .comp _ elt it, h => by
    have h := bb h
    exact ok_comp (all_E G hC elt h.1) (all_I G hC it h.2)
  | .compIf _ elt it cond, h => by
    have h := bb h
    exact ok_compIf (all_E G hC elt (bb h.1).1) (all_I G hC it (bb h.1).2) (all_T G hC cond h.2)
  | .ownIdx _ a, h => ok_ownIdx (all_E G hC a h)
  | .ownIdx2 _ a b, h => by
    have h := bb h
    exact ok_ownIdx2 (all_E G hC a h.1) (all_E G hC b h.2)
  | .ownNeNil _, _ => ok_ownNeNil
  | .anyg _ _ _, h => ff h
  | .range1 _, h => ff h
  | .range2 _ _, h => ff h
  | .range3 _ _ _, h => ff h
  | .andE _, h => ff h
  | .orE _, h => ff h
  | .notE _, h => ff h
theorem all_T (G : Gd mg mb hb) (hC : CallOk prog w mg hb n C) : ∀ (P : PE), wfT P = true → TOk prog w hb n C P
  | .andE es, h => tok_and (all_And G hC es h)
  | .orE es, h => tok_or (all_Or G hC es h)
  | .notE a, h => tok_not (all_T G hC a h)
  | .cmp _ a b, h => by
    have h := bb h
    exact tok_cmp (all_E G hC a h.1) (all_E G hC b h.2)
  | .ownNeNil _, _ => tok_ownNeNil
  | .typeNotInt a, h => tok_typeNotInt G (all_E G hC a h)
  | .var _, h => ff h
  | .none, h => ff h
  | .bool _, h => ff h
  | .int _, h => ff h
  | .neg _, h => ff h
  | .str _, h => ff h
  | .glob _, h => ff h
  | .tup _, h => ff h
  | .lst _, h => ff h
  | .dstr _, h => ff h
  | .bin _ _ _, h => ff h
  | .idx _ _, h => ff h
  | .sl _ _ _, h => ff h
  | .call _ _ _, h => ff h
  | .len _, h => ff h
  | .mx _ _, h => ff h
  | .mn _ _, h => ff h
  | .abs _, h => ff h
  | .list _, h => ff h
  | .join _, h => ff h
  | .splitnl _, h => ff h
  | .lower _, h => ff h
  | .fstr _, h => ff h
  | .comp _ _ _, h => ff h
  | .compIf _ _ _ _, h => ff h
  | .anyg _ _ _, h => ff h
  | .range1 _, h => ff h
  | .range2 _ _, h => ff h
  | .range3 _ _ _, h => ff h
  | .ownIdx _ _, h => ff h
  | .ownIdx2 _ _ _, h => ff h
theorem all_I (G : Gd mg mb hb) (hC : CallOk prog w mg hb n C) : ∀ (P : PE), wfI P = true → IOk prog w hb n C P
  | .range1 a, h => iok_range1 G (all_E G hC a h)
  | .range2 a b, h => by
    have h := bb h
    exact iok_range2 G (all_E G hC a h.1) (all_E G hC b h.2)
  | .range3 a b c, h => by
    have h := bb h
    exact iok_range3 G (all_E G hC a (bb h.1).1) (all_E G hC b (bb h.1).2) (all_E G hC c h.2)
  | .var _, _ => iok_var
  | .idx a i, h => by
    have h := bb h
    exact iok_idx (ok_idx (all_E G hC a h.1) (all_E G hC i h.2))
  | .bin _ a b, h => by
    have h := bb h
    exact iok_bin (ok_bin (all_E G hC a h.1) (all_E G hC b h.2))
  | .sl a l u, h => by
    have h := bb h
    exact iok_sl (ok_sl (all_E G hC a (bb h.1).1) (all_E G hC l (bb h.1).2) (all_E G hC u h.2))
  | .call k _ args, h => by
    have h := bb h
    exact iok_call (ok_call G hC (of_decide_eq_true h.1) (all_Es G hC args h.2))
  | .none, h => ff h
  | .bool _, h => ff h
  | .int _, h => ff h
  | .neg _, h => ff h
  | .str _, h => ff h
  | .glob _, h => ff h
  | .tup _, h => ff h
  | .lst _, h => ff h
  | .dstr _, h => ff h
  | .cmp _ _ _, h => ff h
  | .typeNotInt _, h => ff h
  | .len _, h => ff h
  | .mx _ _, h => ff h
  | .mn _ _, h => ff h
  | .abs _, h => ff h
  | .list _, h => ff h
  | .join _, h => ff h
  | .splitnl _, h => ff h
  | .lower _, h => ff h
  | .fstr _, h => ff h
  | .comp _ _ _, h => ff h
  | .compIf _ _ _ _, h => ff h
  | .anyg _ _ _, h => ff h
  | .ownIdx _ _, h => ff h
  | .ownIdx2 _ _ _, h => ff h
  | .ownNeNil _, h => ff h
  | .andE _, h => ff h
  | .orE _, h => ff h
  | .notE _, h => ff h
theorem all_Es (G : Gd mg mb hb) (hC : CallOk prog w mg hb n C) : ∀ (P : PEs), wfEs P = true → EsOk prog w hb n C P
  | .nil, _ => oks_nil
  | .cons a as, h => by
    have h := bb h
    exact oks_cons (all_E G hC a h.1) (all_Es G hC as h.2)
theorem all_F (G : Gd mg mb hb) (hC : CallOk prog w mg hb n C) : ∀ (P : PEs), wfEs P = true → FsOk prog w hb n C P
  | .nil, _ => fok_nil
  | .cons a as, h => by
    have h := bb h
    exact fok_cons (all_E G hC a h.1) (all_F G hC as h.2)
theorem all_And (G : Gd mg mb hb) (hC : CallOk prog w mg hb n C) : ∀ (P : PEs), wfTs P = true → AndOk prog w hb n C P
  | .nil, _ => and_nil
  | .cons a as, h => by
    have h := bb h
    exact and_cons (all_T G hC a h.1) (all_And G hC as h.2)
theorem all_Or (G : Gd mg mb hb) (hC : CallOk prog w mg hb n C) : ∀ (P : PEs), wfTs P = true → OrOk prog w hb n C P
  | .nil, _ => or_nil
  | .cons a as, h => by
    have h := bb h
    exact or_cons (all_T G hC a h.1) (all_Or G hC as h.2)
end
theorem nb {b : Bool} (h : (!b) = true) : b = false := by cases b; rfl; exact ff h
theorem all_U (G : Gd mg mb hb) (hC : CallOk prog w mg hb n C) (P : PE) (hc : isCompE P = true) (h : wfE P = true) : UOk prog w hb n C P := by
  cases P <;> try exact ff hc
  · rename_i caps elt it
    have h := bb h
    exact uok_comp (all_E G hC elt h.1) (all_I G hC it h.2)
  · rename_i caps elt it cond
    have h := bb h
    exact uok_compIf (all_E G hC elt (bb h.1).1) (all_I G hC it (bb h.1).2) (all_T G hC cond h.2)
theorem notComp_chk {P : PE} (hc : isCompE P = false) (S : Tab) (N : List Str) (el : Expr) (gens : List Comprehension) (scope : Scope) (pos : Pos) : chk S N P (.ListComp el gens scope pos) = false := by
  cases P <;> first | rfl | exact ff hc.symm
theorem notComp_plain {P : PE} (hc : isCompE P = false) (S : Tab) (N : List Str) (v : Expr) (h : chk S N P v = true) : plainV v = true := by
  rcases chk_plainV h with q | ⟨el, gens, scope, pos, rfl⟩
  · exact q
  · rw [notComp_chk hc] at h; cases h
theorem comp_list {P : PE} (hc : isCompE P = true) {σ : St} {p : PV} (h : pe C P σ = some p) : ∃ xs, p = .d (.list xs) := by
  cases P <;> try exact ff hc
  all_goals
    refine eXs h fun Z Z h => eIf h fun Z h => ?_
    refine ea_1_2 (Option.map_eq_some_iff.mp h) fun zs hzs e => ?_
    exact ⟨zs, e.symm⟩
mutual
noncomputable def wfS (sp : PE → Bool) : PS → Bool
  | .asg _ e => wfE e
  | .ownL _ => true
  | .ownD _ => true
  | .ownC _ e => isCompE e && wfE e
  | .ownT _ _ a b => wfE a && wfI b
  | .unp _ _ e => wfE e
  | .aug _ e => wfE e
  | .app _ e => wfE e
  | .put _ k e => wfE k && wfE e && !isCompE e
  | .put2 _ k l e => wfE k && wfE l && wfE e && !isCompE e
  | .ite t a b => (sp t || wfT t) && wfSs sp a && wfSs sp b
  | .whl t b => wfT t && wfSs sp b
  | .for1 _ it b => wfI it && wfSs sp b
  | .for2 _ _ it b => isVarE it && wfSs sp b
  | .ret e => wfE e
  | .freeze _ => false
noncomputable def wfSs (sp : PE → Bool) : PSs → Bool
  | .nil => true
  | .cons s ss => cond (isFreeze s) (wfSs sp ss) (wfS sp s && wfSs sp ss)
end
variable {Gf : Fm → Prop} {sp : PE → Bool}
theorem freeze_of {s : PS} (h : isFreeze s = true) : ∃ i, s = .freeze i := by
  cases s <;> first | exact ⟨_, rfl⟩ | exact ff h
theorem wfSs_cons {s : PS} {ss : PSs} (hf : isFreeze s = false) : wfSs sp (.cons s ss) = (wfS sp s && wfSs sp ss) := by
  show cond (isFreeze s) (wfSs sp ss) (wfS sp s && wfSs sp ss) = _
  rw [hf]; rfl
theorem chkSs_cons {s : PS} {ss : PSs} (hf : isFreeze s = false) (S : Tab) (N : List Str) (xs : List Stmt) (h : chkSs S N (.cons s ss) xs = true) : ∃ y ys, xs = y :: ys ∧ chkS S N s y = true ∧ chkSs S N ss ys = true := by
  have h : cond (isFreeze s) (chkSs S N ss xs) (lc xs fun x xs => chkS S N s x && chkSs S N ss xs) = true := h
  rw [hf] at h
  exact lc_ind (Q := fun xs => ∃ y ys, xs = y :: ys ∧ chkS S N s y = true ∧ chkSs S N ss ys = true) (fun x xs h => ⟨x, xs, rfl, (bb h).1, (bb h).2⟩) xs h
theorem varE_ind {Q : PE → Prop} (q : ∀ v, Q (.var v)) (e : PE) (h : isVarE e = true) : Q e := by
  cases e <;> first | exact q _ | exact ff h
mutual
theorem all_S (G : Gd mg mb hb) (hC : CallOk prog w mg hb n C) (hG : ∀ fm c, Gf fm → Gf (fm.excl c)) (hsp : ∀ t, sp t = true → TSOk prog w hb n C Gf t) : ∀ (P : PS), wfS sp P = true → StOk prog w hb n C Gf P
  | .asg _ e, h => by
    have h : wfE e = true := h
    refine st_asg (all_E G hC e h) ?_ ?_
    · cases hc : isCompE e with
      | true => exact .inl (all_U G hC e hc h)
      | false => exact .inr fun S N el gens scope pos => notComp_chk hc S N el gens scope pos
    · intro S N el gens scope pos σ p h1 h2
      cases hc : isCompE e with
      | true => exact comp_list hc h2
      | false => rw [notComp_chk hc] at h1; cases h1
  | .ownL _, _ => st_ownL
  | .ownD _, _ => st_ownD
  | .ownC _ e, h => by
    have h := bb h
    exact st_ownC (all_U G hC e h.1 h.2)
  | .ownT _ _ a b, h => by
    have h := bb h
    exact st_ownT (all_E G hC a h.1) (all_I G hC b h.2)
  | .unp _ _ e, h => st_unp (all_E G hC e h)
  | .aug _ e, h => st_aug (all_E G hC e h)
  | .app _ e, h => st_app (all_E G hC e h)
  | .put _ k e, h => by
    have h := bb h
    exact st_put (all_E G hC k (bb h.1).1) (all_E G hC e (bb h.1).2) fun S N v => notComp_plain (nb h.2) S N v
  | .put2 _ k l e, h => by
    have h := bb h
    exact st_put2 (all_E G hC k (bb (bb h.1).1).1) (all_E G hC l (bb (bb h.1).1).2) (all_E G hC e (bb h.1).2) fun S N v => notComp_plain (nb h.2) S N v
  | .ite t a b, h => by
    have h := bb h
    refine st_ite ?_ (all_Ss G hC hG hsp a (bb h.1).2) (all_Ss G hC hG hsp b h.2)
    rcases Bool.or_eq_true_iff.mp (bb h.1).1 with q | q
    · exact hsp t q
    · exact TSOk.of (all_T G hC t q)
  | .whl t b, h => by
    have h := bb h
    exact st_whl (TSOk.of (all_T G hC t h.1)) (all_Ss G hC hG hsp b h.2)
  | .for1 _ it b, h => by
    have h := bb h
    exact st_for1 hG (all_I G hC it h.1) (all_Ss G hC hG hsp b h.2)
  | .for2 _ _ it b, h => varE_ind (Q := fun it => StOk prog w hb n C Gf (.for2 _ _ it b)) (fun Z => st_for2 hG (all_Ss G hC hG hsp b (bb h).2)) it (bb h).1
  | .ret e, h => st_ret (all_E G hC e h)
  | .freeze _, h => ff h
theorem all_Ss (G : Gd mg mb hb) (hC : CallOk prog w mg hb n C) (hG : ∀ fm c, Gf fm → Gf (fm.excl c)) (hsp : ∀ t, sp t = true → TSOk prog w hb n C Gf t) : ∀ (P : PSs), wfSs sp P = true → SsOk prog w hb n C Gf P
  | .nil, _ => ss_nil
  | .cons s ss, h => by
    cases hf : isFreeze s with
    | true =>
      refine ea_1_1 (freeze_of hf) fun i e => ?_
      rw [e] at h ⊢
      exact ss_freeze (all_Ss G hC hG hsp ss h)
    | false =>
      rw [wfSs_cons hf] at h
      have h := bb h
      exact ss_cons' (all_S G hC hG hsp s h.1) (all_Ss G hC hG hsp ss h.2) fun S N xs => chkSs_cons hf S N xs
end
end
structure FnFacts (fn : Fn) (params : Arguments) (body : List Stmt) (scope : Scope) : Prop where
  nodup : fn.names.Nodup
  kind : scope.kind = .function
  co : scope.isCoroutine = false
  gen : scope.isGenerator = false
  tab : (scope.names.map (·.1)).Nodup
  store : ∀ x ∈ fn.names, canStore scope.names x = true
  free : ∀ y ∈ scope.names, y.2 ≠ .free
  body : chkSs scope.names fn.names fn.body body = true
  ar : fn.arity ≤ fn.names.length
theorem chkFn_facts {fn : Fn} {params : Arguments} {body : List Stmt} {scope : Scope} (h : chkFn fn params body scope = true) : FnFacts fn params body scope := by
  unfold chkFn at h
  simp only [Bool.and_eq_true, beq_iff_eq, decide_eq_true_eq, Bool.not_eq_true', List.all_eq_true, bne_iff_ne, ne_eq] at h
  refine Classical.byContradiction fun hng => ?_
  obtain ⟨⟨⟨⟨⟨⟨⟨⟨⟨⟨_, ha⟩, hl⟩, h1⟩, h2⟩, h3⟩, h4⟩, h5⟩, h6⟩, h7⟩, h8⟩ := h
  refine hng ?_
  refine ⟨h1, h2, h3, h4, h5, h6, h7, h8, ?_⟩
  have e := congrArg List.length ha
  rw [List.length_map, hl, List.length_take] at e
  lia
theorem cellsFrom_acc : ∀ (l : List (Str × NameKind)) (k : Nat) (acc : List (Str × Addr)) (y : Str), (acc.lookup y).isSome = true → ((cellsFrom k l acc).lookup y).isSome = true
  | [], _, _, _, h => h
  | (z, q) :: r, k, acc, y, h => by
    rw [cellsFrom]
    split
    · refine cellsFrom_acc r _ _ y ?_
      rw [List.lookup_cons]
      cases hb : y == z with
      | true => rfl
      | false => exact h
    · exact cellsFrom_acc r _ _ y h
theorem cellsFrom_has : ∀ (l : List (Str × NameKind)) (k : Nat) (acc : List (Str × Addr)) (y : Str), (y, NameKind.cell) ∈ l → ((cellsFrom k l acc).lookup y).isSome = true
  | (z, q) :: r, k, acc, y, h => by
    rw [cellsFrom]
    rcases List.mem_cons.mp h with e | h
    · cases e
      rw [if_pos (show (NameKind.cell == NameKind.cell) = true from rfl)]
      refine cellsFrom_acc r _ _ _ ?_
      rw [List.lookup_cons]; simp
    · split
      · exact cellsFrom_has r _ _ y h
      · exact cellsFrom_has r _ _ y h
theorem cellsFrom_keys : ∀ (l : List (Str × NameKind)) (k : Nat) (acc : List (Str × Addr)), (acc.map (·.1) ++ l.map (·.1)).Nodup → ((cellsFrom k l acc).map (·.1)).Nodup
  | [], _, acc, h => by rw [cellsFrom]; simpa using h
  | (z, q) :: r, k, acc, h => by
    rw [cellsFrom]
    split
    · refine cellsFrom_keys r _ _ ?_
      exact List.perm_middle.nodup_iff.mp h
    · refine cellsFrom_keys r _ _ ?_
      exact (List.nodup_cons.mp (List.perm_middle.nodup_iff.mp h)).2
theorem lookup_nodup {β : Type} : ∀ {l : List (Str × β)} {y : Str} {k : β}, (l.map (·.1)).Nodup → (y, k) ∈ l → l.lookup y = some k
  | (z, j) :: r, y, k, hn, h => by
    rw [List.map_cons, List.nodup_cons] at hn
    rw [List.lookup_cons]
    rcases List.mem_cons.mp h with e | h
    · cases e; simp
    · have : y ≠ z := fun q => hn.1 (q ▸ List.mem_map.mpr ⟨_, h, rfl⟩)
      have q' : (y == z) = false := by simpa using this
      rw [q']
      exact lookup_nodup hn.2 h
theorem bindL_other {kindOf : Str → Option NameKind} : ∀ {l : List (Str × Value)} {m : Str → Option Value} {x : Str}, x ∉ l.map (·.1) → bindL kindOf l m x = m x
  | [], _, _, _ => rfl
  | (y, v) :: r, m, x, h => by
    rw [bindL]
    rw [List.map_cons, List.mem_cons, not_or] at h
    rw [bindL_other h.2]
    split
    · exact if_neg h.1
    · rfl
theorem bindC_other {kindOf : Str → Option NameKind} : ∀ {l : List (Str × Value)} {m : Str → Option Value} {x : Str}, x ∉ l.map (·.1) → bindC kindOf l m x = m x
  | [], _, _, _ => rfl
  | (y, v) :: r, m, x, h => by
    rw [bindC]
    rw [List.map_cons, List.mem_cons, not_or] at h
    rw [bindC_other h.2]
    split
    · rfl
    · exact if_neg h.1
theorem zip_fst_sub {α β : Type} : ∀ {l : List α} {r : List β} {x : α}, x ∈ (l.zip r).map (·.1) → x ∈ l
  | [], _, _, h => by simp at h
  | _ :: _, [], _, h => by simp at h
  | a :: l, b :: r, x, h => by
    rw [List.zip_cons_cons, List.map_cons, List.mem_cons] at h
    rcases h with h | h
    · exact h ▸ .head _
    · exact .tail _ (zip_fst_sub h)
theorem bindL_at {kindOf : Str → Option NameKind} : ∀ {ns : List Str} {vs : List Value} {m : Str → Option Value} {i : Nat} {x : Str} {v : Value}, ns.Nodup → ns[i]? = some x → vs[i]? = some v → kindOf x = some .local → bindL kindOf (ns.zip vs) m x = some v
  | [], _, _, _, _, _, _, h, _, _ => by simp at h
  | _ :: _, [], _, _, _, _, _, _, h, _ => by simp at h
  | a :: ns, b :: vs, m, i, x, v, hn, h1, h2, hk => by
    rw [List.nodup_cons] at hn
    rw [List.zip_cons_cons, bindL]
    cases i with
    | zero =>
      rw [List.getElem?_cons_zero] at h1 h2
      cases h1; cases h2
      rw [bindL_other fun q => hn.1 (zip_fst_sub q), if_pos hk]
      exact if_pos rfl
    | succ i =>
      rw [List.getElem?_cons_succ] at h1 h2
      exact bindL_at hn.2 h1 h2 hk
theorem bindC_at {kindOf : Str → Option NameKind} : ∀ {ns : List Str} {vs : List Value} {m : Str → Option Value} {i : Nat} {x : Str} {v : Value}, ns.Nodup → ns[i]? = some x → vs[i]? = some v → kindOf x = some .cell → bindC kindOf (ns.zip vs) m x = some v
  | [], _, _, _, _, _, _, h, _, _ => by simp at h
  | _ :: _, [], _, _, _, _, _, _, h, _ => by simp at h
  | a :: ns, b :: vs, m, i, x, v, hn, h1, h2, hk => by
    rw [List.nodup_cons] at hn
    rw [List.zip_cons_cons, bindC]
    cases i with
    | zero =>
      rw [List.getElem?_cons_zero] at h1 h2
      cases h1; cases h2
      rw [bindC_other fun q => hn.1 (zip_fst_sub q), if_neg (by rw [hk]; intro q; cases q)]
      exact if_pos rfl
    | succ i =>
      rw [List.getElem?_cons_succ] at h1 h2
      exact bindC_at hn.2 h1 h2 hk
noncomputable def callFm (fn : Fn) (scope : Scope) (L a : Addr) (cd : Value) (X : Addr → Prop) (h : Heap) (Pc : Addr → Prop) (T : Heap → Prop) : Fm :=
  { env := envOfC fn.name scope L a cd, S := scope.names, names := fn.names, Kb := L :: (cellsFrom (L + 1) scope.names []).map (·.2), Xb := X, A0 := Al h, own := true, Pc := Pc, T := T }
section
variable {prog : Program} {w : World} {mg mb : Str → Option Value} {hb : Heap} {n : Nat} {C : Nat → List PV → Option PV} {Gf : Fm → Prop}
theorem RepVs.get {h : Heap} {X : Addr → Prop} : ∀ {vs : List Value} {ps : List PV} {i : Nat} {p : PV}, RepVs prog w h X vs ps → ps[i]? = some p → ∃ v, vs[i]? = some v ∧ RepV prog w h X v p
  | _, _, 0, _, .cons a _, e => by
    rw [List.getElem?_cons_zero] at e ⊢; cases e; exact ⟨_, rfl, a⟩
  | _, _, i + 1, _, .cons _ b, e => by
    rw [List.getElem?_cons_succ] at e ⊢; exact RepVs.get b e
  | _, _, _, _, .nil, e => by simp at e
theorem args_get {args : List PV} {k i : Nat} {p : PV} (h : (⟨args.map some ++ List.replicate k Option.none, Option.none⟩ : St).get i = some p) : args[i]? = some p := by
  simp only [St.get, List.getD_eq_getElem?_getD] at h
  by_cases hi : i < args.length
  · rw [List.getElem?_append_left (by simpa using hi), List.getElem?_map] at h
    rw [List.getElem?_eq_getElem hi] at h ⊢
    simpa using h
  · rw [List.getElem?_append_right (by simpa using hi), List.getElem?_replicate] at h
    split at h <;> simp at h
theorem call_core (G : Gd mg mb hb) {f : Nat} {fn : Fn} (hfn : fns[f]? = some fn) (hbody : SsOk prog w hb n C Gf fn.body) {args : List PV} (hlen : args.length = fn.arity) {σ' : St} {p : PV}
    (hp : pss C fn.body ⟨args.map some ++ List.replicate (fn.names.length - fn.arity) Option.none, Option.none⟩ = some (σ', some p))
    {A : Around} {s : Shared} {X : Addr → Prop} {vs : List Value} {a : Addr} (hA : AOk A (n + 1)) (hk : ∀ b o, hb.get? b = some o → s.heap.get? b = some o) (hg : AllBare s.gens) (hX : ∀ a, X a → Al s.heap a ∧ ¬ Al hb a) (hr : RepVs prog w s.heap X vs args)
    (ha : mg fn.name = some (.ref a)) (Pc : Addr → Prop) (T : Heap → Prop) (hPc : ∀ a, Pc a → X a) (hT : T s.heap) (hTs : ∀ h h', T h → (∀ b o, (Al hb b ∨ Pc b) → h.get? b = some o → h'.get? b = some o) → T h')
    (hGf : ∀ params body scope pm cd doc o, hb.get? a = some o → o.data = .func (Calls.docDef fn.name params body scope pm cd doc) → Gf (callFm fn scope s.heap.objs.size a cd X s.heap Pc T)) :
    wpAny (model prog w) A (call (.ref a) vs) (fun v s' => Keep Pc s s' ∧ T s'.heap ∧ RepV prog w s'.heap X v p) Fl s := by
  refine ea_8_6 (G.fn f fn hfn) fun a' o params body scope pm cd doc hm ho hd hcd hchk hbind => ?_
  rw [ha] at hm
  cases hm
  have ff := chkFn_facts hchk
  have hvl : vs.length = fn.arity := hr.length.trans hlen
  have hname : ∀ x ∈ (fn.names.take fn.arity).zip vs, x.1 ∈ fn.names := fun x hx => List.mem_of_mem_take (zip_fst_sub (List.mem_map.mpr ⟨x, hx, rfl⟩))
  have hAl : ∀ (c : Addr), s.heap.objs.size < c → ¬ Al s.heap c := fun c hc ⟨_, e⟩ => Nat.lt_irrefl _ (Nat.lt_trans hc (Heap.lt_size e))
  refine wpAny_call (call_cells_ret (by show A.depth < 1000; have := hA.2.1; lia) (hk _ _ ho) hd (G.nolimit.keeps hk) (hcd.keeps hk) (hbind vs hvl) (fun x hx => ?_) (fun h₁ tk F X₁ => ?_) ff.co ff.gen ff.kind)
  · have := ff.store x.1 (hname x hx)
    simp only [canStore, Bool.or_eq_true, beq_iff_eq] at this
    rcases this with q | q
    · exact .inl q
    · exact .inr ⟨q, cellsFrom_has _ _ _ _ (mem_of_lookup' q)⟩
  · have hGf' := hGf params body scope pm cd doc o ho hd
    have hns := F.ns
    have K : FmOk hb (callFm fn scope s.heap.objs.size a cd X s.heap Pc T) := by
      refine ⟨ff.kind, rfl, rfl, fun x h => h, fun x h => h, fun x h => h, fun x h => .inr h, .head _, fun b o e => ⟨o, hk b o e⟩, hX, fun Z x c h => ?_, fun x h => ?_, fun x y c h1 h2 => ?_, ff.nodup, fun c h => ?_, hPc⟩
      · exact .tail _ (List.mem_map.mpr ⟨(x, c), mem_of_lookup h, rfl⟩)
      · have := cellsFrom_has scope.names (s.heap.objs.size + 1) [] x (mem_of_lookup' h)
        exact Option.isSome_iff_exists.mp this
      · exact name_of_addr X₁.apart (mem_of_lookup h1) (mem_of_lookup h2)
      · rcases List.mem_cons.mp h with h | h
        · exact h ▸ al_size _
        · obtain ⟨⟨y, c'⟩, hy, rfl⟩ := List.mem_map.mp h
          exact hAl _ (X₁.above _ _ hy)
    have hXX : ∀ b, Al s.heap b → (callFm fn scope s.heap.objs.size a cd X s.heap Pc T).X [] b → X b := fun b hb' q => by
      rcases q with q | q | q
      · exact q
      · exact absurd hb' (K.newK b q)
      · simp at q
    have I : Inv prog w hb (callFm fn scope s.heap.objs.size a cd X s.heap Pc T) { s with heap := h₁, toks := tk } ⟨args.map some ++ List.replicate (fn.names.length - fn.arity) Option.none, Option.none⟩ [] (bindL (envOfC fn.name scope s.heap.objs.size a cd).kindOf ((fn.names.take fn.arity).zip vs) fun Z => Option.none) := by
      refine ⟨fun b o e => F.keep b o (hk b o e), hg, hns, fun b h => ?_, by simp, fun b ⟨o, e⟩ => ⟨o, F.keep b o e⟩, by simp, by simp, fun y c h => ⟨_, X₁.cell y c h⟩, fun i q h => ?_, fun i ov h => (by cases h), ?_, hTs⟩
      · rcases List.mem_cons.mp h with h | h
        · refine ea_3_2 (hns) fun o Z Z ho Z => ?_
          exact h ▸ ⟨o, ho⟩
        · obtain ⟨⟨y, c'⟩, hy, rfl⟩ := List.mem_map.mp h
          refine ea_1_2 (X₁.cell y c' (lookup_nodup (cellsFrom_keys _ _ _ (by simpa using ff.tab)) hy)) fun o ho Z => ?_
          exact ⟨o, ho⟩
      · have hai := args_get h
        refine ea_1_2 (hr.get hai) fun v hv hrv => ?_
        have hia : i < fn.arity := by
          have := (List.getElem?_eq_some_iff.mp hai).1
          lia
        have hin : i < fn.names.length := by have := ff.ar; lia
        have hx : fn.names[i]? = some fn.names[i] := List.getElem?_eq_getElem hin
        have hx' : (fn.names.take fn.arity)[i]? = some fn.names[i] := by rw [List.getElem?_take_of_lt hia, hx]
        have hnd : (fn.names.take fn.arity).Nodup := List.Nodup.sublist (List.take_sublist _ _) ff.nodup
        refine ⟨fn.names[i], v, hx, ?_, hrv.mono (fun b o Z e => F.keep b o e) hXX⟩
        have hst := ff.store _ (List.getElem_mem hin)
        simp only [canStore, Bool.or_eq_true, beq_iff_eq] at hst
        rcases hst with q | q
        · exact .inl ⟨q, bindL_at hnd hx' hv q⟩
        · refine ea_1_1 (Option.isSome_iff_exists.mp (cellsFrom_has scope.names (s.heap.objs.size + 1) [] _ (mem_of_lookup' q))) fun c hc => ?_
          refine .inr ⟨.inl q, c, hc, ?_⟩
          have := X₁.cell _ c hc
          rw [bindC_at hnd hx' hv q] at this
          exact this
      · exact hTs _ _ hT fun b o Z e => F.keep b o e
    have hA' : AOk (A.deeper (envOfC fn.name scope s.heap.objs.size a cd)) n := ⟨hA.1, by show A.depth + 1 + 2 * n + 10 ≤ 900; have := hA.2.1; lia, by show A.units + 3 + 8 * n + 200 ≤ cLine; have := hA.2.2; lia⟩
    refine wpAny_mono (hbody _ hGf' K rfl _ _ _ _ _ body _ hA' I ff.body hp) (fun fl s' h => ?_) fun Z Z q => q
    refine Classical.byContradiction fun hng => ?_
    obtain ⟨Ow', m', I', kp, ho', v, e, hv⟩ := h
    refine hng ?_
    subst e
    refine ⟨⟨fun b o hb' e => kp.keep b o ?_ (F.keep b o e), fun b ⟨o, e⟩ => kp.al b ⟨o, F.keep b o e⟩, kp.os, fun Z => I'.gens⟩, I'.tab, hv.mono (fun Z Z Z e => e) fun a Z q => .inl q⟩
    rintro ((q | q) | q)
    · exact K.newK b q ⟨o, e⟩
    · simp at q
    · exact hb' q
end
noncomputable def TabT (c Pt : Addr) (h : Heap) : Prop := ∃ ps, h.IsCode c Pt ps ∧ h.TableAt c Pt ps
theorem TabT.keeps {c Pt : Addr} {h h' : Heap} (x : TabT c Pt h) (hc : ∀ o, h.get? c = some o → h'.get? c = some o) (hP : ∀ o, h.get? Pt = some o → h'.get? Pt = some o) : TabT c Pt h' := by
  refine Classical.byContradiction fun hng => ?_
  obtain ⟨ps, hok, ⟨⟨o1, v1, a1, a2, a3, a4⟩, a5⟩⟩ := x
  refine hng ?_
  refine Classical.byContradiction fun hng => ?_
  obtain ⟨o, vs, file, tf, flags, tg, inF, text, tt, op, ho, hd, h11, h2, h7, h9, h10, hop, rest⟩ := hok
  refine hng ?_
  exact ⟨ps, ⟨o, vs, file, tf, flags, tg, inF, text, tt, op, hc _ ho, hd, h11, h2, h7, h9, h10, hP _ hop, rest⟩, ⟨o1, v1, hc _ a1, a2, a3, a4⟩, hP _ a5⟩
section
variable {prog : Program} {w : World} {mg mb : Str → Option Value} {hb : Heap} {n : Nat} {C : Nat → List PV → Option PV}
theorem touchP {fm : Fm} {s s' : Shared} {σ : St} {Ow : List Addr} {m : Str → Option Value} {c : Addr} (K : FmOk hb fm) (own : fm.own = true) (I : Inv prog w hb fm s σ Ow m) (hc : fm.Xb c)
    (kp : ∀ b o, b ≠ c → s.heap.get? b = some o → s'.heap.get? b = some o) (hal : Al s'.heap c) (hT : fm.T s'.heap) (hg : AllBare s'.gens) : Inv prog w hb fm s' σ Ow m := by
  have al : ∀ b, Al s.heap b → Al s'.heap b := fun b ⟨o, e⟩ => by
    by_cases q : b = c
    · exact q ▸ hal
    · exact ⟨o, kp b o q e⟩
  have hX : ∀ b o, ¬ fm.X Ow b → s.heap.get? b = some o → s'.heap.get? b = some o := fun b o hb' e => kp b o (fun q => hb' (.inl (q ▸ hc))) e
  have hKb : ∀ b ∈ fm.Kb, b ≠ c := fun b hb' q => K.newK b hb' (q ▸ (K.xb c hc).1)
  have hO : ∀ b ∈ Ow, b ≠ c := fun b hb' q => I.newO b hb' (q ▸ (K.xb c hc).1)
  have hhb : ∀ b o, hb.get? b = some o → b ≠ c := fun b o e q => (K.xb c hc).2 (q ▸ ⟨o, e⟩)
  have hcl : ∀ y k, fm.env.cells.lookup y = some k → k ≠ c := fun y k e => hKb k (K.celK own y k e)
  have hv : ∀ y u, HasVar fm.env m s.heap y u → HasVar fm.env m s'.heap y u := fun y u h => h.keeps fun k hk o e => kp k o (hcl y k hk) e
  refine ⟨fun b o e => kp b o (hhb b o e) (I.hbk b o e), hg, I.ns.at' fun o e => kp _ o (hKb _ K.locK) e, fun b h => al b (I.alK b h), fun b h => al b (I.alO b h), fun b h => al b (I.al0 b h), I.newO, I.disj,
    fun y k e => ?_, fun i p e => ?_, fun i ov e => ?_, hT, I.tSt⟩
  · refine ea_2_2 (I.cells y k e) fun v o ho hd => ?_
    exact ⟨v, o, kp _ _ (hcl y k e) ho, hd⟩
  · refine ea_2_3 (I.vars i p e) fun y v h1 h2 h3 => ?_
    exact ⟨y, v, h1, hv y v h2, h3.mono hX fun Z Z q => q⟩
  · refine ea_2_3 (I.own i ov e) fun y a h1 h2 h3 => ?_
    refine ⟨y, a, h1, hv y _ h2, ?_⟩
    cases ov with
    | lst xs => obtain ⟨h0, vs, n, e1, e2, e3⟩ := h3; exact ⟨h0, vs, n, e1, kp _ _ (hO a h0) e2, e3.mono hX fun Z Z q => q⟩
    | dict m =>
      refine Classical.byContradiction fun hng => ?_
      obtain ⟨h0, g, ⟨o, es, ep, ho, q⟩, e2, e3⟩ := h3
      refine hng ?_
      exact ⟨h0, g, ⟨o, es, ep, kp _ _ (hO a h0) ho, q⟩, e2, e3.of_same ho (kp _ _ (hO a h0) ho)⟩
    | tab rows =>
      refine Classical.byContradiction fun hng => ?_
      obtain ⟨h0, vs, n, as', e1, e2, e3, e4, e5, e6, e7⟩ := h3
      refine hng ?_
      exact ⟨h0, vs, n, as', e1, kp _ _ (hO a h0) e2, e3, e4, e5, e6, e7.mono (fun r hr o e => kp r o (hO r (e6 r hr)) e) hX fun Z Z q => q⟩
noncomputable def gelt : PE := .cmp .le (.abs (.bin .sub (.var 2) (.var 0))) (.var 1)
theorem gelt_int {σ : St} {y : PyData} {caps : List Nat} {b : Bool} (h : pt C gelt (inner σ caps y) = some b) :
    ∃ z i k : Int, y = .int z ∧ (inner σ caps y).get 2 = some (.d (.int i)) ∧ (inner σ caps y).get 1 = some (.d (.int k)) ∧ b = decide ((if i - z < 0 then -(i - z) else i - z) ≤ k) := by
  refine eD2 h fun x p1 hx h1 h => eI hx fun q hq hx => eD2 hq fun p2 p0 h2 h0 hq => subI hq fun i z e2 e0 hq => ?_
  cases hx
  refine leI h fun k e1 hr => ?_
  cases hq
  have hy : PV.d y = PV.d (.int z) := (Option.some.inj h0).trans e0
  cases hy
  exact ⟨z, i, k, rfl, e2 ▸ h2, e1 ▸ h1, (Option.some.inj hr).symm⟩
theorem gen_elt {A : Around} {E : Value → Shared → Prop} {s : Shared} {scope : Scope} {cl : List (Str × Addr)} {Cc : Addr} {code : Value} {env : Env} {N' : List Str} {x y1 y2 : Str} {el : Expr} {m₂ : Str → Option Value} {z i k : Int} {t t1 t2 : Tok} {c1 c2 : Addr} (G : Gd mg mb hb)
    (hglob : env.globals = mainGlobals) (hk : ∀ b o, hb.get? b = some o → s.heap.get? b = some o) (hkind : scope.kind = .function) (hx : scope.names.lookup x = some .local) (h0 : N'[0]? = some x) (h1 : N'[1]? = some y1) (h2 : N'[2]? = some y2)
    (f1 : scope.names.lookup y1 = some .free) (f2 : scope.names.lookup y2 = some .free) (e1 : cl.lookup y1 = some c1) (e2 : cl.lookup y2 = some c2) (i1 : s.heap.IsCell c1 (some (.int k t1))) (i2 : s.heap.IsCell c2 (some (.int i t2)))
    (hns : s.heap.Ns Cc m₂) (hm : m₂ x = some (.int z t)) (hchk : chk scope.names N' gelt el = true) :
    wpAny (model prog w) A (eval el (genEnv scope cl Cc code builtinsNs env)) (fun y s₃ => y = .bool (decide ((if i - z < 0 then -(i - z) else i - z) ≤ k)) ∧ Keeps s s₃) E s := by
  refine chk_cmp _ hchk fun l o r pos ho hns' h3 h4 => ?_
  refine chk_abs _ h3 fun p xx pos' hg hst h5 => ?_
  refine chk_bin _ h5 fun l' o' r' pos'' ho' h6 h7 => ?_
  refine chk_var _ h6 fun z2 p2 g2 v2 => ?_
  refine chk_var _ h7 fun z0 p0 g0 v0 => ?_
  refine chk_var _ h4 fun z1 p1 g1 v1 => ?_
  rw [h2] at g2; cases g2
  rw [h0] at g0; cases g0
  rw [h1] at g1; cases g1
  simp only [isVar, Bool.and_eq_true, bne_iff_ne, ne_eq] at v0 v1 v2
  simp only [isGlob, Bool.and_eq_true, beq_iff_eq, bne_iff_ne, ne_eq] at hg
  have hio : o = .LtE := by cases o <;> first | rfl | (exact absurd ho (by decide))
  have hio' : o' = .Sub := by cases o' <;> first | rfl | (exact absurd ho' (by decide))
  subst hio; subst hio'
  refine ea_0_2 (G.bi _ _ bi_abs) fun b1 b2 => ?_
  refine wpAny_Compare1 ?_ (notSet_marks rfl)
  refine Call_ (Calls.Name_function_global hkind hg.1 (Calls.loadGlobal_builtin (mg := mg) (mb := mb) ?_ b1 (G.b.keeps hk) b2 ?_) (by simpa using hg.2))
  · show s.heap.Ns env.globals mg
    rw [hglob]; exact G.g.keeps hk
  refine callWith_builtin1 (args_cons (wpAny_BinOp ?_) rfl) rfl
  refine wpAny_Name (wpAny_loadName_free hkind f2 e2 i2 ?_ (by simpa using v2.2)) (by simpa using v2.1.2)
  refine wpAny_Name (wpAny_loadName_local hkind hx hns hm ?_) (by simpa using v0.1.2)
  refine sub_int (args_nil (call_abs_int fun u tk => ?_))
  refine wpAny_Name (wpAny_loadName_free hkind f1 e1 i1 ?_ (by simpa using v1.2)) (by simpa using v1.1.2)
  exact le_int ⟨rfl, _, _, rfl, fun Z Z e => e⟩
end
theorem mapO_take_any {α : Type} {f : α → Option Bool} {l : List α} {r : List Bool} (h : mapO f l = some r) : (List.range l.length).any (fun j => r.getD j false) = r.any id := by
  have hl := mapO_length h
  rw [← hl]
  clear h hl
  induction r with
  | nil => rfl
  | cons b r ih =>
    rw [List.length_cons, List.range_succ_eq_map, List.any_cons, List.any_map, List.any_cons]
    have : ((fun j => (b :: r).getD j false) ∘ Nat.succ) = fun j => r.getD j false := by
      funext j; simp
    rw [this, ih]
    rfl
noncomputable def GfW (c Pt : Addr) (fm : Fm) : Prop := fm.env.code = .ref c ∧ fm.Pc = (fun a => a = Pt) ∧ fm.T = TabT c Pt
section
variable {prog : Program} {w : World} {mg mb : Str → Option Value} {hb : Heap} {n : Nat} {C : Nat → List PV → Option PV}
theorem ts_anyg (G : Gd mg mb hb) {c Pt bm : Addr} {ob : Obj} (M : BMod hb mainGlobals mg bm ob) (hcb : Al hb c) {vi ci cj : Nat} : TSOk prog w hb n C (GfW c Pt) (.anyg [ci, cj] gelt (.var vi)) := by
  intro fm hG K own A s σ Ow m e b hA I hc hp
  refine ea_0_3 (hG) fun hcode hPc hT => ?_
  refine chk_anyg _ hc fun p0 el x p1 ix scope p2 pos hg h1 hns hname h2 hdot => ?_
  refine Classical.byContradiction fun hng => ?_
  refine eXs hp fun xs hxs hp => ?_
  refine eIf hp fun hlen hp => ?_
  refine ea_1_2 (Option.map_eq_some_iff.mp hp) fun ys hys hb' => ?_
  refine hng ?_
  subst hb'
  refine eCo h1 fun N' hN' h1 => ?_
  refine ea_1_10 (compOk_facts hN') fun cs hmap hN hkind hx hnc hnd hcor hfr hcf hcsn => ?_
  have hclos := closureFor_eq (scope := scope) (env := fm.env) fun y hy hf => K.celHas _ (hfr y hy hf).2
  have hPX : fm.Xb Pt := K.pcX Pt (by rw [hPc])
  have hPal : Al s.heap Pt := I.al0 Pt (K.xb Pt hPX).1
  have hPhb : ¬ Al hb Pt := (K.xb Pt hPX).2
  have hbP : ∀ b o, hb.get? b = some o → b ≠ Pt := fun b o e q => hPhb (q ▸ ⟨o, e⟩)
  have hcs : Al s.heap c := let ⟨o, e⟩ := hcb; ⟨o, I.hbk _ _ e⟩
  have hcP : c ≠ Pt := fun q => hPhb (q ▸ hcb)
  have hcaps : ∃ y1 y2, cs = [y1, y2] ∧ fm.names[ci]? = some y1 ∧ fm.names[cj]? = some y2 := by
    have q1 : mapO (fun i => fm.names[i]?) [ci, cj] = some cs := hmap
    refine eMap q1 fun a1 rs ha1 q2 q1 => eMap q2 fun a2 rs' ha2 q3 q2 => ?_
    cases q3; cases q2; cases q1
    exact ⟨_, _, rfl, ha1, ha2⟩
  refine ea_2_3 (hcaps) fun y1 y2 hrf2 hn1 hn2 => ?_
  subst hrf2
  subst hN
  refine wpAny_isTrue_value ?_ rfl
  refine Call_ (built_ok G K I hg bi_any ?_)
  refine callWith_builtin1 (args_cons ?_ rfl) rfl
  refine wpAny_GeneratorExp_walksQD hA.1 hcor hclos hnc hdot hx hkind (by show A.depth < 1000; have := hA.2.1; lia) ?_ ?_
  rotate_left
  · intro v
    cases ix <;> first | rfl | exact absurd hname Bool.false_ne_true
  refine wpAny_mono (iok_var (n := n) (C := C) fm A s σ Ow m ix xs K hA I h2 hxs) (fun v s₁ hh => wpAny_mono hh (fun itv s₂ ⟨x2, ia, eit, hia, hiter⟩ => ?_) fun Z Z q => q) fun Z Z q => q
  subst eit
  refine ea_3_6 (hiter) fun fp P St' W hst hStAl hfal hfx hPr => ?_
  have I2 := I.ext x2
  have hP2 := x2.al _ hPal
  refine ⟨G.nolimit.keeps I2.hbk, ?_⟩
  have hiaP : ia ≠ Pt := fun q => hia (q ▸ hPal)
  have rest : ∀ (code : Value) (h₃ : Heap) (tk₃ : Nat), Heap.ExtBut Pt s₂.heap h₃ → TabT c Pt h₃ →
      wpAny (model prog w) A (builtinsFor fm.env.globals fm.env.builtins) (fun bi s₄ => ∃ I fp wr n₀ P St₀ pz F, (Value.ref ia) = .ref I ∧ (∀ A' : Around, A'.handled = Option.none → Walks prog w A' I fp wr n₀ P St₀) ∧ St₀ 0 s₄.heap ∧ (∀ b ∈ fp, b < s₄.heap.objs.size) ∧ s₄.heap.NoLimit ∧ cStatics ∉ wr ∧
        (∀ href : Heap, (∀ b o, s₄.heap.get? b = some o → href.get? b = some o) →
          QuietGenD prog w (genEnv scope (closList fm.env scope.names []) s₄.heap.objs.size code bi fm.env) x [] el (List.range s₄.heap.objs.size) wr P pz F href (A.depth + 1) (A.units + 8)) ∧
        (∀ a h₅ tk gs, gs.bare = true → s₄.heap.objs.size < a → h₅.objs.size = a + 1 → (∀ b o, s₄.heap.get? b = some o → h₅.get? b = some o) →
          WalksS prog w A.in4 a (a :: s₄.heap.objs.size :: List.range s₄.heap.objs.size) (s₄.heap.objs.size :: wr) (GenOnlyQ s₄.gens.size) (passing pz n₀ 0).length
            (fun j y => ∃ i, (passing pz n₀ 0)[j]? = some i ∧ F i y) (GenAt prog w A.in4 a s₄.gens.size s₄.heap.objs.size (List.range s₄.heap.objs.size) wr pz n₀ F) →
          GenAt prog w A.in4 a s₄.gens.size s₄.heap.objs.size (List.range s₄.heap.objs.size) wr pz n₀ F 0 { s₄ with gens := s₄.gens.push gs, toks := tk, heap := h₅ } →
          wpAny (model prog w) A (spliced (backTo pos (starEach [] fm.env))) (fun vs s₁ => wpAny (model prog w) A (call (.builtin "any") ((Value.ref a) :: vs)) (fun v s₁ => wpAny (model prog w) A (truthy v) (fun v s' => Inv prog w hb fm s' σ Ow m ∧ Keep fm.Pc s s' ∧ v = ys.any id) Fl s₁) Fl s₁) Fl { s₄ with gens := s₄.gens.push gs, toks := tk, heap := h₅ })) Fl { s₂ with heap := h₃, toks := tk₃ } := by
    intro code h₃ tk₃ hx₃ hT₃
    have hk3 : ∀ b o, hb.get? b = some o → h₃.get? b = some o := fun b o e => hx₃ b o (hbP b o e) (I2.hbk b o e)
    have ks3 : ∀ b o, b ≠ Pt → s.heap.get? b = some o → h₃.get? b = some o := fun b o hb' e => hx₃ b o hb' (x2.keep' b o e)
    have hP3 : ∃ o, h₃.get? Pt = some o := let ⟨_, _, q⟩ := hT₃; ⟨_, q.2⟩
    have hc3 : ∃ o, h₃.get? c = some o := let ⟨o, e⟩ := hcs; ⟨o, ks3 c o hcP e⟩
    have hsS : ∀ b, Al s.heap b → b ≠ ia := fun b hb' q => hia (q ▸ hb')
    have hX3 : ∀ b, Al h₃ b → b ≠ h₃.objs.size := fun b ⟨o, e⟩ q => Nat.lt_irrefl _ (q ▸ Heap.lt_size e)
    refine wpAny_builtinsFor (by rw [K.globals]; exact M.ns.keeps hk3) M.name M.ne (hk3 _ _ M.obj) M.cls M.dict M.data ?_
    have W' : ∀ A' : Around, A'.handled = Option.none → Walks prog w A' ia fp [ia] xs.length (fun j v => P j v ∧ j < xs.length) St' := fun A' hA' =>
      ⟨(W A' hA').sub, (W A' hA').frame, fun i s Q E hi st hQ => (W A' hA').item i s Q E hi st fun v h' tk hP => hQ v h' tk ⟨hP, hi⟩, (W A' hA').done, (W A' hA').self⟩
    have hfpP : ∀ b ∈ fp, b ≠ Pt := fun b hb' q => by
      by_cases e : b = ia
      · exact hiaP (e.symm.trans q)
      · exact hfx b hb' e (.inl (q ▸ hPX))
    refine ⟨ia, fp, [ia], xs.length, _, St', fun Z => true, fun j y => y = .bool (ys.getD j false), rfl, W', ?_, ?_, G.nolimit.keeps hk3, ?_, ?_, ?_⟩
    · exact (W A hA.1).frame _ _ _ hst fun b hb' o e => hx₃ b o (hfpP b hb') e
    · intro b hb'
      refine ea_1_1 (hfal b hb') fun o e => ?_
      exact Heap.lt_size (hx₃ b o (hfpP b hb') e)
    · intro q
      have q : cStatics = ia := by simpa using q
      refine Classical.byContradiction fun hng => ?_
      obtain ⟨_, ⟨o, _, _, ho, _⟩, _⟩ := G.nolimit
      refine hng ?_
      exact hia (q ▸ ⟨o, I.hbk _ _ ho⟩)
    · intro href hhref
      refine ⟨fun A' E' j v s' m₂ Z Z Z Z Z Z Z => wpAny_pure ⟨rfl, _, _, rfl, fun Z Z e => e⟩, fun A' E' j v s' m₂ Z Z Z hP Z hns' hm hkp => ?_⟩
      have kall : ∀ b o, b ≠ Pt → s.heap.get? b = some o → s'.heap.get? b = some o := fun b o hb' e => by
        have e3 := ks3 b o hb' e
        exact hkp b (List.mem_range.mpr (Heap.lt_size e3)) (fun q => hsS b ⟨o, e⟩ (by simpa using q)) o (hhref b o e3)
      obtain ⟨y, hy⟩ : ∃ y, xs[j]? = some y := ⟨xs[j]'hP.2, List.getElem?_eq_getElem hP.2⟩
      refine ea_1_2 (mapO_get hys hy) fun bj hbj hyj => ?_
      refine ea_3_4 (gelt_int hbj) fun z i k hrf3 gi gk eb => ?_
      subst hrf3
      have rv := hPr j v _ hP.1 hy
      cases rv with | int _ t =>
      have cap : ∀ (q : Nat) (yq : Str) (iq : Int), fm.names[q]? = some yq → yq ∈ [y1, y2] → σ.get q = some (.d (.int iq)) → scope.names.lookup yq = some .free ∧ ∃ cq tq, (closList fm.env scope.names []).lookup yq = some cq ∧ s'.heap.IsCell cq (some (.int iq tq)) := by
        intro q yq iq hq hmem hσ
        refine ea_2_3 (I.vars q _ hσ) fun x' v' g1 g2 g3 => ?_
        rw [hq] at g1; cases g1
        cases g3 with | int _ tq =>
        refine ea_0_2 (hcf yq hmem) fun hfree hzx => ?_
        have hcell := (hfr _ (mem_of_lookup' hfree) rfl).2
        have hkc := K.cel yq hcell
        refine ea_1_1 (K.celHas yq hcell) fun kk hkk => ?_
        rcases g2 with ⟨q', _⟩ | ⟨_, k', hk', o', ho', hd'⟩
        · rw [hkc] at q'; cases q'
        · rw [hkk] at hk'; cases hk'
          refine ⟨hfree, kk, tq, ?_, o', kall _ _ (fun q => ?_) ho', hd'⟩
          · have hs := closList_has fm.env scope.names [] yq (.inr ⟨mem_of_lookup' hfree, kk, hkk⟩)
            cases hq' : (closList fm.env scope.names []).lookup yq with
            | none => rw [hq'] at hs; cases hs
            | some k' =>
              have := closList_sub fm.env _ [] (by simp) yq k' hq'
              rw [hkk] at this; rw [this]
          · exact K.newK _ (K.celK own yq kk hkk) (q ▸ (K.xb Pt hPX).1)
      refine Classical.byContradiction fun hng => ?_
      obtain ⟨f1, c1, t1, e1, i1⟩ := cap ci y1 k hn1 (by simp) gk
      refine hng ?_
      refine Classical.byContradiction fun hng => ?_
      obtain ⟨f2, c2, t2, e2, i2⟩ := cap cj y2 i hn2 (by simp) gi
      refine hng ?_
      refine wpAny_mono (gen_elt (A := A') (E := E') (N' := [x, y1, y2]) (x := x) (y1 := y1) (y2 := y2) G K.globals (fun b o e => kall b o (hbP b o e) (I.hbk b o e)) hkind hx rfl rfl rfl f1 f2 e1 e2 i1 i2 hns' hm h1) (fun u s₃ ⟨e', hke⟩ => ⟨?_, hke⟩) fun Z Z q => q
      rw [e', ← eb, List.getD_eq_getElem?_getD, hyj]
      rfl
    · intro a h₅ tk gs hbare hlt hsz hk5 Wg hst0
      have Wg1 := Wg.in4_1
      have hpass : passing (fun Z => true) xs.length 0 = List.range xs.length := by simp [passing]
      refine args_nil (call_any_walkS (Wg1.self 0 _ _ _ hst0 ⟨a, _, _, _, _, _, _, fun j => ys.getD j false, rfl, Wg1, hst0, ?_, fun s' hm => ?_⟩))
      · rintro j v s' Q E ⟨j', hj', hF⟩ hQ
        rw [hpass] at hj'
        obtain ⟨hlt', e⟩ := List.getElem?_eq_some_iff.mp hj'
        rw [List.getElem_range] at e
        subst e
        rw [hF]
        exact wpAny_truthy_bool hQ
      · have kfin : ∀ b o, b ≠ Pt → s.heap.get? b = some o → s'.heap.get? b = some o := fun b o hb' e => by
          have e3 := ks3 b o hb' e
          refine hm.heap b o (fun q => ?_) (hk5 b o e3)
          rcases List.mem_cons.mp q with q | q
          · exact hX3 b ⟨o, e3⟩ q
          · exact hsS b ⟨o, e⟩ (by simpa using q)
        have k3 : ∀ b o, b ≠ ia → h₃.get? b = some o → s'.heap.get? b = some o := fun b o hb' e => by
          refine hm.heap b o (fun q => ?_) (hk5 b o e)
          rcases List.mem_cons.mp q with q | q
          · exact hX3 b ⟨o, e⟩ q
          · exact hb' (by simpa using q)
        have halP : Al s'.heap Pt := let ⟨o, e⟩ := hP3; ⟨o, k3 Pt o (Ne.symm hiaP) e⟩
        have hTs : TabT c Pt s'.heap := hT₃.keeps (fun o e => k3 c o (hsS c hcs) e) (fun o e => k3 Pt o (Ne.symm hiaP) e)
        have hgens : AllBare s'.gens := by
          refine AllBare.movedS (s := { s₂ with gens := s₂.gens.push gs, toks := tk, heap := h₅ }) ?_ hm
          exact I2.gens.push hbare
        rw [hpass, List.length_range, mapO_take_any hys]
        refine wpAny_truthy_bool ⟨touchP K own I hPX kfin halP (hT ▸ hTs) hgens, ⟨fun b o hb' e => kfin b o (by rw [hPc] at hb'; exact hb') e, fun b hb' => ?_, hm.os.trans x2.os, fun Z => hgens⟩, rfl⟩
        by_cases q : b = Pt
        · exact q ▸ halP
        · refine ea_1_1 (hb') fun o e => ?_
          exact ⟨o, kfin b o q e⟩
  obtain ⟨ps, hok, htab⟩ : TabT c Pt s₂.heap := hT ▸ I2.tab
  cases hca : codeAmong p2 ps.toList with
  | none => exact wpAny_genexprCodeX hcode hok htab hca fun c' h₃ tk₃ hx₃ hge hlt hcode₃ Z htab₃ Z => rest (.ref c') h₃ tk₃ hx₃ ⟨_, hcode₃, htab₃⟩
  | some code => exact wpAny_genexprCode_hit hcode hok hca (rest code s₂.heap s₂.toks (fun Z Z Z e => e) ⟨ps, hok, htab⟩)
end
noncomputable def sp0 : PE → Bool := fun Z => false
noncomputable def sp26 (t : PE) : Bool := qAny t fun caps e it => l2 caps fun Z Z => qCmp e fun op a b => qAbs a fun a => qBin a fun o x y => qVar x fun i => qVar y fun j => qVar b fun k => qVar it fun Z =>
  eqb op .le (eqb o .sub (eqb i 2 (eqb j 0 (eqb k 1 true))))
theorem sp26_inv {t : PE} (h : sp26 t = true) : ∃ i j k, t = .anyg [i, j] (.cmp .le (.abs (.bin .sub (.var 2) (.var 0))) (.var 1)) (.var k) := by
  refine qAny_ind (Q := fun t => ∃ i j k, t = .anyg [i, j] (.cmp .le (.abs (.bin .sub (.var 2) (.var 0))) (.var 1)) (.var k)) (fun caps e it h => ?_) t h
  refine l2_ind (Q := fun caps => ∃ i j k, PE.anyg caps e it = .anyg [i, j] (.cmp .le (.abs (.bin .sub (.var 2) (.var 0))) (.var 1)) (.var k)) (fun c d h => ?_) caps h
  refine qCmp_ind (Q := fun e => ∃ i j k, PE.anyg [c, d] e it = .anyg [i, j] (.cmp .le (.abs (.bin .sub (.var 2) (.var 0))) (.var 1)) (.var k)) (fun op a b h => ?_) e h
  refine qAbs_ind (Q := fun a => ∃ i j k, PE.anyg [c, d] (.cmp op a b) it = .anyg [i, j] (.cmp .le (.abs (.bin .sub (.var 2) (.var 0))) (.var 1)) (.var k)) (fun a h => ?_) a h
  refine qBin_ind (Q := fun a => ∃ i j k, PE.anyg [c, d] (.cmp op (.abs a) b) it = .anyg [i, j] (.cmp .le (.abs (.bin .sub (.var 2) (.var 0))) (.var 1)) (.var k)) (fun o x y h => ?_) a h
  refine qVar_ind (Q := fun x => ∃ i j k, PE.anyg [c, d] (.cmp op (.abs (.bin o x y)) b) it = .anyg [i, j] (.cmp .le (.abs (.bin .sub (.var 2) (.var 0))) (.var 1)) (.var k)) (fun p h => ?_) x h
  refine qVar_ind (Q := fun y => ∃ i j k, PE.anyg [c, d] (.cmp op (.abs (.bin o (.var p) y)) b) it = .anyg [i, j] (.cmp .le (.abs (.bin .sub (.var 2) (.var 0))) (.var 1)) (.var k)) (fun q h => ?_) y h
  refine qVar_ind (Q := fun b => ∃ i j k, PE.anyg [c, d] (.cmp op (.abs (.bin o (.var p) (.var q))) b) it = .anyg [i, j] (.cmp .le (.abs (.bin .sub (.var 2) (.var 0))) (.var 1)) (.var k)) (fun r h => ?_) b h
  refine qVar_ind (Q := fun it => ∃ i j k, PE.anyg [c, d] (.cmp op (.abs (.bin o (.var p) (.var q))) (.var r)) it = .anyg [i, j] (.cmp .le (.abs (.bin .sub (.var 2) (.var 0))) (.var 1)) (.var k)) (fun u h => ?_) it h
  have h1 := bb h; have h2 := bb h1.2; have h3 := bb h2.2; have h4 := bb h3.2; have h5 := bb h4.2
  rw [of_decide_eq_true h1.1, of_decide_eq_true h2.1, of_decide_eq_true h3.1, of_decide_eq_true h4.1, of_decide_eq_true h5.1]
  exact ⟨c, d, u, rfl⟩
noncomputable def sp27 (t : PE) : Bool := qCmp t fun op x y => qCal x fun k Z a => qCal y fun l Z b => eqb op .ne (eqb k 14 (eqb l 26 (wfEs a && wfEs b)))
theorem sp27_inv {t : PE} (h : sp27 t = true) : ∃ n m a b, t = .cmp .ne (.call 14 n a) (.call 26 m b) ∧ wfEs a = true ∧ wfEs b = true := by
  refine qCmp_ind (Q := fun t => ∃ n m a b, t = .cmp .ne (.call 14 n a) (.call 26 m b) ∧ wfEs a = true ∧ wfEs b = true) (fun op x y h => ?_) t h
  refine qCal_ind (Q := fun x => ∃ n m a b, PE.cmp op x y = .cmp .ne (.call 14 n a) (.call 26 m b) ∧ wfEs a = true ∧ wfEs b = true) (fun k n0 a0 h => ?_) x h
  refine qCal_ind (Q := fun y => ∃ n m a b, PE.cmp op (.call k n0 a0) y = .cmp .ne (.call 14 n a) (.call 26 m b) ∧ wfEs a = true ∧ wfEs b = true) (fun l m0 b0 h => ?_) y h
  have h1 := bb h; have h2 := bb h1.2; have h3 := bb h2.2
  rw [of_decide_eq_true h1.1, of_decide_eq_true h2.1, of_decide_eq_true h3.1]
  exact ⟨n0, m0, a0, b0, rfl, (bb h3.2).1, (bb h3.2).2⟩
theorem wf_all : (fns.take 26).all (fun fn => wfSs sp0 fn.body) = true := by decide +kernel
theorem wf_26 : (fns[26]?.map fun fn => wfSs sp26 fn.body) = some true := by decide +kernel
theorem wf_27 : (fns[27]?.map fun fn => wfSs sp27 fn.body) = some true := by decide +kernel
noncomputable def GfL (c Pt : Addr) (fm : Fm) : Prop := fm.Pc = (fun a => a = Pt) ∧ fm.T = TabT c Pt
section
variable {prog : Program} {w : World} {mg mb : Str → Option Value} {hb : Heap}
theorem callAt_inv {F : List Fn} {n f : Nat} {args : List PV} {p : PV} (h : callAt F n f args = some p) : ∃ n' fn σ', n = n' + 1 ∧ F[f]? = some fn ∧ args.length = fn.arity ∧
    pss (callAt F n') fn.body ⟨args.map some ++ List.replicate (fn.names.length - fn.arity) Option.none, Option.none⟩ = some (σ', some p) := by
  cases n with
  | zero => cases h
  | succ n =>
    refine eFn h fun fn hfn h => eIf h fun hl h => eRun h fun σ' p' hp h => ?_
    cases h
    exact ⟨n, fn, σ', rfl, hfn, hl, hp⟩
theorem callOk_all (G : Gd mg mb hb) : ∀ n, CallOk prog w mg hb n (callAt fns n)
  | 0 => by
    intro f fn args p _ _ h
    cases h
  | n + 1 => by
    intro f fn args p hf hfn h A s X vs a hA hk hg hX hr ha
    refine ea_3_4 (callAt_inv h) fun n' fn' σ' e hfn' hlen hp => ?_
    cases e
    rw [hfn] at hfn'; cases hfn'
    have hwf : wfSs sp0 fn.body = true := by
      refine List.all_eq_true.mp wf_all fn ?_
      exact List.mem_of_getElem? (by rw [List.getElem?_take_of_lt hf]; exact hfn)
    have hbody : SsOk prog w hb n (callAt fns n) (fun Z => True) fn.body := all_Ss G (callOk_all G n) (fun Z Z Z => trivial) (fun t ht => by cases ht) fn.body hwf
    refine wpAny_mono (call_core G hfn hbody hlen hp hA hk hg hX hr ha (fun Z => False) (fun Z => True) (fun Z q => q.elim) trivial (fun Z Z Z Z => trivial) fun Z Z Z Z Z Z Z Z Z => trivial) (fun v s' ⟨k, _, r⟩ => ⟨k, r⟩) fun Z Z q => q
theorem TabT.stable {c Pt : Addr} (hcb : Al hb c) : ∀ h h', TabT c Pt h → (∀ b o, (Al hb b ∨ b = Pt) → h.get? b = some o → h'.get? b = some o) → TabT c Pt h' :=
  fun h h' x hk => x.keeps (fun o e => hk c o (.inl hcb) e) fun o e => hk Pt o (.inr rfl) e
theorem callW (G : Gd mg mb hb) {c Pt bm : Addr} {ob : Obj} (M : BMod hb mainGlobals mg bm ob) (hcb : Al hb c) {fn : Fn} (hfn : fns[26]? = some fn) (hcw : ∀ a o fd, mg fn.name = some (.ref a) → hb.get? a = some o → o.data = .func fd → fd.code = .ref c)
    {n : Nat} {args : List PV} {p : PV} (h : callAt fns n 26 args = some p) {A : Around} {s : Shared} {X : Addr → Prop} {vs : List Value} {a : Addr} (hA : AOk A n) (hk : ∀ b o, hb.get? b = some o → s.heap.get? b = some o) (hg : AllBare s.gens) (hX : ∀ a, X a → Al s.heap a ∧ ¬ Al hb a) (hPX : X Pt) (hT : TabT c Pt s.heap)
    (hr : RepVs prog w s.heap X vs args) (ha : mg fn.name = some (.ref a)) :
    wpAny (model prog w) A (call (.ref a) vs) (fun v s' => Keep (fun b => b = Pt) s s' ∧ TabT c Pt s'.heap ∧ RepV prog w s'.heap X v p) Fl s := by
  refine ea_3_4 (callAt_inv h) fun n' fn' σ' e hfn' hlen hp => ?_
  cases e
  rw [hfn] at hfn'; cases hfn'
  have hwf : wfSs sp26 fn.body = true := by
    have := wf_26
    rw [hfn] at this
    simpa using this
  have hbody : SsOk prog w hb n' (callAt fns n') (GfW c Pt) fn.body := all_Ss G (callOk_all G n') (fun fm c q => q) (fun t ht => by
    refine ea_3_1 (sp26_inv ht) fun i j k hrf3 => ?_
    subst hrf3
    exact ts_anyg G M hcb) fn.body hwf
  refine call_core G hfn hbody hlen hp hA hk hg hX hr ha (fun b => b = Pt) (TabT c Pt) (fun a q => by subst q; exact hPX) hT (TabT.stable hcb) fun params body scope pm cd doc o ho hd => ?_
  exact ⟨hcw a o _ ha ho hd, rfl, rfl⟩
theorem ts_cmpW (G : Gd mg mb hb) {c Pt bm : Addr} {ob : Obj} (M : BMod hb mainGlobals mg bm ob) (hcb : Al hb c) (hcw : ∀ fn a o fd, fns[26]? = some fn → mg fn.name = some (.ref a) → hb.get? a = some o → o.data = .func fd → fd.code = .ref c)
    {n : Nat} {nm nm' : Str} {a b : PEs} (ha : wfEs a = true) (hb' : wfEs b = true) : TSOk prog w hb n (callAt fns n) (GfL c Pt) (.cmp .ne (.call 14 nm a) (.call 26 nm' b)) := by
  intro fm hG K own A s σ Ow m e k hA I hc hp
  refine ea_0_2 (hG) fun hPc hT => ?_
  refine chk_cmp _ hc fun l o r pos h0 hs h1 h2 => ?_
  refine Classical.byContradiction fun hng => ?_
  refine eD2 hp fun x y hx hy hp => ?_
  refine hng ?_
  refine eVs hy fun vs hvs hy => ?_
  have hPX : fm.Xb Pt := K.pcX Pt (by rw [hPc])
  have hPal : Al s.heap Pt := I.al0 Pt (K.xb Pt hPX).1
  refine wpAny_isTrue_Compare1 ?_ (notSet_marks hs)
  refine wpAny_mono (ok_call G (callOk_all G n) (by decide) (all_Es G (callOk_all G n) a ha) fm A s σ Ow m l x K hA I h1 hx) (fun v s₁ ⟨x1, r1⟩ => ?_) fun Z Z q => q
  have I1 := I.ext x1
  refine call_expr G (all_Es G (callOk_all G n) b hb') K hA I1 h2 hvs fun fn ad us s₂ hfn had x2 r2 => ?_
  have I2 := I1.ext x2
  refine wpAny_mono (callW (X := fm.X Ow) G M hcb hfn (fun a o fd q1 q2 q3 => hcw fn a o fd hfn q1 q2 q3) hy hA I2.hbk I2.gens (fun a q => ⟨I2.alX K q, I2.xhb K q⟩) (.inl hPX) (hT ▸ I2.tab) r2 had) (fun u s₃ ⟨kp, hT3, r3⟩ => ?_) fun Z Z q => q
  have halP : Al s₃.heap Pt := kp.al Pt (x2.al Pt (x1.al Pt hPal))
  have I3 : Inv prog w hb fm s₃ σ Ow m := touchP K own I2 hPX (fun b o hb' e => kp.keep b o hb' e) halP (hT ▸ hT3) (kp.gens I2.gens)
  have r1' : RepV prog w s₃.heap (fm.X Ow) v x := (r1.ext x2).mono (fun b o hb' e => kp.keep b o (fun q => hb' (.inl (by rw [q]; exact hPX))) e) fun Z Z q => q
  refine wpAny_mono (cmpop_ok h0 hp r1' r3 hA.room) (fun v' s₄ ⟨x4, e⟩ => ?_) fun Z Z q => q
  subst e
  refine wpAny_truthy_bool ⟨I3.ext x4, ?_, rfl⟩
  have x12 := x1.trans x2
  exact ⟨fun b o hb' e => x4.keep' b o (kp.keep b o (by rw [hPc] at hb'; exact hb') (x12.keep' b o e)), fun b q => x4.al b (kp.al b (x12.al b q)), x4.os.trans (kp.os.trans x12.os), fun g => x4.gens (kp.gens (x12.gens g))⟩
theorem callL (G : Gd mg mb hb) {c Pt bm : Addr} {ob : Obj} (M : BMod hb mainGlobals mg bm ob) (hcb : Al hb c) (hcw : ∀ fn a o fd, fns[26]? = some fn → mg fn.name = some (.ref a) → hb.get? a = some o → o.data = .func fd → fd.code = .ref c) {fn : Fn} (hfn : fns[27]? = some fn)
    {n : Nat} {args : List PV} {p : PV} (h : callAt fns n 27 args = some p) {A : Around} {s : Shared} {X : Addr → Prop} {vs : List Value} {a : Addr} (hA : AOk A n) (hk : ∀ b o, hb.get? b = some o → s.heap.get? b = some o) (hg : AllBare s.gens) (hX : ∀ a, X a → Al s.heap a ∧ ¬ Al hb a) (hPX : X Pt) (hT : TabT c Pt s.heap)
    (hr : RepVs prog w s.heap X vs args) (ha : mg fn.name = some (.ref a)) :
    wpAny (model prog w) A (call (.ref a) vs) (fun v s' => Keep (fun b => b = Pt) s s' ∧ TabT c Pt s'.heap ∧ RepV prog w s'.heap X v p) Fl s := by
  refine ea_3_4 (callAt_inv h) fun n' fn' σ' e hfn' hlen hp => ?_
  cases e
  rw [hfn] at hfn'; cases hfn'
  have hwf : wfSs sp27 fn.body = true := by
    have := wf_27
    rw [hfn] at this
    simpa using this
  have hbody : SsOk prog w hb n' (callAt fns n') (GfL c Pt) fn.body := all_Ss G (callOk_all G n') (fun fm c q => q) (fun t ht => by
    refine ea_4_3 (sp27_inv ht) fun Z Z Z Z hrf4 h1 h2 => ?_
    subst hrf4
    exact ts_cmpW G M hcb hcw h1 h2) fn.body hwf
  exact call_core G hfn hbody hlen hp hA hk hg hX hr ha (fun b => b = Pt) (TabT c Pt) (fun a q => by subst q; exact hPX) hT (TabT.stable hcb) fun params body scope pm cd doc o ho hd => ⟨rfl, rfl⟩
end
theorem zip_lookup : ∀ {ns : List Str} {vs : List Value} {i : Nat} {x : Str} {v : Value}, ns.Nodup → ns[i]? = some x → vs[i]? = some v → (ns.zip vs).lookup x = some v
  | [], _, _, _, _, _, h, _ => by simp at h
  | _ :: _, [], _, _, _, _, _, h => by simp at h
  | a :: ns, b :: vs, i, x, v, hn, h1, h2 => by
    rw [List.nodup_cons] at hn
    rw [List.zip_cons_cons, List.lookup_cons]
    cases i with
    | zero =>
      rw [List.getElem?_cons_zero] at h1 h2
      cases h1; cases h2; simp
    | succ i =>
      rw [List.getElem?_cons_succ] at h1 h2
      have : x ≠ a := fun q => hn.1 (q ▸ List.mem_of_getElem? h1)
      have q' : (x == a) = false := by simpa using this
      rw [q']
      exact zip_lookup hn.2 h1 h2
theorem zip_some {ns : List Str} {vs : List Value} (hl : vs.length = ns.length) (hn : ns.Nodup) {x : Str} (h : x ∈ ns) : ∃ v, (ns.zip vs).lookup x = some v := by
  obtain ⟨i, hi, e⟩ := List.getElem_of_mem h
  exact ⟨vs[i]'(by lia), zip_lookup hn (by rw [List.getElem?_eq_getElem hi, e]) (List.getElem?_eq_getElem _)⟩
theorem filterMap_zip : ∀ {ns : List Str} {vs : List Value} (f : Str → Option Value), vs.length = ns.length → (∀ (i : Nat) (x : Str) (v : Value), ns[i]? = some x → vs[i]? = some v → f x = some v) → ns.filterMap (fun n => (f n).map (n, ·)) = ns.zip vs
  | [], _, _, _, _ => by simp
  | _ :: _, [], _, h, _ => by simp at h
  | a :: ns, b :: vs, f, hl, hf => by
    rw [List.zip_cons_cons, List.filterMap_cons, hf 0 a b rfl rfl]
    rw [Option.map_some]
    rw [filterMap_zip f (by simpa using hl) fun i x v h1 h2 => hf (i + 1) x v (by simpa using h1) (by simpa using h2)]
theorem bind_plain {name : Str} {params : Arguments} {body : List Stmt} {scope : Scope} {pm cd doc : Value} {vals : List Value} {ns : List Str} (h1 : params.posonlyargs = []) (h2 : params.kwonlyargs = []) (h3 : params.vararg = Option.none) (h4 : params.kwarg = Option.none)
    (hns : params.args.map (·.arg) = ns) (hn : ns.Nodup) (hl : vals.length = ns.length) : bindArgs (Calls.docDef name params body scope pm cd doc) ⟨vals, []⟩ = pure (ns.zip vals) := by
  have hm : ∀ l : List Str, (∀ x ∈ l, x ∈ ns) → l.filter (fun n => ((ns.zip vals).lookup n).isNone) = [] := fun l h => by
    rw [List.filter_eq_nil_iff]
    intro x hx
    refine ea_1_1 (zip_some hl hn (h x hx)) fun v hv => ?_
    simp [hv]
  have hf : ns.filterMap (fun n => ((ns.zip vals).lookup n).map (n, ·)) = ns.zip vals := filterMap_zip _ hl fun i x v a b => zip_lookup hn a b
  unfold bindArgs
  simp only [Calls.docDef, h1, h2, h3, h4, List.map_nil, List.nil_append, List.append_nil, hns, List.forIn_nil]
  have e0 : seqItems? Value.none = pure Option.none := rfl
  have pb : ∀ {α β : Type} (x : α) (f : α → Sem β), (pure x >>= f) = f x := fun Z Z => rfl
  have hgt : decide (vals.length > ns.length) = false := by simp [hl]
  simp only [e0, pb, hgt, Bool.false_and, Bool.false_eq_true, if_false, Option.getD_none, List.length_nil, Nat.zero_sub, List.drop_nil, Nat.sub_zero, List.take_length, hm ns (fun Z h => h), List.isEmpty_nil, Bool.not_true,
    List.zip_nil_right, List.forIn_nil, List.drop_length, hf]
end Mine
namespace Mine
open PySem
noncomputable def Ls (xs : List Str) : PV := .d (.list (xs.map .str))
noncomputable def IV (i : Int) : PV := .d (.int i)
noncomputable def SV (x : Str) : PV := .d (.str x)
theorem pidx_nat {α : Type} (xs : List α) (i : Nat) : pidx xs (i : Int) = xs[i]? := by
  unfold pidx
  rw [if_neg (by lia)]
  rfl
theorem fits {x : Int} (h0 : -5000000 ≤ x) (h1 : x ≤ 5000000) : Builtin.Range.rangeFitsLong x = true := by
  unfold Builtin.Range.rangeFitsLong
  simp
  lia
theorem rangeL_of {a b c : Int} {n : Nat} (hc : c ≠ 0) (hs : Builtin.Range.rangeSize a b c = n) (hn : n ≤ lim) (ha : -3000000 ≤ a) (ha' : a ≤ 3000000) (hb : -3000000 ≤ b) (hb' : b ≤ 3000000) (hcc : -2 ≤ c) (hcc' : c ≤ 2) :
    rangeL a b c = some ((List.range n).map fun (k : Nat) => .int (a + k * c)) := by
  have hlim : lim = 1000000 := rfl
  unfold rangeL
  rw [hs, if_neg]
  · rfl
  · rintro (q | q | q)
    · exact hc q
    · have : Builtin.Range.small a b c = true := by
        unfold Builtin.Range.small
        rw [hs, fits (by lia) (by lia), fits (by lia) (by lia), fits (by lia) (by lia), fits (by lia) (by lia)]
        simp only [Bool.true_and]
        split <;> simp [fits (show -5000000 ≤ b + (c - 1) by lia) (by lia), fits (show -5000000 ≤ b + (c + 1) by lia) (by lia)]
      rw [this] at q; cases q
    · simp at q; lia
theorem rangeL_up (n : Nat) (h : n ≤ lim) : rangeL 0 n 1 = some ((List.range n).map fun (k : Nat) => .int k) := by
  have hlim : lim = 1000000 := rfl
  rw [rangeL_of (n := n) (by decide) (by simp only [Builtin.Range.rangeSize]; split <;> (try split) <;> lia) h (by decide) (by decide) (by lia) (by lia) (by decide) (by decide)]
  congr 1
  apply List.map_congr_left
  intro k _
  congr 1
  lia
theorem rangeL_down (n : Nat) (h : n ≤ lim) : rangeL ((n : Int) - 1) (-1) (-1) = some ((List.range n).map fun (k : Nat) => .int (((n - 1 - k : Nat) : Int))) := by
  have hlim : lim = 1000000 := rfl
  rw [rangeL_of (n := n) (by decide) (by simp only [Builtin.Range.rangeSize]; rw [if_neg (by lia)]; split <;> (try simp) <;> lia) h (by lia) (by lia) (by decide) (by decide) (by decide) (by decide)]
  congr 1
  apply List.map_congr_left
  intro k hk
  have := List.mem_range.mp hk
  congr 1
  lia
noncomputable def lcsRow (x : Str) (rest : List Str → Nat) : List Str → Nat
  | [] => 0
  | y :: b => if x = y then rest b + 1 else max (rest (y :: b)) (lcsRow x rest b)
noncomputable def lcs : List Str → List Str → Nat
  | [] => fun Z => 0
  | x :: a => lcsRow x (lcs a)
theorem lcs_nil (b : List Str) : lcs [] b = 0 := rfl
theorem lcs_cons (x y : Str) (a b : List Str) : lcs (x :: a) (y :: b) = if x = y then lcs a b + 1 else max (lcs a (y :: b)) (lcs (x :: a) b) := rfl
noncomputable def tabOf (m n : Nat) (f : Nat → Nat → Nat) : List (List PyData) := (List.range (m + 1)).map fun i => (List.range (n + 1)).map fun j => .int (f i j)
theorem tab_get {m n : Nat} {f : Nat → Nat → Nat} {i : Nat} (hi : i ≤ m) : (tabOf m n f)[i]? = some ((List.range (n + 1)).map fun j => .int (f i j)) := by
  unfold tabOf
  rw [List.getElem?_map, List.getElem?_range (by lia)]
  rfl
theorem row_get {n : Nat} {g : Nat → Nat} {j : Nat} (hj : j ≤ n) : ((List.range (n + 1)).map fun j => PyData.int (g j))[j]? = some (.int (g j)) := by
  rw [List.getElem?_map, List.getElem?_range (by lia)]
  rfl
theorem row_set {n : Nat} {g : Nat → Nat} {j : Nat} {v : Nat} : ((List.range (n + 1)).map fun j => PyData.int (g j)).set j (.int v) = (List.range (n + 1)).map fun j' => PyData.int (if j' = j then v else g j') := by
  apply List.ext_getElem?
  intro k
  rw [List.getElem?_set]
  simp only [List.getElem?_map, List.length_map, List.length_range]
  by_cases h : j = k
  · subst h
    by_cases hl : j < n + 1
    · simp [hl]
    · simp [hl]
  · have h' : k ≠ j := fun q => h q.symm
    rw [if_neg h]
    by_cases hl : k < n + 1
    · simp [hl, h']
    · simp [hl]
theorem tab_set {m n : Nat} {f : Nat → Nat → Nat} {i j v : Nat} (hi : i ≤ m) : setRow (tabOf m n f) i j (.int v) = tabOf m n (fun i' j' => if i' = i ∧ j' = j then v else f i' j') := by
  unfold setRow
  rw [List.getD_eq_getElem?_getD, tab_get hi, Option.getD_some, row_set]
  apply List.ext_getElem?
  intro k
  rw [List.getElem?_set]
  have hlen : (tabOf m n f).length = m + 1 := by simp [tabOf]
  rw [hlen]
  by_cases h : i = k
  · subst h
    simp only [if_true, show i < m + 1 by lia]
    rw [tab_get hi]
    simp
    intro a _
    split <;> rfl
  · have h' : k ≠ i := fun q => h q.symm
    rw [if_neg h]
    by_cases hl : k ≤ m
    · rw [tab_get hl, tab_get hl]
      simp [h']
    · rw [List.getElem?_eq_none (by rw [hlen]; lia), List.getElem?_eq_none (by simp [tabOf]; lia)]
theorem pidx_succ {α : Type} (xs : List α) (i : Nat) : pidx xs ((i : Int) + 1) = xs[i + 1]? := pidx_nat xs (i + 1)
noncomputable def lcsSt (a b : List Str) (vi vj : Option PV) (o : Option (Nat × OV)) (v2 : Option PV := Option.none) : St := ⟨[some (Ls a), some (Ls b), v2, vi, vj], o⟩
noncomputable def bInner : PSs := (.cons (.ite (.cmp .eq (.idx (.var 0) (.var 3)) (.idx (.var 1) (.var 4)))
        (.cons (.put2 2 (.var 3) (.var 4) (.bin .add (.ownIdx2 2 (.bin .add (.var 3) (.int 1)) (.bin .add (.var 4) (.int 1))) (.int 1)))
        .nil)
        (.cons (.put2 2 (.var 3) (.var 4) (.mx (.ownIdx2 2 (.bin .add (.var 3) (.int 1)) (.var 4)) (.ownIdx2 2 (.var 3) (.bin .add (.var 4) (.int 1)))))
        .nil))
      .nil)
theorem lines_get {a : List Str} {i : Nat} {x : Str} (h : a[i]? = some x) : (a.map PyData.str)[i]? = some (.str x) := by
  rw [List.getElem?_map, h]; rfl
theorem inner_step (C : Nat → List PV → Option PV) {a b : List Str} {i j m n : Nat} {x y : Str} (hm : a.length = m) (hn : b.length = n) (hx : a[i]? = some x) (hy : b[j]? = some y) (f : Nat → Nat → Nat) :
    pss C bInner (lcsSt a b (some (IV i)) (some (IV j)) (some (2, .tab (tabOf m n f)))) =
      some (lcsSt a b (some (IV i)) (some (IV j)) (some (2, .tab (tabOf m n fun i' j' => if i' = i ∧ j' = j then (if x = y then f (i + 1) (j + 1) + 1 else max (f (i + 1) j) (f i (j + 1))) else f i' j'))), Option.none) := by
  have hi : i < m := by have := (List.getElem?_eq_some_iff.mp hx).1; lia
  have hj : j < n := by have := (List.getElem?_eq_some_iff.mp hy).1; lia
  have hlen : (tabOf m n f).length = m + 1 := by simp [tabOf]
  have hrow : ((tabOf m n f).getD i []).length = n + 1 := by rw [List.getD_eq_getElem?_getD, tab_get (by lia)]; simp
  have l0 := lines_get hx
  have l1 := lines_get hy
  have t11 : (tabOf m n f)[i + 1]? = _ := tab_get (m := m) (n := n) (f := f) (i := i + 1) (by lia)
  have t00 : (tabOf m n f)[i]? = _ := tab_get (m := m) (n := n) (f := f) (i := i) (by lia)
  have r1 : ∀ g : Nat → Nat, ((List.range (n + 1)).map fun j => PyData.int (g j))[j + 1]? = some (.int (g (j + 1))) := fun g => row_get (by lia)
  have r0 : ∀ g : Nat → Nat, ((List.range (n + 1)).map fun j => PyData.int (g j))[j]? = some (.int (g j)) := fun g => row_get (by lia)
  have c1 : (0 : Int) ≤ (i : Int) ∧ (i : Int) < ((tabOf m n f).length : Int) ∧ (0 : Int) ≤ (j : Int) ∧ (j : Int) < (((tabOf m n f).getD (i : Int).toNat []).length : Int) := by
    rw [Int.toNat_natCast, hrow, hlen]; lia
  by_cases e : x = y
  · subst e
    simp only [bInner, pssC, pssN, psIte, psPut2, ptAnd, ptOr, ptCmp, peVar, peInt, peBin, peIdx, peOw2, lcsSt, St.get, List.getD_cons_zero, List.getD_cons_succ, Ls, IV, idxop, pidx_nat, pidx_succ, l0, l1, Option.map_some, cmpop, decide_true, binop, t11, r1, if_true]
    rw [if_pos ⟨trivial, c1⟩]
    have e2 : ((f (i + 1) (j + 1) : Int) + 1) = ((f (i + 1) (j + 1) + 1 : Nat) : Int) := rfl
    rw [e2, Int.toNat_natCast, Int.toNat_natCast, tab_set (by lia)]
  · simp only [bInner, pssC, pssN, psIte, psPut2, ptAnd, ptOr, ptCmp, peVar, peInt, peBin, peIdx, peOw2, peMx, lcsSt, St.get, List.getD_cons_zero, List.getD_cons_succ, Ls, IV, idxop, pidx_nat, pidx_succ, l0, l1, Option.map_some, cmpop, e, decide_false, binop, t11, t00, r1, r0, if_true, if_false]
    rw [if_pos ⟨trivial, c1⟩]
    have e3 : (if (f i (j + 1) : Int) > (f (i + 1) j : Int) then (f i (j + 1) : Int) else (f (i + 1) j : Int)) = ((max (f (i + 1) j) (f i (j + 1)) : Nat) : Int) := by split <;> lia
    rw [e3, Int.toNat_natCast, Int.toNat_natCast, tab_set (by lia)]
noncomputable def downL (n : Nat) : List PyData := (List.range n).map fun (k : Nat) => .int (((n - 1 - k : Nat) : Int))
theorem downL_succ (n : Nat) : downL (n + 1) = .int n :: downL n := by
  unfold downL
  rw [List.range_succ_eq_map, List.map_cons, List.map_map]
  congr 1
  apply List.map_congr_left
  intro k _
  simp only [Function.comp]
  congr 2
  lia
noncomputable def lcsT (a b : List Str) (i j : Nat) : Nat := lcs (a.drop i) (b.drop j)
theorem lcs_nil_right (a : List Str) : lcs a [] = 0 := by cases a <;> rfl
theorem lcsT_step {a b : List Str} {i j : Nat} {x y : Str} (hx : a[i]? = some x) (hy : b[j]? = some y) : lcsT a b i j = if x = y then lcsT a b (i + 1) (j + 1) + 1 else max (lcsT a b (i + 1) j) (lcsT a b i (j + 1)) := by
  obtain ⟨hi, ei⟩ := List.getElem?_eq_some_iff.mp hx
  obtain ⟨hj, ej⟩ := List.getElem?_eq_some_iff.mp hy
  unfold lcsT
  rw [List.drop_eq_getElem_cons hi, List.drop_eq_getElem_cons hj, ei, ej, lcs_cons]
theorem lcsT_right {a b : List Str} {i j : Nat} (h : b.length ≤ j) : lcsT a b i j = 0 := by
  unfold lcsT; rw [List.drop_eq_nil_of_le h, lcs_nil_right]
theorem lcsT_left {a b : List Str} {i j : Nat} (h : a.length ≤ i) : lcsT a b i j = 0 := by
  unfold lcsT; rw [List.drop_eq_nil_of_le h, lcs_nil]
noncomputable def fillF (a b : List Str) (i j : Nat) : Nat → Nat → Nat := fun i' j' => if i < i' ∨ (i' = i ∧ j ≤ j') then lcsT a b i' j' else 0
theorem inner_loop (C : Nat → List PV → Option PV) {a b : List Str} {i m n : Nat} {x : Str} (hm : a.length = m) (hn : b.length = n) (hx : a[i]? = some x) : ∀ (j : Nat), j ≤ n → ∀ vj, ∃ vj',
    forO (fun x σ => pss C bInner (σ.set 4 (.d x))) (downL j) (lcsSt a b (some (IV i)) vj (some (2, .tab (tabOf m n (fillF a b i j))))) = some (lcsSt a b (some (IV i)) vj' (some (2, .tab (tabOf m n (fillF a b i 0)))), Option.none)
  | 0, _, vj => ⟨vj, by simp [downL, forO]⟩
  | j + 1, hj, vj => by
    obtain ⟨y, hy⟩ : ∃ y, b[j]? = some y := ⟨b[j]'(by lia), List.getElem?_eq_getElem _⟩
    have hs := inner_step C hm hn hx hy (fillF a b i (j + 1))
    have hset : (lcsSt a b (some (IV i)) vj (some (2, .tab (tabOf m n (fillF a b i (j + 1)))))).set 4 (.d (.int j)) = lcsSt a b (some (IV i)) (some (IV j)) (some (2, .tab (tabOf m n (fillF a b i (j + 1))))) := rfl
    have hfill : (fun i' j' => if i' = i ∧ j' = j then (if x = y then fillF a b i (j + 1) (i + 1) (j + 1) + 1 else max (fillF a b i (j + 1) (i + 1) j) (fillF a b i (j + 1) i (j + 1))) else fillF a b i (j + 1) i' j') = fillF a b i j := by
      funext i' j'
      have v1 : fillF a b i (j + 1) (i + 1) (j + 1) = lcsT a b (i + 1) (j + 1) := if_pos (.inl (by lia))
      have v2 : fillF a b i (j + 1) (i + 1) j = lcsT a b (i + 1) j := if_pos (.inl (by lia))
      have v3 : fillF a b i (j + 1) i (j + 1) = lcsT a b i (j + 1) := if_pos (.inr ⟨rfl, Nat.le_refl _⟩)
      rw [v1, v2, v3, ← lcsT_step hx hy]
      by_cases h : i' = i ∧ j' = j
      · refine ea_0_2 (h) fun hrf0 hrf1 => ?_
        subst hrf0
        subst hrf1
        rw [if_pos ⟨rfl, rfl⟩]
        exact (if_pos (.inr ⟨rfl, Nat.le_refl _⟩)).symm
      · rw [if_neg h]
        unfold fillF
        by_cases h2 : i < i' ∨ (i' = i ∧ j ≤ j')
        · rw [if_pos h2, if_pos]
          rcases h2 with q | ⟨q1, q2⟩
          · exact .inl q
          · refine .inr ⟨q1, ?_⟩
            rcases Nat.lt_or_eq_of_le q2 with q | q
            · exact q
            · exact absurd ⟨q1, q.symm⟩ h
        · rw [if_neg h2, if_neg]
          rintro (q | ⟨q1, q2⟩)
          · exact h2 (.inl q)
          · exact h2 (.inr ⟨q1, by lia⟩)
    rw [hfill] at hs
    refine ea_1_1 (inner_loop C hm hn hx j (by lia) (some (IV j))) fun vj' ih => ?_
    refine ⟨vj', ?_⟩
    rw [downL_succ, forO, hset, hs]
    exact ih
noncomputable def bOuter : PSs := (.cons (.for1 4 (.range3 (.bin .sub (.len (.var 1)) (.int 1)) (.neg (.int 1)) (.neg (.int 1))) bInner) .nil)
theorem fill_row {a b : List Str} {i : Nat} (n : Nat) (hn : b.length = n) : fillF a b i n = fillF a b (i + 1) 0 := by
  funext i' j'
  unfold fillF
  by_cases h : i < i'
  · rw [if_pos (.inl h), if_pos]
    by_cases q : i + 1 < i'
    · exact .inl q
    · exact .inr ⟨by lia, Nat.zero_le _⟩
  · by_cases h2 : i' = i ∧ n ≤ j'
    · rw [if_pos (.inr h2), lcsT_right (by lia), if_neg]
      rintro (q | ⟨q, _⟩) <;> lia
    · rw [if_neg, if_neg]
      · rintro (q | ⟨q, _⟩) <;> lia
      · rintro (q | q)
        · exact h q
        · exact h2 q
theorem outer_loop (C : Nat → List PV → Option PV) {a b : List Str} {m n : Nat} (hm : a.length = m) (hn : b.length = n) (hl : n ≤ lim) : ∀ (i : Nat), i ≤ m → ∀ vi vj, ∃ vi' vj',
    forO (fun x σ => pss C bOuter (σ.set 3 (.d x))) (downL i) (lcsSt a b vi vj (some (2, .tab (tabOf m n (fillF a b i 0))))) = some (lcsSt a b vi' vj' (some (2, .tab (tabOf m n (fillF a b 0 0)))), Option.none)
  | 0, _, vi, vj => ⟨vi, vj, by simp [downL, forO]⟩
  | i + 1, hi, vi, vj => by
    obtain ⟨x, hx⟩ : ∃ x, a[i]? = some x := ⟨a[i]'(by lia), List.getElem?_eq_getElem _⟩
    refine ea_1_1 (inner_loop C hm hn hx n (Nat.le_refl _) vj) fun vj1 h1 => ?_
    refine ea_2_1 (outer_loop C hm hn hl i (by lia) (some (IV i)) vj1) fun vi' vj' ih => ?_
    refine ⟨vi', vj', ?_⟩
    rw [downL_succ, forO]
    have hset : (lcsSt a b vi vj (some (2, .tab (tabOf m n (fillF a b (i + 1) 0))))).set 3 (.d (.int i)) = lcsSt a b (some (IV i)) vj (some (2, .tab (tabOf m n (fillF a b (i + 1) 0)))) := rfl
    rw [hset, ← fill_row n hn]
    have hlen : ((b.map PyData.str).length : Int) = n := by rw [List.length_map, hn]
    have hit : pit C (.range3 (.bin .sub (.len (.var 1)) (.int 1)) (.neg (.int 1)) (.neg (.int 1))) (lcsSt a b (some (IV i)) vj (some (2, .tab (tabOf m n (fillF a b i n))))) = some (downL n) := by
      simp only [pitR3, peVar, peInt, peBin, peLen, peNeg, lcsSt, St.get, List.getD_cons_zero, List.getD_cons_succ, Ls, lenop, binop, hlen]
      exact rangeL_down n hl
    have hb : pss C bOuter (lcsSt a b (some (IV i)) vj (some (2, .tab (tabOf m n (fillF a b i n))))) = some (lcsSt a b (some (IV i)) vj1 (some (2, .tab (tabOf m n (fillF a b i 0)))), Option.none) := by
      rw [bOuter, pssC, psFor, hit]
      dsimp only
      rw [h1]
      rfl
    rw [hb]
    exact ih
theorem call_of {k f : Nat} {args : List PV} {fn : Fn} {σ' : St} {p : PV} (hf : fns[f]? = some fn) (hl : args.length = fn.arity)
    (h : pss (callAt fns k) fn.body ⟨args.map some ++ List.replicate (fn.names.length - fn.arity) Option.none, Option.none⟩ = some (σ', some p)) : callAt fns (k + 1) f args = some p := by
  rw [callAt, hf]
  dsimp only
  rw [if_pos hl, h]
theorem mapO_all {α β : Type} {f : α → Option β} {g : α → β} : ∀ {l : List α}, (∀ x ∈ l, f x = some (g x)) → mapO f l = some (l.map g)
  | [], _ => rfl
  | x :: l, h => by
    rw [mapO, h x (.head _)]
    dsimp only
    rw [mapO_all fun y hy => h y (.tail _ hy)]
    rfl
theorem tab_zero (m n : Nat) : (List.range (m + 1)).map (fun Z => List.replicate (n + 1) (PyData.int 0)) = tabOf m n fun Z Z => 0 := by
  unfold tabOf
  apply List.map_congr_left
  intro i _
  apply List.ext_getElem?
  intro j
  rw [List.getElem?_replicate, List.getElem?_map]
  by_cases h : j < n + 1
  · simp [h]
  · simp [h]
theorem call_lcs {a b : List Str} (ha : a.length + 1 ≤ lim) (hb : b.length + 1 ≤ lim) (k : Nat) : callAt fns (k + 1) 0 [Ls a, Ls b] = some (.d (.list ((tabOf a.length b.length (lcsT a b)).map .list))) := by
  have hlim : lim = 1000000 := rfl
  have hla : ((a.map PyData.str).length : Int) = a.length := by rw [List.length_map]
  have hlb : ((b.map PyData.str).length : Int) = b.length := by rw [List.length_map]
  refine ea_2_1 (outer_loop (callAt fns k) (a := a) (b := b) rfl rfl (by lia) a.length (Nat.le_refl _) Option.none Option.none) fun vi vj hloop => ?_
  have h0 : fillF a b a.length 0 = fun Z Z => 0 := by
    funext i j
    unfold fillF
    split
    · rename_i h
      exact lcsT_left (by rcases h with h | h <;> lia)
    · rfl
  have h1 : fillF a b 0 0 = lcsT a b := by
    funext i j
    unfold fillF
    rw [if_pos]
    by_cases h : 0 < i
    · exact .inl h
    · exact .inr ⟨by lia, Nat.zero_le _⟩
  rw [h0, h1] at hloop
  have hit : pit (callAt fns k) (.range1 (.bin .add (.len (.var 0)) (.int 1))) (lcsSt a b Option.none Option.none Option.none) = some ((List.range (a.length + 1)).map fun (k : Nat) => .int k) := by
    simp only [pitR1, pitR2, pitR3, peVar, peInt, peBin, peLen, peNeg, lcsSt, St.get, List.getD_cons_zero, List.getD_cons_succ, Ls, lenop, binop, hla]
    exact rangeL_up (a.length + 1) ha
  have hit2 : pit (callAt fns k) (.range3 (.bin .sub (.len (.var 0)) (.int 1)) (.neg (.int 1)) (.neg (.int 1))) (lcsSt a b Option.none Option.none (some (2, .tab (tabOf a.length b.length fun Z Z => 0)))) = some (downL a.length) := by
    simp only [pitR1, pitR2, pitR3, peVar, peInt, peBin, peLen, peNeg, lcsSt, St.get, List.getD_cons_zero, List.getD_cons_succ, Ls, lenop, binop, hla]
    exact rangeL_down a.length (by lia)
  refine call_of (fn := f_lcs_table) (σ' := lcsSt a b vi vj Option.none (some (.d (.list ((tabOf a.length b.length (lcsT a b)).map .list))))) rfl rfl ?_
  show pss (callAt fns k) b_lcs_table (lcsSt a b Option.none Option.none Option.none) = _
  unfold b_lcs_table
  rw [pssC, psOwnT]
  rw [show (lcsSt a b Option.none Option.none Option.none).ow = Option.none from rfl, hit]
  dsimp only
  rw [mapO_all (g := fun Z => List.replicate (b.length + 1) (PyData.int 0)), List.map_map]
  rotate_left
  · intro x _
    simp only [peVar, peInt, peBin, peLen, inner, lcsSt, St.get, List.map_cons, List.map_nil, List.getD_cons_zero, List.getD_cons_succ, Ls, lenop, binop, hlb]
    rw [if_pos ⟨by lia, by lia⟩]
    rfl
  rw [show (List.range (a.length + 1)).map ((fun Z => List.replicate (b.length + 1) (PyData.int 0)) ∘ fun (k : Nat) => PyData.int k) = tabOf a.length b.length fun Z Z => 0 from tab_zero _ _]
  dsimp only
  rw [if_pos (by simp; lia)]
  dsimp only
  rw [show (lcsSt a b Option.none Option.none Option.none).setOw 2 (.tab (tabOf a.length b.length fun Z Z => 0)) = lcsSt a b Option.none Option.none (some (2, .tab (tabOf a.length b.length fun Z Z => 0))) from rfl]
  rw [pssC, psFor, hit2]
  dsimp only
  have hl' := hloop
  unfold bOuter bInner at hl'
  rw [hl']
  rfl
theorem pe_idx {C : Nat → List PV → Option PV} {a i : PE} {σ : St} {x y z : PV} (h1 : pe C a σ = some x) (h2 : pe C i σ = some y) (h3 : idxop x y = some z) : pe C (.idx a i) σ = some z := by
  rw [peIdx, h1, h2]; exact h3
theorem pidx_zero {α : Type} (xs : List α) : pidx xs 0 = xs[0]? := pidx_nat xs 0
theorem call_lcsLen {a b : List Str} (ha : a.length + 1 ≤ lim) (hb : b.length + 1 ≤ lim) (k : Nat) : callAt fns (k + 2) 1 [Ls a, Ls b] = some (IV (lcs a b)) := by
  refine call_of (fn := f_lcs_length) (σ' := ⟨[some (Ls a), some (Ls b)], Option.none⟩) rfl rfl ?_
  show pss (callAt fns (k + 1)) b_lcs_length ⟨[some (Ls a), some (Ls b)], Option.none⟩ = _
  have h0 : ((tabOf a.length b.length (lcsT a b)).map PyData.list)[0]? = some (.list ((List.range (b.length + 1)).map fun j => .int (lcsT a b 0 j))) := by
    rw [List.getElem?_map, tab_get (Nat.zero_le _)]; rfl
  have h1 : ((List.range (b.length + 1)).map fun j => PyData.int (lcsT a b 0 j))[0]? = some (.int (lcsT a b 0 0)) := row_get (Nat.zero_le _)
  have hc : pe (callAt fns (k + 1)) (.call 0 (Str.ofString "lcs_table") (.cons (.var 0) (.cons (.var 1) .nil))) ⟨[some (Ls a), some (Ls b)], Option.none⟩ = some (.d (.list ((tabOf a.length b.length (lcsT a b)).map .list))) := by
    simp only [peCall, peVar, pesC, pesN, St.get, List.getD_cons_zero, List.getD_cons_succ]
    exact call_lcs ha hb k
  have he : pe (callAt fns (k + 1)) (.idx (.idx (.call 0 (Str.ofString "lcs_table") (.cons (.var 0) (.cons (.var 1) .nil))) (.int 0)) (.int 0)) ⟨[some (Ls a), some (Ls b)], Option.none⟩ = some (IV (lcs a b)) := by
    refine (pe_idx (pe_idx hc rfl (z := .d (.list ((List.range (b.length + 1)).map fun j => .int (lcsT a b 0 j)))) ?_) rfl ?_)
    · simp only [idxop, pidx_zero, h0, Option.map_some]
    · simp only [idxop, pidx_zero, h1, Option.map_some]
      rfl
  rw [b_lcs_length, pssC, psRet, he]
noncomputable def walkRow (x : Str) (a : List Str) (W : Nat → Nat → List Str → List (Nat × Nat)) : Nat → Nat → List Str → List (Nat × Nat)
  | _, _, [] => []
  | i, j, y :: b => if x = y then (i, j) :: W (i + 1) (j + 1) b else if lcs (x :: a) b ≤ lcs a (y :: b) then W (i + 1) j (y :: b) else walkRow x a W i (j + 1) b
noncomputable def walkL : List Str → Nat → Nat → List Str → List (Nat × Nat)
  | [] => fun Z Z Z => []
  | x :: a => walkRow x a (walkL a)
theorem walk_nil (i j : Nat) (b : List Str) : walkL [] i j b = [] := rfl
theorem walk_nil' (i j : Nat) (a : List Str) : walkL a i j [] = [] := by cases a <;> rfl
theorem walk_cons (x y : Str) (a b : List Str) (i j : Nat) : walkL (x :: a) i j (y :: b) = if x = y then (i, j) :: walkL a (i + 1) (j + 1) b else if lcs (x :: a) b ≤ lcs a (y :: b) then walkL a (i + 1) j (y :: b) else walkL (x :: a) i (j + 1) b := rfl
noncomputable def pairD (p : Nat × Nat) : PyData := .tuple [.int p.1, .int p.2]
noncomputable def TabV (a b : List Str) : PV := .d (.list ((tabOf a.length b.length (lcsT a b)).map .list))
noncomputable def mSt (a b : List Str) (i j : Nat) (ms : List PyData) : St := ⟨[some (Ls a), some (Ls b), some (TabV a b), Option.none, some (IV i), some (IV j)], some (3, .lst ms)⟩
noncomputable def mTest : PE := .andE (.cons (.cmp .lt (.var 4) (.len (.var 0))) (.cons (.cmp .lt (.var 5) (.len (.var 1))) .nil))
noncomputable def mBody : PSs := (.cons (.ite (.cmp .eq (.idx (.var 0) (.var 4)) (.idx (.var 1) (.var 5)))
      (.cons (.app 3 (.tup (.cons (.var 4) (.cons (.var 5) .nil))))
      (.cons (.aug 4 (.int 1))
      (.cons (.aug 5 (.int 1))
      .nil)))
      (.cons (.ite (.cmp .ge (.idx (.idx (.var 2) (.bin .add (.var 4) (.int 1))) (.var 5)) (.idx (.idx (.var 2) (.var 4)) (.bin .add (.var 5) (.int 1))))
        (.cons (.aug 4 (.int 1))
        .nil)
        (.cons (.aug 5 (.int 1))
        .nil))
      .nil))
    .nil)
theorem mTest_ok (C : Nat → List PV → Option PV) (a b : List Str) (i j : Nat) (ms : List PyData) : pt C mTest (mSt a b i j ms) = some (decide (i < a.length ∧ j < b.length)) := by
  have e1 : decide ((i : Int) < (a.length : Int)) = decide (i < a.length) := by simp
  have e2 : decide ((j : Int) < (b.length : Int)) = decide (j < b.length) := by simp
  simp only [mTest, ptAnd, ptOr, ptCmp, pAndC, pAndN, peVar, peLen, mSt, St.get, List.getD_cons_zero, List.getD_cons_succ, Ls, IV, lenop, List.length_map, cmpop, e1, e2]
  by_cases h1 : i < a.length <;> by_cases h2 : j < b.length <;> simp [h1, h2]
theorem tabV_get {a b : List Str} {i : Nat} (h : i ≤ a.length) : ((tabOf a.length b.length (lcsT a b)).map PyData.list)[i]? = some (.list ((List.range (b.length + 1)).map fun j => .int (lcsT a b i j))) := by
  rw [List.getElem?_map, tab_get h]; rfl
theorem mBody_ok (C : Nat → List PV → Option PV) {a b : List Str} {i j : Nat} {x y : Str} (hx : a[i]? = some x) (hy : b[j]? = some y) {ms : List PyData} (hms : ms.length < lim) :
    pss C mBody (mSt a b i j ms) = some ((if x = y then mSt a b (i + 1) (j + 1) (ms ++ [pairD (i, j)]) else if lcsT a b i (j + 1) ≤ lcsT a b (i + 1) j then mSt a b (i + 1) j ms else mSt a b i (j + 1) ms), Option.none) := by
  have hi : i < a.length := (List.getElem?_eq_some_iff.mp hx).1
  have hj : j < b.length := (List.getElem?_eq_some_iff.mp hy).1
  have l0 := lines_get hx
  have l1 := lines_get hy
  by_cases e : x = y
  · subst e
    simp only [mBody, pssC, pssN, psIte, psApp, psAug, ptAnd, ptOr, ptCmp, peVar, peInt, peBin, peIdx, peTup, pesC, pesN, asData, mSt, St.get, St.set, List.getD_cons_zero, List.getD_cons_succ, Ls, IV, idxop, pidx_nat, l0, l1, Option.map_some, cmpop, decide_true, if_true]
    rw [if_pos ⟨trivial, hms⟩]
    rfl
  · have t1 := tabV_get (a := a) (b := b) (i := i + 1) (by lia)
    have t0 := tabV_get (a := a) (b := b) (i := i) (by lia)
    have r0 : ((List.range (b.length + 1)).map fun j => PyData.int (lcsT a b (i + 1) j))[j]? = some (.int (lcsT a b (i + 1) j)) := row_get (by lia)
    have r1 : ((List.range (b.length + 1)).map fun j => PyData.int (lcsT a b i j))[j + 1]? = some (.int (lcsT a b i (j + 1))) := row_get (by lia)
    have e3 : decide ((lcsT a b (i + 1) j : Int) ≥ (lcsT a b i (j + 1) : Int)) = decide (lcsT a b i (j + 1) ≤ lcsT a b (i + 1) j) := by simp
    simp only [mBody, pssC, pssN, psIte, psApp, psAug, ptAnd, ptOr, ptCmp, peVar, peInt, peBin, peIdx, pesC, pesN, asData, mSt, TabV, St.get, St.set, List.getD_cons_zero, List.getD_cons_succ, Ls, IV, idxop, binop, pidx_nat, pidx_succ, l0, l1, t0, t1, r0, r1, Option.map_some, cmpop, e, decide_false, if_false, e3]
    by_cases h : lcsT a b i (j + 1) ≤ lcsT a b (i + 1) j
    · simp only [h, decide_true, if_true]; rfl
    · simp only [h, decide_false, if_false]; rfl
theorem matches_loop (C : Nat → List PV → Option PV) {a b : List Str} : ∀ (fuel i j : Nat) (ms : List PyData), i ≤ a.length → j ≤ b.length → (a.length - i) + (b.length - j) < fuel → ms.length + (a.length - i) < lim →
    ∃ i' j', whileO (pt C mTest) (pss C mBody) fuel (mSt a b i j ms) = some (mSt a b i' j' (ms ++ (walkL (a.drop i) i j (b.drop j)).map pairD), Option.none)
  | 0, _, _, _, _, _, h, _ => by lia
  | fuel + 1, i, j, ms, hi, hj, hf, hms => by
    rw [whileO, mTest_ok]
    by_cases h : i < a.length ∧ j < b.length
    · simp only [h, decide_true, and_self]
      obtain ⟨x, hx⟩ : ∃ x, a[i]? = some x := ⟨a[i]'h.1, List.getElem?_eq_getElem _⟩
      obtain ⟨y, hy⟩ : ∃ y, b[j]? = some y := ⟨b[j]'h.2, List.getElem?_eq_getElem _⟩
      have da : a.drop i = x :: a.drop (i + 1) := by
        rw [List.drop_eq_getElem_cons h.1]; rw [List.getElem?_eq_getElem h.1] at hx; cases hx; rfl
      have db : b.drop j = y :: b.drop (j + 1) := by
        rw [List.drop_eq_getElem_cons h.2]; rw [List.getElem?_eq_getElem h.2] at hy; cases hy; rfl
      rw [mBody_ok C hx hy (by lia)]
      dsimp only
      rw [da, db, walk_cons, ← da, ← db]
      by_cases e : x = y
      · rw [if_pos e, if_pos e]
        obtain ⟨i', j', ih⟩ := matches_loop C (a := a) (b := b) fuel (i + 1) (j + 1) (ms ++ [pairD (i, j)]) (by lia) (by lia) (by lia) (by simp; lia)
        refine ⟨i', j', ?_⟩
        rw [ih]
        simp
      · rw [if_neg e, if_neg e]
        have e1 : lcs (a.drop i) (b.drop (j + 1)) = lcsT a b i (j + 1) := rfl
        have e2 : lcs (a.drop (i + 1)) (b.drop j) = lcsT a b (i + 1) j := rfl
        rw [e1, e2]
        by_cases h3 : lcsT a b i (j + 1) ≤ lcsT a b (i + 1) j
        · rw [if_pos h3, if_pos h3]
          exact matches_loop C (a := a) (b := b) fuel (i + 1) j ms (by lia) (by lia) (by lia) (by lia)
        · rw [if_neg h3, if_neg h3]
          exact matches_loop C (a := a) (b := b) fuel i (j + 1) ms (by lia) (by lia) (by lia) (by lia)
    · simp only [h, decide_false]
      refine ⟨i, j, ?_⟩
      have : walkL (a.drop i) i j (b.drop j) = [] := by
        by_cases h1 : i < a.length
        · have : b.drop j = [] := List.drop_eq_nil_of_le (by lia)
          rw [this, walk_nil']
        · have : a.drop i = [] := List.drop_eq_nil_of_le (by lia)
          rw [this, walk_nil]
      rw [this]
      simp
theorem call_matches {a b : List Str} (ha : a.length + b.length + 2 ≤ lim) (k : Nat) : callAt fns (k + 2) 2 [Ls a, Ls b] = some (.d (.list ((walkL a 0 0 b).map pairD))) := by
  have hlim : lim = 1000000 := rfl
  obtain ⟨i', j', hloop⟩ := matches_loop (callAt fns (k + 1)) (a := a) (b := b) lim 0 0 [] (Nat.zero_le _) (Nat.zero_le _) (by lia) (by simp; lia)
  refine call_of (fn := f_matches_of) (σ' := ⟨[some (Ls a), some (Ls b), some (TabV a b), some (.d (.list ((walkL a 0 0 b).map pairD))), some (IV i'), some (IV j')], Option.none⟩) rfl rfl ?_
  show pss (callAt fns (k + 1)) b_matches_of ⟨[some (Ls a), some (Ls b), Option.none, Option.none, Option.none, Option.none], Option.none⟩ = _
  unfold b_matches_of
  have h0 : pe (callAt fns (k + 1)) (.call 0 (Str.ofString "lcs_table") (.cons (.var 0) (.cons (.var 1) .nil))) ⟨[some (Ls a), some (Ls b), Option.none, Option.none, Option.none, Option.none], Option.none⟩ = some (TabV a b) := by
    simp only [peCall, peVar, pesC, pesN, St.get, List.getD_cons_zero, List.getD_cons_succ]
    exact call_lcs (by lia) (by lia) k
  rw [pssC, psAsg, h0]
  dsimp only
  rw [pssC, psOwnL]
  dsimp only [St.set]
  rw [pssC, psAsg, peInt]
  dsimp only
  rw [pssC, psAsg, peInt]
  dsimp only
  have hw := hloop
  unfold mTest mBody at hw
  rw [pssC, psWhl]
  show (match whileO _ _ lim (mSt a b 0 0 []) with | some (σ', Option.none) => _ | r => r) = _
  rw [hw]
  rfl
theorem lcs_comm : ∀ (a b : List Str), lcs a b = lcs b a
  | [], b => by rw [lcs_nil, lcs_nil_right]
  | x :: a, [] => by rw [lcs_nil, lcs_nil_right]
  | x :: a, y :: b => by
    rw [lcs_cons, lcs_cons, lcs_comm a b, lcs_comm a (y :: b), lcs_comm (x :: a) b]
    by_cases h : x = y
    · rw [if_pos h, if_pos h.symm]
    · rw [if_neg h, if_neg fun q => h q.symm, Nat.max_comm]
termination_by a b => a.length + b.length
theorem lcs_both : ∀ (n : Nat) (a b : List Str), a.length + b.length ≤ n → (∀ x, lcs a b ≤ lcs (x :: a) b) ∧ (∀ y, lcs a (y :: b) ≤ lcs a b + 1)
  | n, a, b, h => by
    have mono : ∀ x, lcs a b ≤ lcs (x :: a) b := fun x => by
      cases b with
      | nil => rw [lcs_nil_right]; exact Nat.zero_le _
      | cons y b =>
        rw [lcs_cons]
        split
        · cases n with
          | zero => simp at h
          | succ n => exact (lcs_both n a b (by simp at h; lia)).2 y
        · exact Nat.le_max_left _ _
    refine ⟨mono, fun y => ?_⟩
    cases a with
    | nil => rw [lcs_nil]; exact Nat.zero_le _
    | cons x a =>
      cases n with
      | zero => simp at h
      | succ n =>
        have ih := lcs_both n a b (by simp at h; lia)
        rw [lcs_cons]
        split
        · exact Nat.succ_le_succ (ih.1 x)
        · have h1 := ih.1 x
          have h2 := ih.2 y
          lia
theorem lcs_mono_l (x : Str) (a b : List Str) : lcs a b ≤ lcs (x :: a) b := (lcs_both _ a b (Nat.le_refl _)).1 x
theorem lcs_skip_r {y : Str} : ∀ {a : List Str} {b : List Str}, y ∉ a → lcs a (y :: b) = lcs a b
  | [], b, _ => rfl
  | x :: a, b, h => by
    rw [List.mem_cons, not_or] at h
    rw [lcs_cons, if_neg fun q => h.1 q.symm, lcs_skip_r h.2]
    have := lcs_mono_l x a b
    lia
theorem lcs_skip_l {x : Str} {a b : List Str} (h : x ∉ b) : lcs (x :: a) b = lcs a b := by rw [lcs_comm, lcs_skip_r h, lcs_comm]
theorem lcs_split : ∀ {a1 b1 a2 b2 : List Str}, (∀ z ∈ a1, z ∉ b2) → (∀ z ∈ b1, z ∉ a2) → lcs (a1 ++ a2) (b1 ++ b2) = lcs a1 b1 + lcs a2 b2
  | [], [], a2, b2, _, _ => by simp [lcs_nil]
  | [], y :: b1, a2, b2, h1, h2 => by
    rw [List.nil_append, List.cons_append, lcs_skip_r (h2 y (.head _)), lcs_nil, Nat.zero_add]
    have := lcs_split (a1 := []) (b1 := b1) (a2 := a2) (b2 := b2) h1 fun z hz => h2 z (.tail _ hz)
    rw [List.nil_append, lcs_nil, Nat.zero_add] at this
    exact this
  | x :: a1, [], a2, b2, h1, h2 => by
    rw [List.nil_append, List.cons_append, lcs_skip_l (h1 x (.head _)), lcs_nil_right, Nat.zero_add]
    have := lcs_split (a1 := a1) (b1 := []) (a2 := a2) (b2 := b2) (fun z hz => h1 z (.tail _ hz)) h2
    rw [List.nil_append, lcs_nil_right, Nat.zero_add] at this
    exact this
  | x :: a1, y :: b1, a2, b2, h1, h2 => by
    have i1 := lcs_split (a1 := a1) (b1 := b1) (a2 := a2) (b2 := b2) (fun z hz => h1 z (.tail _ hz)) fun z hz => h2 z (.tail _ hz)
    have i2 := lcs_split (a1 := a1) (b1 := y :: b1) (a2 := a2) (b2 := b2) (fun z hz => h1 z (.tail _ hz)) h2
    have i3 := lcs_split (a1 := x :: a1) (b1 := b1) (a2 := a2) (b2 := b2) h1 fun z hz => h2 z (.tail _ hz)
    rw [List.cons_append] at i2 i3
    rw [List.cons_append, List.cons_append, lcs_cons, lcs_cons, i1, i2, i3]
    split
    · lia
    · lia
termination_by a1 b1 => a1.length + b1.length
theorem lcs_rep (r : Str) : ∀ (m n : Nat), lcs (List.replicate m r) (List.replicate n r) = min m n
  | 0, n => by simp [lcs_nil]
  | m + 1, 0 => by simp [lcs_nil_right]
  | m + 1, n + 1 => by
    rw [List.replicate_succ, List.replicate_succ, lcs_cons, if_pos rfl, lcs_rep r m n]
    lia
theorem lcs_run {r : Str} {A B : List Str} (hA : r ∉ A) (hB : r ∉ B) (m n : Nat) : lcs (List.replicate m r ++ A) (List.replicate n r ++ B) = min m n + lcs A B := by
  rw [lcs_split, lcs_rep]
  · intro z hz; rw [List.mem_replicate] at hz; rw [hz.2]; exact hB
  · intro z hz; rw [List.mem_replicate] at hz; rw [hz.2]; exact hA
noncomputable def diag : Nat → Nat → Nat → List (Nat × Nat)
  | 0, _, _ => []
  | k + 1, i, j => (i, j) :: diag k (i + 1) (j + 1)
theorem walk_run (r : Str) (A B : List Str) : ∀ (k i j : Nat), walkL (List.replicate k r ++ A) i j (List.replicate k r ++ B) = diag k i j ++ walkL A (i + k) (j + k) B
  | 0, i, j => by simp [diag]
  | k + 1, i, j => by
    rw [List.replicate_succ, List.cons_append, List.cons_append, walk_cons, if_pos rfl, walk_run r A B k, diag]
    rw [List.cons_append, show i + 1 + k = i + (k + 1) by lia, show j + 1 + k = j + (k + 1) by lia]
theorem walk_split {r : Str} {A B : List Str} {k : Nat} (hA : r ∉ A) (hB : r ∉ B) : ∀ {a1 b1 : List Str} (i j : Nat), r ∉ a1 → r ∉ b1 → (∀ z ∈ a1, z ∉ B) → (∀ z ∈ b1, z ∉ A) →
    walkL (a1 ++ (List.replicate (k + 1) r ++ A)) i j (b1 ++ (List.replicate (k + 1) r ++ B)) = walkL a1 i j b1 ++ (diag (k + 1) (i + a1.length) (j + b1.length) ++ walkL A (i + a1.length + (k + 1)) (j + b1.length + (k + 1)) B)
  | [], [], i, j, _, _, _, _ => by
    rw [List.nil_append, List.nil_append, walk_run, walk_nil]
    simp
  | [], y :: b1, i, j, ra, rb, h1, h2 => by
    rw [List.mem_cons, not_or] at rb
    have ih := walk_split (k := k) hA hB (a1 := []) (b1 := b1) i (j + 1) ra rb.2 h1 fun z hz => h2 z (.tail _ hz)
    rw [List.nil_append] at ih ⊢
    have c1 : lcs (List.replicate (k + 1) r ++ A) (b1 ++ (List.replicate (k + 1) r ++ B)) = k + 1 + lcs A B := by
      have := lcs_split (a1 := []) (b1 := b1) (a2 := List.replicate (k + 1) r ++ A) (b2 := List.replicate (k + 1) r ++ B) (by simp) (fun z hz q => by
        rcases List.mem_append.mp q with q | q
        · rw [List.mem_replicate] at q; exact rb.2 (q.2 ▸ hz)
        · exact h2 z (.tail _ hz) q)
      rw [List.nil_append, lcs_nil, Nat.zero_add, lcs_run hA hB] at this
      lia
    have c2 : lcs (List.replicate k r ++ A) (y :: (b1 ++ (List.replicate (k + 1) r ++ B))) = k + lcs A B := by
      have := lcs_split (a1 := []) (b1 := y :: b1) (a2 := List.replicate k r ++ A) (b2 := List.replicate (k + 1) r ++ B) (by simp) (fun z hz q => by
        rcases List.mem_append.mp q with q | q
        · rw [List.mem_replicate] at q
          rcases List.mem_cons.mp hz with e | hz
          · exact rb.1 (q.2.symm.trans e)
          · exact rb.2 (q.2 ▸ hz)
        · exact h2 z hz q)
      rw [List.nil_append, lcs_nil, Nat.zero_add, lcs_run hA hB] at this
      rw [List.cons_append] at this
      lia
    rw [List.replicate_succ, List.cons_append] at c1
    rw [List.cons_append]
    conv => lhs; rw [List.replicate_succ, List.cons_append, walk_cons, if_neg rb.1, ← List.cons_append, ← List.replicate_succ]
    rw [if_neg (by rw [c2]; rw [List.replicate_succ, List.cons_append, c1]; lia), ih, walk_nil, walk_nil]
    simp only [List.length_cons, List.length_nil, List.nil_append]
    congr 2 <;> lia
  | x :: a1, [], i, j, ra, rb, h1, h2 => by
    rw [List.mem_cons, not_or] at ra
    have ih := walk_split (k := k) hA hB (a1 := a1) (b1 := []) (i + 1) j ra.2 rb (fun z hz => h1 z (.tail _ hz)) h2
    rw [List.nil_append] at ih ⊢
    have c1 : lcs (a1 ++ (List.replicate (k + 1) r ++ A)) (List.replicate (k + 1) r ++ B) = k + 1 + lcs A B := by
      have := lcs_split (a1 := a1) (b1 := []) (a2 := List.replicate (k + 1) r ++ A) (b2 := List.replicate (k + 1) r ++ B) (fun z hz q => by
        rcases List.mem_append.mp q with q | q
        · rw [List.mem_replicate] at q; exact ra.2 (q.2 ▸ hz)
        · exact h1 z (.tail _ hz) q) (by simp)
      rw [List.nil_append, lcs_nil_right, Nat.zero_add, lcs_run hA hB] at this
      lia
    have c2 : lcs (x :: (a1 ++ (List.replicate (k + 1) r ++ A))) (List.replicate k r ++ B) = k + lcs A B := by
      have := lcs_split (a1 := x :: a1) (b1 := []) (a2 := List.replicate (k + 1) r ++ A) (b2 := List.replicate k r ++ B) (fun z hz q => by
        rcases List.mem_append.mp q with q | q
        · rw [List.mem_replicate] at q
          rcases List.mem_cons.mp hz with e | hz
          · exact ra.1 (q.2.symm.trans e)
          · exact ra.2 (q.2 ▸ hz)
        · exact h1 z hz q) (by simp)
      rw [List.nil_append, lcs_nil_right, Nat.zero_add, lcs_run hA hB] at this
      rw [List.cons_append] at this
      lia
    rw [List.cons_append]
    have hxr : ¬ x = r := fun q => ra.1 q.symm
    have hw : walkL (x :: (a1 ++ (List.replicate (k + 1) r ++ A))) i j (List.replicate (k + 1) r ++ B) = walkL (a1 ++ (List.replicate (k + 1) r ++ A)) (i + 1) j (List.replicate (k + 1) r ++ B) := by
      have e : List.replicate (k + 1) r ++ B = r :: (List.replicate k r ++ B) := by rw [List.replicate_succ, List.cons_append]
      rw [e] at c1
      conv => lhs; arg 4; rw [e]
      rw [walk_cons, if_neg hxr, if_pos (by rw [c2, c1]; lia), ← e]
    rw [hw, ih, walk_nil', walk_nil']
    simp only [List.length_cons, List.length_nil, List.nil_append]
    congr 2 <;> lia
  | x :: a1, y :: b1, i, j, ra, rb, h1, h2 => by
    rw [List.mem_cons, not_or] at ra rb
    have i1 := walk_split (k := k) hA hB (a1 := a1) (b1 := b1) (i + 1) (j + 1) ra.2 rb.2 (fun z hz => h1 z (.tail _ hz)) fun z hz => h2 z (.tail _ hz)
    have i2 := walk_split (k := k) hA hB (a1 := a1) (b1 := y :: b1) (i + 1) j ra.2 (by rw [List.mem_cons, not_or]; exact rb) (fun z hz => h1 z (.tail _ hz)) h2
    have i3 := walk_split (k := k) hA hB (a1 := x :: a1) (b1 := b1) i (j + 1) (by rw [List.mem_cons, not_or]; exact ra) rb.2 h1 fun z hz => h2 z (.tail _ hz)
    have dA : ∀ z ∈ x :: a1, z ∉ List.replicate (k + 1) r ++ B := fun z hz q => by
      rcases List.mem_append.mp q with q | q
      · rw [List.mem_replicate] at q
        rcases List.mem_cons.mp hz with e | hz
        · exact ra.1 (q.2.symm.trans e)
        · exact ra.2 (q.2 ▸ hz)
      · exact h1 z hz q
    have dB : ∀ z ∈ y :: b1, z ∉ List.replicate (k + 1) r ++ A := fun z hz q => by
      rcases List.mem_append.mp q with q | q
      · rw [List.mem_replicate] at q
        rcases List.mem_cons.mp hz with e | hz
        · exact rb.1 (q.2.symm.trans e)
        · exact rb.2 (q.2 ▸ hz)
      · exact h2 z hz q
    have s1 := lcs_split (a1 := x :: a1) (b1 := b1) (a2 := List.replicate (k + 1) r ++ A) (b2 := List.replicate (k + 1) r ++ B) dA fun z hz => dB z (.tail _ hz)
    have s2 := lcs_split (a1 := a1) (b1 := y :: b1) (a2 := List.replicate (k + 1) r ++ A) (b2 := List.replicate (k + 1) r ++ B) (fun z hz => dA z (.tail _ hz)) dB
    rw [List.cons_append] at s1 s2 i2 i3
    rw [List.cons_append, List.cons_append, walk_cons, walk_cons, s1, s2]
    by_cases e : x = y
    · rw [if_pos e, if_pos e, i1, List.length_cons, List.length_cons, List.cons_append, show i + 1 + a1.length = i + (a1.length + 1) by lia, show j + 1 + b1.length = j + (b1.length + 1) by lia]
    · rw [if_neg e, if_neg e]
      by_cases h : lcs (x :: a1) b1 ≤ lcs a1 (y :: b1)
      · rw [if_pos (by lia), if_pos h, i2]
        simp only [List.length_cons]
        congr 2 <;> congr 1 <;> lia
      · rw [if_neg (by lia), if_neg h, i3]
        simp only [List.length_cons]
        congr 2 <;> congr 1 <;> lia
termination_by a1 b1 => a1.length + b1.length
noncomputable def slN {α : Type} (i p : Nat) (xs : List α) : List α := (xs.take p).drop i
theorem pslice_nat {α : Type} (i p : Nat) (xs : List α) : pslice (some (i : Int)) (some (p : Int)) xs = slN i p xs := by
  unfold pslice slN loN hiN clip
  simp only [if_neg (show ¬ ((i : Int) < 0) by lia), if_neg (show ¬ ((p : Int) < 0) by lia), Int.toNat_natCast]
theorem slN_map {α β : Type} (f : α → β) (i p : Nat) (xs : List α) : slN i p (xs.map f) = (slN i p xs).map f := by
  unfold slN; rw [← List.map_take, ← List.map_drop]
theorem slN_len {α : Type} (i p : Nat) (xs : List α) : (slN i p xs).length ≤ xs.length := by
  unfold slN; rw [List.length_drop, List.length_take]; lia
theorem slN_one {α : Type} (p : Nat) (xs : List α) : (slN p (p + 1) xs).length ≤ 1 := by
  unfold slN; rw [List.length_drop, List.length_take]; lia
noncomputable def deedD (k l : Str) : PyData := .tuple [.str k, .str l]
noncomputable def sDel : Str := Str.ofString "del"
noncomputable def sAdd : Str := Str.ofString "add"
noncomputable def sKeep : Str := Str.ofString "keep"
noncomputable def dspec (a b : List Str) : Nat → Nat → List (Nat × Nat) → List PyData
  | _, _, [] => []
  | i, j, (p, q) :: r => (slN i p a).map (deedD sDel) ++ (slN j q b).map (deedD sAdd) ++ (slN p (p + 1) a).map (deedD sKeep) ++ dspec a b (p + 1) (q + 1) r
noncomputable def dSt (a b : List Str) (sc : List PyData) (i j : Nat) (v : Option PV) : St := ⟨[some (Ls a), some (Ls b), some (.d (.list sc)), some (IV i), some (IV j), v], Option.none⟩
noncomputable def dBody : PSs := (.cons (.asg 2 (.bin .add (.var 2) (.comp [] (.tup (.cons (.str (Str.ofString "del")) (.cons (.var 0) .nil))) (.sl (.var 0) (.var 3) (.idx (.var 5) (.int 0))))))
    (.cons (.asg 2 (.bin .add (.var 2) (.comp [] (.tup (.cons (.str (Str.ofString "add")) (.cons (.var 0) .nil))) (.sl (.var 1) (.var 4) (.idx (.var 5) (.int 1))))))
    (.cons (.asg 2 (.bin .add (.var 2) (.comp [] (.tup (.cons (.str (Str.ofString "keep")) (.cons (.var 0) .nil))) (.sl (.var 0) (.idx (.var 5) (.int 0)) (.bin .add (.idx (.var 5) (.int 0)) (.int 1))))))
    (.cons (.asg 3 (.bin .add (.idx (.var 5) (.int 0)) (.int 1)))
    (.cons (.asg 4 (.bin .add (.idx (.var 5) (.int 1)) (.int 1)))
    .nil)))))
theorem pe_bin {C : Nat → List PV → Option PV} {op : BOp} {a b : PE} {σ : St} {x y z : PV} (h1 : pe C a σ = some x) (h2 : pe C b σ = some y) (h3 : binop op x y = some z) : pe C (.bin op a b) σ = some z := by
  rw [peBin, h1, h2]; exact h3
theorem pit_sl {C : Nat → List PV → Option PV} {a l h : PE} {σ : St} {x y z : PV} {xs : List PyData} (h1 : pe C a σ = some x) (h2 : pe C l σ = some y) (h3 : pe C h σ = some z) (h4 : slop x y z = some (.d (.list xs))) : pit C (.sl a l h) σ = some xs := by
  rw [pitSl, h1, h2, h3]
  dsimp only
  rw [h4]
theorem pe_comp {C : Nat → List PV → Option PV} {caps : List Nat} {elt it : PE} {σ : St} {xs : List PyData} (g : PyData → PyData) (h1 : pit C it σ = some xs) (hl : xs.length ≤ lim) (h2 : ∀ x ∈ xs, pe C elt (inner σ caps x) = some (.d (g x))) :
    pe C (.comp caps elt it) σ = some (.d (.list (xs.map g))) := by
  rw [peComp, h1]
  dsimp only
  rw [if_pos hl, mapO_all (g := g)]
  · rfl
  · intro x hx
    rw [h2 x hx]
    rfl
theorem slop_lines (a : List Str) (i p : Nat) : slop (Ls a) (IV i) (IV p) = some (.d (.list ((slN i p a).map .str))) := by
  simp only [slop, Ls, IV, part]
  show some (PV.d (.list (pslice (some (i : Int)) (some (p : Int)) (a.map PyData.str)))) = _
  rw [pslice_nat, slN_map]
theorem pe_asg {C : Nat → List PV → Option PV} {i : Nat} {e : PE} {ss : PSs} {σ : St} {p : PV} (h : pe C e σ = some p) : pss C (.cons (.asg i e) ss) σ = pss C ss (σ.set i p) := by
  rw [pssC, psAsg, h]
theorem add_lists {xs ys : List PyData} (h : xs.length + ys.length ≤ lim) : binop .add (.d (.list xs)) (.d (.list ys)) = some (.d (.list (xs ++ ys))) := by
  simp only [binop]
  rw [if_pos h]
theorem deeds_of {C : Nat → List PV → Option PV} {σ : St} {it : PE} {k : Str} {xs : List Str} (h1 : pit C it σ = some (xs.map .str)) (hl : xs.length ≤ lim) :
    pe C (.comp [] (.tup (.cons (.str k) (.cons (.var 0) .nil))) it) σ = some (.d (.list (xs.map (deedD k)))) := by
  rw [pe_comp (g := fun x => .tuple [.str k, x]) h1 (by simpa using hl)]
  · rw [List.map_map]; rfl
  · intro x _
    simp only [peTup, peStr, peVar, pesC, pesN, inner, St.get, List.map_nil, List.getD_cons_zero, asData, Option.map_some]
theorem dBody_ok (C : Nat → List PV → Option PV) {a b : List Str} {sc : List PyData} {i j p q : Nat} {v : Option PV} (hl : sc.length + (a.length + b.length + 1) ≤ lim) :
    pss C dBody ((dSt a b sc i j v).set 5 (.d (pairD (p, q)))) = some (dSt a b (sc ++ ((slN i p a).map (deedD sDel) ++ (slN j q b).map (deedD sAdd) ++ (slN p (p + 1) a).map (deedD sKeep))) (p + 1) (q + 1) (some (.d (pairD (p, q)))), Option.none) := by
  have hset : (dSt a b sc i j v).set 5 (.d (pairD (p, q))) = dSt a b sc i j (some (.d (pairD (p, q)))) := rfl
  rw [hset]
  have l1 := slN_len i p a
  have l2 := slN_len j q b
  have l3 := slN_one p a
  have g0 : ∀ sc' i' j', pe C (.idx (.var 5) (.int 0)) (dSt a b sc' i' j' (some (.d (pairD (p, q))))) = some (IV p) := fun Z Z Z => rfl
  have g1 : ∀ sc' i' j', pe C (.idx (.var 5) (.int 1)) (dSt a b sc' i' j' (some (.d (pairD (p, q))))) = some (IV q) := fun Z Z Z => rfl
  unfold dBody
  rw [pe_asg (pe_bin (x := .d (.list sc)) rfl (deeds_of (pit_sl rfl rfl (g0 _ _ _) (slop_lines a i p)) (by lia)) (add_lists (by simp; lia)))]
  show pss C _ (dSt a b (sc ++ (slN i p a).map (deedD (Str.ofString "del"))) i j _) = _
  rw [pe_asg (pe_bin (x := .d (.list (sc ++ (slN i p a).map (deedD (Str.ofString "del"))))) rfl (deeds_of (pit_sl rfl rfl (g1 _ _ _) (slop_lines b j q)) (by lia)) (add_lists (by simp; lia)))]
  show pss C _ (dSt a b (sc ++ (slN i p a).map (deedD (Str.ofString "del")) ++ (slN j q b).map (deedD (Str.ofString "add"))) i j _) = _
  rw [pe_asg (pe_bin (x := .d (.list (sc ++ (slN i p a).map (deedD (Str.ofString "del")) ++ (slN j q b).map (deedD (Str.ofString "add"))))) rfl (deeds_of (pit_sl rfl (g0 _ _ _) (pe_bin (g0 _ _ _) rfl (z := IV ((p + 1 : Nat) : Int)) rfl) (slop_lines a p (p + 1))) (by lia)) (add_lists (by simp; lia)))]
  show pss C _ (dSt a b (sc ++ (slN i p a).map (deedD (Str.ofString "del")) ++ (slN j q b).map (deedD (Str.ofString "add")) ++ (slN p (p + 1) a).map (deedD (Str.ofString "keep"))) i j _) = _
  rw [pe_asg (pe_bin (g0 _ _ _) rfl (z := IV ((p + 1 : Nat) : Int)) rfl)]
  show pss C _ (dSt a b (sc ++ (slN i p a).map (deedD (Str.ofString "del")) ++ (slN j q b).map (deedD (Str.ofString "add")) ++ (slN p (p + 1) a).map (deedD (Str.ofString "keep"))) (p + 1) j _) = _
  rw [pe_asg (pe_bin (g1 _ _ _) rfl (z := IV ((q + 1 : Nat) : Int)) rfl)]
  show some (dSt a b (sc ++ (slN i p a).map (deedD (Str.ofString "del")) ++ (slN j q b).map (deedD (Str.ofString "add")) ++ (slN p (p + 1) a).map (deedD (Str.ofString "keep"))) (p + 1) (q + 1) _, Option.none) = _
  simp only [List.append_assoc, sDel, sAdd, sKeep]
theorem diff_loop (C : Nat → List PV → Option PV) {a b : List Str} : ∀ (ms : List (Nat × Nat)) (sc : List PyData) (i j : Nat) (v : Option PV), sc.length + ms.length * (a.length + b.length + 1) ≤ lim →
    ∃ i' j' v', forO (fun x σ => pss C dBody (σ.set 5 (.d x))) (ms.map pairD) (dSt a b sc i j v) = some (dSt a b (sc ++ dspec a b i j ms) i' j' v', Option.none)
  | [], sc, i, j, v, _ => ⟨i, j, v, by simp [forO, dspec]⟩
  | (p, q) :: r, sc, i, j, v, hl => by
    rw [List.length_cons, Nat.succ_mul] at hl
    have hb := dBody_ok C (a := a) (b := b) (sc := sc) (i := i) (j := j) (p := p) (q := q) (v := v) (by lia)
    have l1 := slN_len i p a
    have l2 := slN_len j q b
    have l3 := slN_one p a
    obtain ⟨i', j', v', ih⟩ := diff_loop C (a := a) (b := b) r (sc ++ ((slN i p a).map (deedD sDel) ++ (slN j q b).map (deedD sAdd) ++ (slN p (p + 1) a).map (deedD sKeep))) (p + 1) (q + 1) (some (.d (pairD (p, q)))) (by simp; lia)
    refine ⟨i', j', v', ?_⟩
    rw [List.map_cons, forO, hb]
    dsimp only
    rw [ih, dspec]
    simp only [List.append_assoc]
theorem walk_len : ∀ (a : List Str) (i j : Nat) (b : List Str), (walkL a i j b).length ≤ a.length
  | [], i, j, b => Nat.le_refl _
  | x :: a, i, j, [] => by rw [walk_nil']; exact Nat.zero_le _
  | x :: a, i, j, y :: b => by
    rw [walk_cons]
    split
    · have := walk_len a (i + 1) (j + 1) b
      simp; lia
    · split
      · have := walk_len a (i + 1) j (y :: b)
        simp; lia
      · exact walk_len (x :: a) i (j + 1) b
termination_by a _ _ b => a.length + b.length
noncomputable def diffOf (a b : List Str) : List PyData := dspec a b 0 0 (walkL a 0 0 b ++ [(a.length, b.length)])
theorem call_diff {a b : List Str} (ha : a.length ≤ 300) (hb : b.length ≤ 300) (k : Nat) : callAt fns (k + 3) 3 [Ls a, Ls b] = some (.d (.list (diffOf a b))) := by
  have hlim : lim = 1000000 := rfl
  have hw := walk_len a 0 0 b
  have hm : (walkL a 0 0 b ++ [(a.length, b.length)]).length * (a.length + b.length + 1) ≤ lim := by
    have h1 : (walkL a 0 0 b ++ [(a.length, b.length)]).length ≤ 301 := by simp; lia
    have h2 : a.length + b.length + 1 ≤ 601 := by lia
    exact Nat.le_trans (Nat.mul_le_mul h1 h2) (by rw [hlim]; decide)
  refine ea_3_1 (diff_loop (callAt fns (k + 2)) (a := a) (b := b) (walkL a 0 0 b ++ [(a.length, b.length)]) [] 0 0 Option.none (by simpa using hm)) fun i' j' v' hloop => ?_
  refine call_of (fn := f_diff) (σ' := dSt a b (diffOf a b) i' j' v') rfl rfl ?_
  show pss (callAt fns (k + 2)) b_diff ⟨[some (Ls a), some (Ls b), Option.none, Option.none, Option.none, Option.none], Option.none⟩ = _
  unfold b_diff
  rw [pe_asg (p := .d (.list [])) rfl, pe_asg (p := IV 0) rfl, pe_asg (p := IV 0) rfl]
  show pss (callAt fns (k + 2)) _ (dSt a b [] 0 0 Option.none) = _
  have hc : pe (callAt fns (k + 2)) (.call 2 (Str.ofString "matches_of") (.cons (.var 0) (.cons (.var 1) .nil))) (dSt a b [] 0 0 Option.none) = some (.d (.list ((walkL a 0 0 b).map pairD))) := by
    rw [peCall, show pes (callAt fns (k + 2)) (.cons (.var 0) (.cons (.var 1) .nil)) (dSt a b [] 0 0 Option.none) = some [Ls a, Ls b] from rfl]
    exact call_matches (by lia) k
  have hp : pe (callAt fns (k + 2)) (.lst (.cons (.tup (.cons (.len (.var 0)) (.cons (.len (.var 1)) .nil))) .nil)) (dSt a b [] 0 0 Option.none) = some (.d (.list [pairD (a.length, b.length)])) := by
    simp only [peLst, peTup, peLen, peVar, pesC, pesN, dSt, St.get, List.getD_cons_zero, List.getD_cons_succ, Ls, lenop, List.length_map, asData, Option.map_some, pairD]
  have hit : pit (callAt fns (k + 2)) (.bin .add (.call 2 (Str.ofString "matches_of") (.cons (.var 0) (.cons (.var 1) .nil))) (.lst (.cons (.tup (.cons (.len (.var 0)) (.cons (.len (.var 1)) .nil))) .nil))) (dSt a b [] 0 0 Option.none) =
      some ((walkL a 0 0 b ++ [(a.length, b.length)]).map pairD) := by
    rw [pitBin, hc, hp]
    dsimp only
    rw [add_lists (by simp; lia)]
    simp
  rw [pssC, psFor, hit]
  dsimp only
  have hl' := hloop
  unfold dBody at hl'
  rw [hl']
  rfl
noncomputable def sh (P Q : Nat) (p : Nat × Nat) : Nat × Nat := (P + p.1, Q + p.2)
theorem walk_shift (P Q : Nat) : ∀ (a : List Str) (i j : Nat) (b : List Str), walkL a (P + i) (Q + j) b = (walkL a i j b).map (sh P Q)
  | [], i, j, b => rfl
  | x :: a, i, j, [] => by rw [walk_nil', walk_nil']; rfl
  | x :: a, i, j, y :: b => by
    rw [walk_cons, walk_cons]
    split
    · rw [List.map_cons, show P + i + 1 = P + (i + 1) by lia, show Q + j + 1 = Q + (j + 1) by lia, walk_shift P Q a (i + 1) (j + 1) b]
      rfl
    · split
      · rw [show P + i + 1 = P + (i + 1) by lia, walk_shift P Q a (i + 1) j (y :: b)]
      · rw [show Q + j + 1 = Q + (j + 1) by lia, walk_shift P Q (x :: a) i (j + 1) b]
termination_by a _ _ b => a.length + b.length
theorem walk_range : ∀ (a : List Str) (i j : Nat) (b : List Str) (p : Nat × Nat), p ∈ walkL a i j b → (i ≤ p.1 ∧ p.1 < i + a.length) ∧ (j ≤ p.2 ∧ p.2 < j + b.length)
  | [], i, j, b, p, h => by simp [walk_nil] at h
  | x :: a, i, j, [], p, h => by rw [walk_nil'] at h; simp at h
  | x :: a, i, j, y :: b, p, h => by
    rw [walk_cons] at h
    simp only [List.length_cons]
    split at h
    · rcases List.mem_cons.mp h with e | h
      · subst e; exact ⟨⟨Nat.le_refl _, by dsimp only; lia⟩, Nat.le_refl _, by dsimp only; lia⟩
      · have := walk_range a (i + 1) (j + 1) b p h; lia
    · split at h
      · have := walk_range a (i + 1) j (y :: b) p h
        simp only [List.length_cons] at this; lia
      · have := walk_range (x :: a) i (j + 1) b p h
        simp only [List.length_cons] at this; lia
termination_by a _ _ b => a.length + b.length
theorem slN_left {α : Type} {i p : Nat} {a1 a2 : List α} (h : p ≤ a1.length) : slN i p (a1 ++ a2) = slN i p a1 := by
  unfold slN; rw [List.take_append_of_le_length h]
theorem slN_right {α : Type} {i p : Nat} {a1 a2 : List α} : slN (a1.length + i) (a1.length + p) (a1 ++ a2) = slN i p a2 := by
  unfold slN
  rw [List.take_append, List.take_of_length_le (by lia), show a1.length + p - a1.length = p by lia, List.drop_append, List.drop_of_length_le (by lia), show a1.length + i - a1.length = i by lia, List.nil_append]
theorem slN_self {α : Type} (i : Nat) (xs : List α) : slN i i xs = [] := by
  unfold slN; exact List.drop_of_length_le (by rw [List.length_take]; lia)
theorem slN_at {α : Type} {i : Nat} {xs : List α} {x : α} (h : xs[i]? = some x) : slN i (i + 1) xs = [x] := by
  obtain ⟨hi, e⟩ := List.getElem?_eq_some_iff.mp h
  unfold slN
  rw [List.take_add_one, h, List.drop_append, List.drop_of_length_le (by rw [List.length_take]; lia), List.length_take]
  simp
  rw [show i - min i xs.length = 0 by lia]; rfl
theorem slN_end {α : Type} (xs : List α) : slN xs.length (xs.length + 1) xs = [] := by
  unfold slN; exact List.drop_of_length_le (by rw [List.length_take]; lia)
theorem dspec_prefix {a1 a2 b1 b2 : List Str} {rest : List (Nat × Nat)} : ∀ (ms : List (Nat × Nat)) (i j : Nat), (∀ p ∈ ms, p.1 < a1.length ∧ p.2 < b1.length) →
    dspec (a1 ++ a2) (b1 ++ b2) i j (ms ++ (a1.length, b1.length) :: rest) =
      dspec a1 b1 i j (ms ++ [(a1.length, b1.length)]) ++ ((slN a1.length (a1.length + 1) (a1 ++ a2)).map (deedD sKeep) ++ dspec (a1 ++ a2) (b1 ++ b2) (a1.length + 1) (b1.length + 1) rest)
  | [], i, j, _ => by
    rw [List.nil_append, List.nil_append, dspec, dspec, dspec, slN_left (Nat.le_refl _), slN_left (Nat.le_refl _), slN_end]
    simp
  | (p, q) :: ms, i, j, h => by
    have hp := h (p, q) (.head _)
    dsimp only at hp
    have ih := dspec_prefix (a1 := a1) (a2 := a2) (b1 := b1) (b2 := b2) (rest := rest) ms (p + 1) (q + 1) fun x hx => h x (.tail _ hx)
    rw [List.cons_append, List.cons_append, dspec, dspec, ih, slN_left (by lia), slN_left (by lia), slN_left (by lia)]
    simp only [List.append_assoc]
theorem dspec_run {a b : List Str} {r : Str} {rest : List (Nat × Nat)} : ∀ (k i j : Nat), (∀ n, n < k → a[i + n]? = some r) → dspec a b i j (diag k i j ++ rest) = List.replicate k (deedD sKeep r) ++ dspec a b (i + k) (j + k) rest
  | 0, i, j, _ => rfl
  | k + 1, i, j, h => by
    have h0 : a[i]? = some r := h 0 (by lia)
    have ih := dspec_run (a := a) (b := b) (r := r) (rest := rest) k (i + 1) (j + 1) fun n hn => by
      have := h (n + 1) (by lia)
      rwa [show i + (n + 1) = i + 1 + n by lia] at this
    rw [diag, List.cons_append, dspec, slN_self, slN_self, slN_at h0, ih, List.replicate_succ, show i + 1 + k = i + (k + 1) by lia, show j + 1 + k = j + (k + 1) by lia]
    rfl
theorem dspec_suffix {P Q A B : List Str} : ∀ (ms : List (Nat × Nat)) (i j : Nat), dspec (P ++ A) (Q ++ B) (P.length + i) (Q.length + j) (ms.map (sh P.length Q.length)) = dspec A B i j ms
  | [], i, j => rfl
  | (p, q) :: ms, i, j => by
    have ih := dspec_suffix (P := P) (Q := Q) (A := A) (B := B) ms (p + 1) (q + 1)
    rw [List.map_cons]
    show dspec (P ++ A) (Q ++ B) (P.length + i) (Q.length + j) ((P.length + p, Q.length + q) :: _) = _
    rw [dspec, dspec, slN_right, slN_right, show P.length + p + 1 = P.length + (p + 1) by lia, show Q.length + q + 1 = Q.length + (q + 1) by lia, slN_right, ih]
theorem diff_split {r : Str} {A B a1 b1 : List Str} {k : Nat} (hA : r ∉ A) (hB : r ∉ B) (ra : r ∉ a1) (rb : r ∉ b1) (h1 : ∀ z ∈ a1, z ∉ B) (h2 : ∀ z ∈ b1, z ∉ A) :
    diffOf (a1 ++ (List.replicate (k + 1) r ++ A)) (b1 ++ (List.replicate (k + 1) r ++ B)) = diffOf a1 b1 ++ (List.replicate (k + 1) (deedD sKeep r) ++ diffOf A B) := by
  unfold diffOf
  rw [walk_split hA hB 0 0 ra rb h1 h2, Nat.zero_add, Nat.zero_add]
  have hw : walkL A (a1.length + (k + 1)) (b1.length + (k + 1)) B = (walkL A 0 0 B).map (sh (a1.length + (k + 1)) (b1.length + (k + 1))) := walk_shift _ _ A 0 0 B
  rw [hw, diag]
  have hp := dspec_prefix (a1 := a1) (a2 := List.replicate (k + 1) r ++ A) (b1 := b1) (b2 := List.replicate (k + 1) r ++ B)
    (rest := diag k (a1.length + 1) (b1.length + 1) ++ ((walkL A 0 0 B).map (sh (a1.length + (k + 1)) (b1.length + (k + 1))) ++ [((a1 ++ (List.replicate (k + 1) r ++ A)).length, (b1 ++ (List.replicate (k + 1) r ++ B)).length)]))
    (walkL a1 0 0 b1) 0 0 fun p hp => by have := walk_range a1 0 0 b1 p hp; lia
  have hat : ∀ n, n < k + 1 → (a1 ++ (List.replicate (k + 1) r ++ A))[a1.length + n]? = some r := fun n hn => by
    rw [List.getElem?_append_right (by lia), show a1.length + n - a1.length = n by lia, List.getElem?_append_left (by simpa using hn), List.getElem?_replicate, if_pos hn]
  have hr := dspec_run (a := a1 ++ (List.replicate (k + 1) r ++ A)) (b := b1 ++ (List.replicate (k + 1) r ++ B)) (r := r)
    (rest := (walkL A 0 0 B).map (sh (a1.length + (k + 1)) (b1.length + (k + 1))) ++ [((a1 ++ (List.replicate (k + 1) r ++ A)).length, (b1 ++ (List.replicate (k + 1) r ++ B)).length)]) k (a1.length + 1) (b1.length + 1) fun n hn => by
      have := hat (n + 1) (by lia)
      rwa [show a1.length + (n + 1) = a1.length + 1 + n by lia] at this
  have hs := dspec_suffix (P := a1 ++ List.replicate (k + 1) r) (Q := b1 ++ List.replicate (k + 1) r) (A := A) (B := B) (walkL A 0 0 B ++ [(A.length, B.length)]) 0 0
  have e1 : (a1 ++ List.replicate (k + 1) r).length = a1.length + (k + 1) := by simp
  have e2 : (b1 ++ List.replicate (k + 1) r).length = b1.length + (k + 1) := by simp
  rw [e1, e2, List.append_assoc, List.append_assoc, List.map_append] at hs
  have e3 : ((a1 ++ (List.replicate (k + 1) r ++ A)).length, (b1 ++ (List.replicate (k + 1) r ++ B)).length) = sh (a1.length + (k + 1)) (b1.length + (k + 1)) (A.length, B.length) := by
    simp [sh]; lia
  have h0 : (a1 ++ (List.replicate (k + 1) r ++ A))[a1.length]? = some r := hat 0 (by lia)
  simp only [List.append_assoc, List.cons_append] at hp hr hs ⊢
  rw [hp, hr, e3, slN_at h0]
  have e4 : [(A.length, B.length)].map (sh (a1.length + (k + 1)) (b1.length + (k + 1))) = [sh (a1.length + (k + 1)) (b1.length + (k + 1)) (A.length, B.length)] := rfl
  rw [e4] at hs
  rw [show a1.length + 1 + k = a1.length + (k + 1) + 0 by lia, show b1.length + 1 + k = b1.length + (k + 1) + 0 by lia, hs]
  conv => rhs; rw [List.replicate_succ]
  rfl
theorem depth_strs : ∀ (a : List Str), PyData.depthAll (a.map .str) ≤ 1
  | [] => by simp [PyData.depthAll]
  | x :: a => by
    rw [List.map_cons, PyData.depthAll]
    have := depth_strs a
    simp only [PyData.depth]
    lia
theorem eqv_strs : ∀ (a b : List Str), PyData.eqvAll (a.map .str) (b.map .str) = decide (a = b)
  | [], [] => by simp [PyData.eqvAll]
  | [], y :: b => by simp [PyData.eqvAll]
  | x :: a, [] => by simp [PyData.eqvAll]
  | x :: a, y :: b => by
    rw [List.map_cons, List.map_cons, PyData.eqvAll, eqv_strs a b]
    simp only [PyData.eqv]
    by_cases h : x = y
    · subst h; simp
    · simp [h]
theorem cmp_lines (a b : List Str) : cmpop .eq (Ls a) (Ls b) = some (decide (a = b)) := by
  simp only [cmpop, Ls]
  rw [if_pos (Nat.le_trans (depth_strs a) (by decide)), eqv_strs]
noncomputable def kTheirs : Str := Str.ofString "theirs"
noncomputable def kOurs : Str := Str.ofString "ours"
noncomputable def kBoth : Str := Str.ofString "both"
noncomputable def kConf : Str := Str.ofString "conflict"
noncomputable def kSame : Str := Str.ofString "same"
noncomputable def kindOf (b o t : List Str) : Str := if o = b then kTheirs else if t = b then kOurs else if o = t then kBoth else kConf
section
variable {C : Nat → List PV → Option PV} {c : PE} {a b ss : PSs} {σ σ' : St} {p : PV} {e : PE} {i : Nat}
theorem ite_t (h : pt C c σ = some true) (h1 : pss C a σ = some (σ', Option.none)) : pss C (.cons (.ite c a b) ss) σ = pss C ss σ' := by rw [pssC, psIte, h]; dsimp only; rw [h1]
theorem ite_tr (h : pt C c σ = some true) (h1 : pss C a σ = some (σ', some p)) : pss C (.cons (.ite c a b) ss) σ = some (σ', some p) := by rw [pssC, psIte, h]; dsimp only; rw [h1]
theorem ite_f (h : pt C c σ = some false) (h1 : pss C b σ = some (σ', Option.none)) : pss C (.cons (.ite c a b) ss) σ = pss C ss σ' := by rw [pssC, psIte, h]; dsimp only; rw [h1]
theorem ret_ok (h : pe C e σ = some p) : pss C (.cons (.ret e) ss) σ = some (σ, some p) := by rw [pssC, psRet, h]
theorem st_step {s : PS} (h : ps C s σ = some (σ', Option.none)) : pss C (.cons s ss) σ = pss C ss σ' := by rw [pssC, h]
theorem pt_cmp {op : COp} {x y : PE} {u v : PV} {r : Bool} (h1 : pe C x σ = some u) (h2 : pe C y σ = some v) (h3 : cmpop op u v = some r) : pt C (.cmp op x y) σ = some r := by rw [ptCmp, h1, h2]; exact h3
end
theorem call_kind (b o t : List Str) (k : Nat) : callAt fns (k + 1) 9 [Ls b, Ls o, Ls t] = some (SV (kindOf b o t)) := by
  refine call_of (fn := f_chunk_kind) (σ' := ⟨[some (Ls b), some (Ls o), some (Ls t)], Option.none⟩) rfl rfl ?_
  show pss (callAt fns k) b_chunk_kind ⟨[some (Ls b), some (Ls o), some (Ls t)], Option.none⟩ = _
  unfold b_chunk_kind kindOf
  have c1 : pt (callAt fns k) (.cmp .eq (.var 1) (.var 0)) ⟨[some (Ls b), some (Ls o), some (Ls t)], Option.none⟩ = some (decide (o = b)) := pt_cmp rfl rfl (cmp_lines o b)
  have c2 : pt (callAt fns k) (.cmp .eq (.var 2) (.var 0)) ⟨[some (Ls b), some (Ls o), some (Ls t)], Option.none⟩ = some (decide (t = b)) := pt_cmp rfl rfl (cmp_lines t b)
  have c3 : pt (callAt fns k) (.cmp .eq (.var 1) (.var 2)) ⟨[some (Ls b), some (Ls o), some (Ls t)], Option.none⟩ = some (decide (o = t)) := pt_cmp rfl rfl (cmp_lines o t)
  by_cases h1 : o = b
  · rw [if_pos h1, ite_tr (by rw [c1, decide_eq_true h1]) rfl]; rfl
  · rw [if_neg h1, ite_f (by rw [c1, decide_eq_false h1]) rfl]
    by_cases h2 : t = b
    · rw [if_pos h2, ite_tr (by rw [c2, decide_eq_true h2]) rfl]; rfl
    · rw [if_neg h2, ite_f (by rw [c2, decide_eq_false h2]) rfl]
      by_cases h3 : o = t
      · rw [if_pos h3, ite_tr (by rw [c3, decide_eq_true h3]) rfl]; rfl
      · rw [if_neg h3, ite_f (by rw [c3, decide_eq_false h3]) rfl]; rfl
theorem while_count (C : Nat → List PV → Option PV) {t : PE} {b : PSs} (S : Nat → St) (P : Nat → Prop) [DecidablePred P] {m : Nat} (hm : ¬ P m) : ∀ (d a : Nat), a + d = m → (∀ n, a ≤ n → n ≤ m → pt C t (S n) = some (decide (P n))) →
    (∀ n, a ≤ n → n < m → P n ∧ pss C b (S n) = some (S (n + 1), Option.none)) → ∀ fuel, d < fuel → whileO (pt C t) (pss C b) fuel (S a) = some (S m, Option.none)
  | 0, a, e, ht, hb, fuel, hf => by
    have : a = m := by lia
    subst this
    cases fuel with
    | zero => lia
    | succ fuel => rw [whileO, ht a (Nat.le_refl _) (Nat.le_refl _)]; simp only [hm, decide_false]
  | d + 1, a, e, ht, hb, fuel, hf => by
    cases fuel with
    | zero => lia
    | succ fuel =>
      refine ea_0_2 (hb a (Nat.le_refl _) (by lia)) fun h1 h2 => ?_
      rw [whileO, ht a (Nat.le_refl _) (by lia)]
      simp only [h1, decide_true, h2]
      exact while_count C S P hm d (a + 1) (by lia) (fun n h h' => ht n (by lia) h') (fun n h h' => hb n (by lia) h') fuel (by lia)
abbrev Ch := Str × List Str × List Str × List Str
noncomputable def chD (c : Ch) : PyData := .tuple [.str c.1, .list (c.2.1.map .str), .list (c.2.2.1.map .str), .list (c.2.2.2.map .str)]
structure CV where
  v4 : Option PV
  n : Option PV
  ie : Option PV
  oe : Option PV
  te : Option PV
  kd : Option PV
noncomputable def cSt (B O T : List Str) (mo mt : List (Int × Int)) (i o t : Nat) (cs : List PyData) (v : CV) : St :=
  ⟨[some (Ls B), some (Ls O), some (Ls T), some (.di mo), v.v4, some (.di mt), Option.none, some (IV i), some (IV o), some (IV t), v.n, v.ie, v.oe, v.te, v.kd], some (6, .lst cs)⟩
noncomputable def Lk (mo : List (Int × Int)) (lo : Nat → Option Nat) : Prop := ∀ x : Nat, mo.lookup (x : Int) = (lo x).map Int.ofNat
noncomputable def nTest : PE := (.andE (.cons (.cmp .lt (.bin .add (.var 7) (.var 10)) (.len (.var 0))) (.cons (.cmp .isin (.bin .add (.var 7) (.var 10)) (.var 3)) (.cons (.cmp .isin (.bin .add (.var 7) (.var 10)) (.var 5)) (.cons (.cmp .eq (.idx (.var 3) (.bin .add (.var 7) (.var 10))) (.bin .add (.var 8) (.var 10))) (.cons (.cmp .eq (.idx (.var 5) (.bin .add (.var 7) (.var 10))) (.bin .add (.var 9) (.var 10))) .nil))))))
noncomputable def nBody : PSs := (.cons (.aug 10 (.int 1)) .nil)
noncomputable def eTest : PE := (.andE (.cons (.cmp .lt (.var 11) (.len (.var 0))) (.cons (.notE (.andE (.cons (.cmp .isin (.var 11) (.var 3)) (.cons (.cmp .isin (.var 11) (.var 5)) .nil)))) .nil)))
noncomputable def eBody : PSs := (.cons (.aug 11 (.int 1)) .nil)
section
variable {C : Nat → List PV → Option PV} {B O T : List Str} {mo mt : List (Int × Int)} {lo lt : Nat → Option Nat} {i o t : Nat} {cs : List PyData} {v : CV}
theorem nTest_ok (ho : Lk mo lo) (ht : Lk mt lt) (n : Nat) : pt C nTest (cSt B O T mo mt i o t cs { v with n := some (IV n) }) = some (decide (i + n < B.length ∧ lo (i + n) = some (o + n) ∧ lt (i + n) = some (t + n))) := by
  have e : (i : Int) + (n : Int) = ((i + n : Nat) : Int) := by lia
  have eo : (o : Int) + (n : Int) = ((o + n : Nat) : Int) := by lia
  have et : (t : Int) + (n : Int) = ((t + n : Nat) : Int) := by lia
  have e1 : decide (((i + n : Nat) : Int) < (B.length : Int)) = decide (i + n < B.length) := by simp only [Int.ofNat_lt]
  simp only [nTest, ptAnd, ptOr, ptCmp, pAndC, pAndN, peVar, peLen, peBin, peIdx, cSt, St.get, List.getD_cons_zero, List.getD_cons_succ, Ls, IV, lenop, List.length_map, binop, e, eo, et, cmpop, idxop, ho (i + n), ht (i + n), e1]
  by_cases h1 : i + n < B.length
  · simp only [h1, decide_true, true_and]
    cases h2 : lo (i + n) with
    | none => simp
    | some p =>
      cases h3 : lt (i + n) with
      | none => simp
      | some q =>
        have hp : decide ((Int.ofNat p) = ((o + n : Nat) : Int)) = decide (p = o + n) := decide_eq_decide.mpr ⟨fun z => Int.ofNat.inj z, fun z => by rw [z]; rfl⟩
        have hq : decide ((Int.ofNat q) = ((t + n : Nat) : Int)) = decide (q = t + n) := decide_eq_decide.mpr ⟨fun z => Int.ofNat.inj z, fun z => by rw [z]; rfl⟩
        simp only [Option.map_some, Option.isSome_some, Option.some.injEq, hp, hq]
        by_cases h4 : p = o + n <;> by_cases h5 : q = t + n <;> simp [h4, h5]
  · simp only [h1, decide_false, false_and]
end
section
variable {B O T : List Str} {mo mt : List (Int × Int)} {lo lt : Nat → Option Nat} {i o t : Nat} {cs : List PyData} {v : CV}
theorem eTest_ok (C : Nat → List PV → Option PV) (ho : Lk mo lo) (ht : Lk mt lt) (e : Nat) : pt C eTest (cSt B O T mo mt i o t cs { v with ie := some (IV e) }) = some (decide (e < B.length ∧ ¬ ((lo e).isSome = true ∧ (lt e).isSome = true))) := by
  have e1 : decide ((e : Int) < (B.length : Int)) = decide (e < B.length) := by simp only [Int.ofNat_lt]
  simp only [eTest, ptAnd, ptOr, ptNot, ptCmp, pAndC, pAndN, peVar, peLen, cSt, St.get, List.getD_cons_zero, List.getD_cons_succ, Ls, IV, lenop, List.length_map, cmpop, ho e, ht e, e1]
  by_cases h1 : e < B.length
  · simp only [h1, decide_true, true_and]
    cases h2 : lo e with
    | none => simp
    | some p =>
      cases h3 : lt e with
      | none => simp
      | some q => simp
  · simp only [h1, decide_false, false_and]
theorem nLoop (C : Nat → List PV → Option PV) (ho : Lk mo lo) (ht : Lk mt lt) {m : Nat} (hm : m < lim) (h1 : ∀ n, n < m → i + n < B.length ∧ lo (i + n) = some (o + n) ∧ lt (i + n) = some (t + n)) (h2 : ¬ (i + m < B.length ∧ lo (i + m) = some (o + m) ∧ lt (i + m) = some (t + m))) :
    ps C (.whl nTest nBody) (cSt B O T mo mt i o t cs { v with n := some (IV 0) }) = some (cSt B O T mo mt i o t cs { v with n := some (IV m) }, Option.none) := by
  rw [psWhl]
  exact while_count C (fun n => cSt B O T mo mt i o t cs { v with n := some (IV n) }) (fun n => i + n < B.length ∧ lo (i + n) = some (o + n) ∧ lt (i + n) = some (t + n)) h2 m 0 (by lia) (fun n Z Z => nTest_ok ho ht n) (fun n Z h => ⟨h1 n h, rfl⟩) lim hm
theorem eLoop (C : Nat → List PV → Option PV) (ho : Lk mo lo) (ht : Lk mt lt) {s m : Nat} (hsm : s ≤ m) (hm : m < lim) (h1 : ∀ e, s ≤ e → e < m → e < B.length ∧ ¬ ((lo e).isSome = true ∧ (lt e).isSome = true)) (h2 : ¬ (m < B.length ∧ ¬ ((lo m).isSome = true ∧ (lt m).isSome = true))) :
    ps C (.whl eTest eBody) (cSt B O T mo mt i o t cs { v with ie := some (IV s) }) = some (cSt B O T mo mt i o t cs { v with ie := some (IV m) }, Option.none) := by
  rw [psWhl]
  exact while_count C (fun n => cSt B O T mo mt i o t cs { v with ie := some (IV n) }) (fun e => e < B.length ∧ ¬ ((lo e).isSome = true ∧ (lt e).isSome = true)) h2 (m - s) s (by lia) (fun n Z Z => eTest_ok C ho ht n) (fun n h h' => ⟨h1 n h h', rfl⟩) lim (by lia)
noncomputable def cTest : PE := (.orE (.cons (.cmp .lt (.var 7) (.len (.var 0))) (.cons (.cmp .lt (.var 8) (.len (.var 1))) (.cons (.cmp .lt (.var 9) (.len (.var 2))) .nil))))
theorem cTest_ok (C : Nat → List PV → Option PV) : pt C cTest (cSt B O T mo mt i o t cs v) = some (decide (i < B.length ∨ o < O.length ∨ t < T.length)) := by
  have e1 : decide ((i : Int) < (B.length : Int)) = decide (i < B.length) := by simp only [Int.ofNat_lt]
  have e2 : decide ((o : Int) < (O.length : Int)) = decide (o < O.length) := by simp only [Int.ofNat_lt]
  have e3 : decide ((t : Int) < (T.length : Int)) = decide (t < T.length) := by simp only [Int.ofNat_lt]
  simp only [cTest, ptAnd, ptOr, ptNot, ptCmp, pOrC, pOrN, peVar, peLen, cSt, St.get, List.getD_cons_zero, List.getD_cons_succ, Ls, IV, lenop, List.length_map, cmpop, e1, e2, e3]
  by_cases h1 : i < B.length <;> by_cases h2 : o < O.length <;> by_cases h3 : t < T.length <;> simp [h1, h2, h3]
noncomputable def cSame : PSs := (.cons (.app 6 (.tup (.cons (.str (Str.ofString "same")) (.cons (.sl (.var 0) (.var 7) (.bin .add (.var 7) (.var 10))) (.cons (.sl (.var 1) (.var 8) (.bin .add (.var 8) (.var 10))) (.cons (.sl (.var 2) (.var 9) (.bin .add (.var 9) (.var 10))) .nil))))))
      (.cons (.aug 7 (.var 10))
      (.cons (.aug 8 (.var 10))
      (.cons (.aug 9 (.var 10))
      .nil))))
noncomputable def cDif : PSs := (.cons (.asg 11 (.var 7))
      (.cons (.whl eTest eBody)
      (.cons (.asg 12 (.len (.var 1)))
      (.cons (.asg 13 (.len (.var 2)))
      (.cons (.ite (.cmp .lt (.var 11) (.len (.var 0)))
        (.cons (.asg 12 (.idx (.var 3) (.var 11)))
        (.cons (.asg 13 (.idx (.var 5) (.var 11)))
        .nil))
        .nil)
      (.cons (.asg 14 (.call 9 (Str.ofString "chunk_kind") (.cons (.sl (.var 0) (.var 7) (.var 11)) (.cons (.sl (.var 1) (.var 8) (.var 12)) (.cons (.sl (.var 2) (.var 9) (.var 13)) .nil)))))
      (.cons (.app 6 (.tup (.cons (.var 14) (.cons (.sl (.var 0) (.var 7) (.var 11)) (.cons (.sl (.var 1) (.var 8) (.var 12)) (.cons (.sl (.var 2) (.var 9) (.var 13)) .nil))))))
      (.cons (.asg 7 (.var 11))
      (.cons (.asg 8 (.var 12))
      (.cons (.asg 9 (.var 13))
      .nil))))))))))
noncomputable def cBody : PSs := (.cons (.asg 10 (.int 0)) (.cons (.whl nTest nBody) (.cons (.ite (.cmp .gt (.var 10) (.int 0)) cSame cDif) .nil)))
theorem pe_sl {C : Nat → List PV → Option PV} {a l h : PE} {σ : St} {x y z w : PV} (h1 : pe C a σ = some x) (h2 : pe C l σ = some y) (h3 : pe C h σ = some z) (h4 : slop x y z = some w) : pe C (.sl a l h) σ = some w := by
  rw [peSl, h1, h2, h3]; exact h4
theorem pe_tup4 {C : Nat → List PV → Option PV} {a b c d : PE} {σ : St} {x y z w : PyData} (h1 : pe C a σ = some (.d x)) (h2 : pe C b σ = some (.d y)) (h3 : pe C c σ = some (.d z)) (h4 : pe C d σ = some (.d w)) :
    pe C (.tup (.cons a (.cons b (.cons c (.cons d .nil))))) σ = some (.d (.tuple [x, y, z, w])) := by
  simp only [peTup, pesC, pesN, h1, h2, h3, h4, asData, Option.map_some]
theorem app_ok {C : Nat → List PV → Option PV} {j : Nat} {e : PE} {σ : St} {xs : List PyData} {x : PyData} (ho : σ.ow = some (j, .lst xs)) (h : pe C e σ = some (.d x)) (hl : xs.length < lim) : ps C (.app j e) σ = some ({ σ with ow := some (j, .lst (xs ++ [x])) }, Option.none) := by
  rw [psApp, ho, h]; dsimp only; rw [if_pos ⟨rfl, hl⟩]
theorem same_ok (C : Nat → List PV → Option PV) {m : Nat} (hcs : cs.length < lim) : pss C cSame (cSt B O T mo mt i o t cs { v with n := some (IV m) }) =
    some (cSt B O T mo mt (i + m) (o + m) (t + m) (cs ++ [chD (kSame, slN i (i + m) B, slN o (o + m) O, slN t (t + m) T)]) { v with n := some (IV m) }, Option.none) := by
  unfold cSame
  have hs : ∀ (a p q : Nat) (X : List Str) (σ : St) (ea ep eq : PE), pe C ea σ = some (Ls X) → pe C ep σ = some (IV p) → pe C eq σ = some (IV q) → pe C (.sl ea ep (.bin .add ep eq)) σ = some (.d (.list ((slN p (p + q) X).map .str))) := fun a p q X σ ea ep eq h1 h2 h3 =>
    pe_sl h1 h2 (pe_bin h2 h3 (z := IV ((p + q : Nat) : Int)) rfl) (slop_lines X p (p + q))
  rw [st_step (app_ok (xs := cs) rfl (pe_tup4 (x := .str kSame) rfl (hs 0 i m B _ _ _ _ rfl rfl rfl) (hs 0 o m O _ _ _ _ rfl rfl rfl) (hs 0 t m T _ _ _ _ rfl rfl rfl)) hcs)]
  rfl
theorem dif_ok (k : Nat) (ho : Lk mo lo) (ht : Lk mt lt) {ie oe te : Nat} (hie : i ≤ ie) (him : ie < lim) (h1 : ∀ e, i ≤ e → e < ie → e < B.length ∧ ¬ ((lo e).isSome = true ∧ (lt e).isSome = true)) (h2 : ¬ (ie < B.length ∧ ¬ ((lo ie).isSome = true ∧ (lt ie).isSome = true)))
    (hend : (ie < B.length ∧ lo ie = some oe ∧ lt ie = some te) ∨ (¬ ie < B.length ∧ oe = O.length ∧ te = T.length)) (hcs : cs.length < lim) : ∃ v', pss (callAt fns (k + 1)) cDif (cSt B O T mo mt i o t cs v) =
    some (cSt B O T mo mt ie oe te (cs ++ [chD (kindOf (slN i ie B) (slN o oe O) (slN t te T), slN i ie B, slN o oe O, slN t te T)]) v', Option.none) := by
  unfold cDif
  rw [pe_asg (p := IV i) rfl]
  show ∃ v', pss _ _ (cSt B O T mo mt i o t cs { v with ie := some (IV i) }) = _
  rw [st_step (eLoop (callAt fns (k + 1)) ho ht hie him h1 h2)]
  have hl1 : pe (callAt fns (k + 1)) (.len (.var 1)) (cSt B O T mo mt i o t cs { v with ie := some (IV ie) }) = some (IV O.length) := by
    simp only [peLen, peVar, cSt, St.get, List.getD_cons_zero, List.getD_cons_succ, Ls, lenop, List.length_map]; rfl
  rw [pe_asg hl1]
  show ∃ v', pss _ _ (cSt B O T mo mt i o t cs { v with ie := some (IV ie), oe := some (IV O.length) }) = _
  have hl2 : pe (callAt fns (k + 1)) (.len (.var 2)) (cSt B O T mo mt i o t cs { v with ie := some (IV ie), oe := some (IV O.length) }) = some (IV T.length) := by
    simp only [peLen, peVar, cSt, St.get, List.getD_cons_zero, List.getD_cons_succ, Ls, lenop, List.length_map]; rfl
  rw [pe_asg hl2]
  show ∃ v', pss _ _ (cSt B O T mo mt i o t cs { v with ie := some (IV ie), oe := some (IV O.length), te := some (IV T.length) }) = _
  have hct : pt (callAt fns (k + 1)) (.cmp .lt (.var 11) (.len (.var 0))) (cSt B O T mo mt i o t cs { v with ie := some (IV ie), oe := some (IV O.length), te := some (IV T.length) }) = some (decide (ie < B.length)) := by
    have e1 : decide ((ie : Int) < (B.length : Int)) = decide (ie < B.length) := by simp only [Int.ofNat_lt]
    simp only [ptAnd, ptOr, ptNot, ptCmp, peVar, peInt, peLen, peIdx, peBin, cSt, St.get, List.getD_cons_zero, List.getD_cons_succ, Ls, IV, lenop, List.length_map, cmpop, e1]
  have hif : ∀ ss, pss (callAt fns (k + 1)) (.cons (.ite (.cmp .lt (.var 11) (.len (.var 0))) (.cons (.asg 12 (.idx (.var 3) (.var 11))) (.cons (.asg 13 (.idx (.var 5) (.var 11))) .nil)) .nil) ss) (cSt B O T mo mt i o t cs { v with ie := some (IV ie), oe := some (IV O.length), te := some (IV T.length) }) =
      pss (callAt fns (k + 1)) ss (cSt B O T mo mt i o t cs { v with ie := some (IV ie), oe := some (IV oe), te := some (IV te) }) := fun ss => by
    rcases hend with ⟨hl, e1, e2⟩ | ⟨hl, rfl, rfl⟩
    · refine ite_t (by rw [hct, decide_eq_true hl]) ?_
      have q1 : pe (callAt fns (k + 1)) (.idx (.var 3) (.var 11)) (cSt B O T mo mt i o t cs { v with ie := some (IV ie), oe := some (IV O.length), te := some (IV T.length) }) = some (IV oe) := by
        refine pe_idx (x := .di mo) (y := IV ie) rfl rfl ?_
        simp only [idxop, IV, ho ie, e1, Option.map_some]; rfl
      rw [pe_asg q1]
      show pss _ _ (cSt B O T mo mt i o t cs { v with ie := some (IV ie), oe := some (IV oe), te := some (IV T.length) }) = _
      have q2 : pe (callAt fns (k + 1)) (.idx (.var 5) (.var 11)) (cSt B O T mo mt i o t cs { v with ie := some (IV ie), oe := some (IV oe), te := some (IV T.length) }) = some (IV te) := by
        refine pe_idx (x := .di mt) (y := IV ie) rfl rfl ?_
        simp only [idxop, IV, ht ie, e2, Option.map_some]; rfl
      rw [pe_asg q2]
      rfl
    · exact ite_f (by rw [hct, decide_eq_false hl]) rfl
  rw [hif]
  have s0 : ∀ (a : Nat) (p q : Nat) (X : List Str) (σ : St) (ea ep eq : PE), pe (callAt fns (k + 1)) ea σ = some (Ls X) → pe (callAt fns (k + 1)) ep σ = some (IV p) → pe (callAt fns (k + 1)) eq σ = some (IV q) → pe (callAt fns (k + 1)) (.sl ea ep eq) σ = some (Ls (slN p q X)) := fun a p q X σ ea ep eq h1 h2 h3 =>
    pe_sl h1 h2 h3 (slop_lines X p q)
  have hk : pe (callAt fns (k + 1)) (.call 9 (Str.ofString "chunk_kind") (.cons (.sl (.var 0) (.var 7) (.var 11)) (.cons (.sl (.var 1) (.var 8) (.var 12)) (.cons (.sl (.var 2) (.var 9) (.var 13)) .nil)))) (cSt B O T mo mt i o t cs { v with ie := some (IV ie), oe := some (IV oe), te := some (IV te) }) = some (SV (kindOf (slN i ie B) (slN o oe O) (slN t te T))) := by
    rw [peCall, show pes (callAt fns (k + 1)) (.cons (.sl (.var 0) (.var 7) (.var 11)) (.cons (.sl (.var 1) (.var 8) (.var 12)) (.cons (.sl (.var 2) (.var 9) (.var 13)) .nil))) (cSt B O T mo mt i o t cs { v with ie := some (IV ie), oe := some (IV oe), te := some (IV te) }) = some [Ls (slN i ie B), Ls (slN o oe O), Ls (slN t te T)] from by
      rw [pesC, s0 0 i ie B _ _ _ _ rfl rfl rfl, pesC, s0 0 o oe O _ _ _ _ rfl rfl rfl, pesC, s0 0 t te T _ _ _ _ rfl rfl rfl]
      rfl]
    exact call_kind _ _ _ k
  rw [pe_asg hk]
  refine ⟨{ v with ie := some (IV ie), oe := some (IV oe), te := some (IV te), kd := some (SV (kindOf (slN i ie B) (slN o oe O) (slN t te T))) }, ?_⟩
  show pss _ _ (cSt B O T mo mt i o t cs { v with ie := some (IV ie), oe := some (IV oe), te := some (IV te), kd := some (SV (kindOf (slN i ie B) (slN o oe O) (slN t te T))) }) = _
  rw [st_step (app_ok (xs := cs) rfl (pe_tup4 (x := .str (kindOf (slN i ie B) (slN o oe O) (slN t te T))) rfl (s0 0 i ie B _ _ _ _ rfl rfl rfl) (s0 0 o oe O _ _ _ _ rfl rfl rfl) (s0 0 t te T _ _ _ _ rfl rfl rfl)) hcs)]
  rfl
end
abbrev Gap := List Str × List Str × List Str
abbrev AL := List (Gap × Str)
noncomputable def gE : Gap := ([], [], [])
noncomputable def fB : AL → Gap → List Str
  | [], f => f.1
  | (g, x) :: r, f => g.1 ++ x :: fB r f
noncomputable def fO : AL → Gap → List Str
  | [], f => f.2.1
  | (g, x) :: r, f => g.2.1 ++ x :: fO r f
noncomputable def fT : AL → Gap → List Str
  | [], f => f.2.2
  | (g, x) :: r, f => g.2.2 ++ x :: fT r f
noncomputable def both (lo lt : Nat → Option Nat) (e : Nat) : Prop := (lo e).isSome = true ∧ (lt e).isSome = true
noncomputable def Good (lo lt : Nat → Option Nat) : Nat → Nat → Nat → AL → Gap → Prop
  | i, _, _, [], f => ∀ e, i ≤ e → e < i + f.1.length → ¬ both lo lt e
  | i, o, t, (g, _) :: r, f => (∀ e, i ≤ e → e < i + g.1.length → ¬ both lo lt e) ∧ lo (i + g.1.length) = some (o + g.2.1.length) ∧ lt (i + g.1.length) = some (t + g.2.2.length) ∧
    Good lo lt (i + g.1.length + 1) (o + g.2.1.length + 1) (t + g.2.2.length + 1) r f
noncomputable def m7 : Str := Str.ofString "<<<<<<<"
noncomputable def e7 : Str := Str.ofString "======="
noncomputable def w7 : Str := Str.ofString ">>>>>>>"
noncomputable def lin1 (c : Ch) : List Str := if c.1 = kConf then [m7] ++ c.2.2.1 ++ [e7] ++ c.2.2.2 ++ [w7] else if c.1 = kTheirs then c.2.2.2 else if c.1 = kOurs ∨ c.1 = kBoth then c.2.2.1 else c.2.1
noncomputable def nl : Str := Str.ofString "\n"
noncomputable def closedS (xs : List Str) : Str := if concatStr xs ≠ Str.empty ∧ (concatStr xs).cps.toList.getLast? ≠ some 10 then concatStr xs ++ nl else concatStr xs
noncomputable def con1 (c : Ch) : Str := if c.1 = kConf then Str.ofString "<<<<<<<\n" ++ closedS c.2.2.1 ++ Str.ofString "=======\n" ++ closedS c.2.2.2 ++ Str.ofString ">>>>>>>\n" else concatStr (lin1 c)
noncomputable def linC (cs : List Ch) : List Str := cs.flatMap lin1
noncomputable def cntC (cs : List Ch) : Nat := (cs.filter fun c => decide (c.1 = kConf)).length
noncomputable def conC (cs : List Ch) : Str := concatStr (cs.map con1)
noncomputable def Same (cs cs' : List Ch) : Prop := linC cs = linC cs' ∧ cntC cs = cntC cs' ∧ conC cs = conC cs'
theorem str_assoc (a b c : Str) : a ++ b ++ c = a ++ (b ++ c) := by
  have h : ∀ x y : Str, (x ++ y).cps = x.cps ++ y.cps := fun x y => rfl
  have e : ∀ x y : Str, x.cps = y.cps → x = y := fun x y q => by cases x; cases y; cases q; rfl
  apply e
  rw [h, h, h, h, Array.append_assoc]
theorem str_empty_l (a : Str) : Str.empty ++ a = a := by
  have h : ∀ x y : Str, (x ++ y).cps = x.cps ++ y.cps := fun x y => rfl
  have e : ∀ x y : Str, x.cps = y.cps → x = y := fun x y q => by cases x; cases y; cases q; rfl
  apply e
  rw [h]
  show #[] ++ a.cps = a.cps
  simp
theorem str_empty_r (a : Str) : a ++ Str.empty = a := by
  have h : ∀ x y : Str, (x ++ y).cps = x.cps ++ y.cps := fun x y => rfl
  have e : ∀ x y : Str, x.cps = y.cps → x = y := fun x y q => by cases x; cases y; cases q; rfl
  apply e
  rw [h]
  show a.cps ++ #[] = a.cps
  simp
theorem concat_app : ∀ (xs ys : List Str), concatStr (xs ++ ys) = concatStr xs ++ concatStr ys
  | [], ys => (str_empty_l _).symm
  | x :: xs, ys => by rw [List.cons_append, concatStr, concatStr, concat_app xs ys, str_assoc]
theorem Same.refl (cs : List Ch) : Same cs cs := ⟨rfl, rfl, rfl⟩
theorem Same.app {a a' b b' : List Ch} (h : Same a a') (h' : Same b b') : Same (a ++ b) (a' ++ b') := by
  refine ⟨?_, ?_, ?_⟩
  · unfold linC; rw [List.flatMap_append, List.flatMap_append]; exact congr (congrArg _ h.1) h'.1
  · unfold cntC; rw [List.filter_append, List.filter_append, List.length_append, List.length_append]; exact congr (congrArg _ h.2.1) h'.2.1
  · unfold conC; rw [List.map_append, List.map_append, concat_app, concat_app]; exact congr (congrArg _ h.2.2) h'.2.2
noncomputable def same1 (x : Str) : Ch := (kSame, [x], [x], [x])
noncomputable def difA (g : Gap) : List Ch := if g = gE then [] else [(kindOf g.1 g.2.1 g.2.2, g)]
noncomputable def fine : AL → Gap → List Ch
  | [], f => difA f
  | (g, x) :: r, f => difA g ++ same1 x :: fine r f
theorem lin_same (xs ys zs : List Str) : lin1 (kSame, xs, ys, zs) = xs := by
  unfold lin1
  rw [if_neg (show ¬ kSame = kConf by decide), if_neg (show ¬ kSame = kTheirs by decide), if_neg (show ¬ (kSame = kOurs ∨ kSame = kBoth) by decide)]
theorem con_same (xs ys zs : List Str) : con1 (kSame, xs, ys, zs) = concatStr xs := by
  unfold con1
  rw [if_neg (show ¬ kSame = kConf by decide), lin_same]
theorem same_run (ys zs : List Str) : ∀ (xs : List Str), Same [(kSame, xs, ys, zs)] (xs.map same1) := by
  intro xs
  refine ⟨?_, ?_, ?_⟩
  · unfold linC
    rw [List.flatMap_cons, List.flatMap_nil, List.append_nil, lin_same]
    induction xs with
    | nil => rfl
    | cons x xs ih => rw [List.map_cons, List.flatMap_cons, ← ih, same1, lin_same]; rfl
  · unfold cntC
    rw [List.filter_cons, if_neg (show ¬ decide (kSame = kConf) = true by decide)]
    induction xs with
    | nil => rfl
    | cons x xs ih => rw [List.map_cons, List.filter_cons, if_neg (show ¬ decide ((same1 x).1 = kConf) = true from (show ¬ decide (kSame = kConf) = true by decide))]; exact ih
  · unfold conC
    rw [List.map_cons, List.map_nil, con_same, concatStr, concatStr, str_empty_r]
    induction xs with
    | nil => rfl
    | cons x xs ih => rw [List.map_cons, List.map_cons, concatStr, concatStr, ← ih, same1, con_same, concatStr, concatStr, str_empty_r]
noncomputable def hg : AL → Gap → Nat
  | [], f => if f = gE then 0 else 1
  | (g, _) :: _, _ => if g = gE then 0 else 1
theorem al_span : ∀ (al : AL), ∃ (xs : List Str) (al2 : AL), al = xs.map (fun x => (gE, x)) ++ al2 ∧ (∀ g x r, al2 = (g, x) :: r → g ≠ gE)
  | [] => ⟨[], [], rfl, fun Z Z Z q => by cases q⟩
  | (g, x) :: r => by
    by_cases h : g = gE
    · refine ea_2_2 (al_span r) fun xs al2 e h2 => ?_
      exact ⟨x :: xs, al2, by rw [h, e]; rfl, h2⟩
    · exact ⟨[], (g, x) :: r, rfl, fun g' x' r' q => by cases q; exact h⟩
theorem fB_app (f : Gap) : ∀ (xs : List Str) (al : AL), fB (xs.map (fun x => (gE, x)) ++ al) f = xs ++ fB al f
  | [], al => rfl
  | x :: xs, al => by rw [List.map_cons, List.cons_append, fB, fB_app f xs al]; rfl
theorem fO_app (f : Gap) : ∀ (xs : List Str) (al : AL), fO (xs.map (fun x => (gE, x)) ++ al) f = xs ++ fO al f
  | [], al => rfl
  | x :: xs, al => by rw [List.map_cons, List.cons_append, fO, fO_app f xs al]; rfl
theorem fT_app (f : Gap) : ∀ (xs : List Str) (al : AL), fT (xs.map (fun x => (gE, x)) ++ al) f = xs ++ fT al f
  | [], al => rfl
  | x :: xs, al => by rw [List.map_cons, List.cons_append, fT, fT_app f xs al]; rfl
theorem fine_app (f : Gap) : ∀ (xs : List Str) (al : AL), fine (xs.map (fun x => (gE, x)) ++ al) f = xs.map same1 ++ fine al f
  | [], al => rfl
  | x :: xs, al => by rw [List.map_cons, List.cons_append, fine, fine_app f xs al, difA, if_pos rfl]; rfl
section
variable {lo lt : Nat → Option Nat}
theorem good_app (f : Gap) : ∀ (xs : List Str) (al : AL) (i o t : Nat), Good lo lt i o t (xs.map (fun x => (gE, x)) ++ al) f → (∀ n, n < xs.length → lo (i + n) = some (o + n) ∧ lt (i + n) = some (t + n)) ∧ Good lo lt (i + xs.length) (o + xs.length) (t + xs.length) al f
  | [], al, i, o, t, h => ⟨fun n hn => by simp at hn, h⟩
  | x :: xs, al, i, o, t, h => by
    rw [List.map_cons, List.cons_append, Good] at h
    refine ea_0_4 (h) fun Z h1 h2 h3 => ?_
    simp only [gE, List.length_nil, Nat.add_zero] at h1 h2 h3
    refine ea_0_2 (good_app f xs al (i + 1) (o + 1) (t + 1) h3) fun ih1 ih2 => ?_
    refine ⟨fun n hn => ?_, ?_⟩
    · cases n with
      | zero => exact ⟨h1, h2⟩
      | succ n =>
        have := ih1 n (by simpa using hn)
        rw [show i + 1 + n = i + (n + 1) by lia, show o + 1 + n = o + (n + 1) by lia, show t + 1 + n = t + (n + 1) by lia] at this
        exact this
    · rw [List.length_cons, show i + (xs.length + 1) = i + 1 + xs.length by lia, show o + (xs.length + 1) = o + 1 + xs.length by lia, show t + (xs.length + 1) = t + 1 + xs.length by lia]
      exact ih2
theorem good_stop {B PB : List Str} {al : AL} {f : Gap} {i o t : Nat} (hB : B = PB ++ fB al f) (hi : PB.length = i) (h : Good lo lt i o t al f) (hne : ∀ g x r, al = (g, x) :: r → g ≠ gE) : ¬ (i < B.length ∧ lo i = some o ∧ lt i = some t) := by
  rintro ⟨h1, h2, h3⟩
  have hb : both lo lt i := ⟨by rw [h2]; rfl, by rw [h3]; rfl⟩
  cases al with
  | nil =>
    rw [hB, List.length_append, fB] at h1
    exact h i (Nat.le_refl _) (by lia) hb
  | cons gx r =>
    obtain ⟨g, x⟩ := gx
    refine ea_0_4 (h) fun q1 q2 q3 Z => ?_
    by_cases hl : g.1.length = 0
    · rw [hl, Nat.add_zero, h2] at q2
      rw [hl, Nat.add_zero, h3] at q3
      have e2 : g.2.1.length = 0 := by have := Option.some.inj q2; lia
      have e3 : g.2.2.length = 0 := by have := Option.some.inj q3; lia
      refine hne g x r rfl ?_
      obtain ⟨g1, g2, g3⟩ := g
      simp only [List.length_eq_zero_iff] at hl e2 e3
      rw [hl, e2, e3]; rfl
    · exact q1 i (Nat.le_refl _) (by lia) hb
end
theorem mid_slice {α : Type} {P M R : List α} {i j : Nat} (hi : P.length = i) (hj : i + M.length = j) : slN i j (P ++ (M ++ R)) = M := by
  subst hi; subst hj
  have := slN_right (i := 0) (p := M.length) (a1 := P) (a2 := M ++ R)
  rw [Nat.add_zero] at this
  rw [this, slN_left (Nat.le_refl _)]
  unfold slN; simp
theorem chunk_loop (k : Nat) {B O T : List Str} {mo mt : List (Int × Int)} {lo lt : Nat → Option Nat} (ho : Lk mo lo) (ht : Lk mt lt) (hBl : B.length < lim) : ∀ (fuel : Nat) (al : AL) (f : Gap) (PB PO PT : List Str) (i o t : Nat) (cs : List PyData) (v : CV),
    PB.length = i → PO.length = o → PT.length = t → B = PB ++ fB al f → O = PO ++ fO al f → T = PT ++ fT al f → Good lo lt i o t al f → 2 * al.length + hg al f < fuel → cs.length + (2 * al.length + hg al f) < lim →
    ∃ (cs' : List Ch) (v' : CV), whileO (pt (callAt fns (k + 1)) cTest) (pss (callAt fns (k + 1)) cBody) fuel (cSt B O T mo mt i o t cs v) = some (cSt B O T mo mt B.length O.length T.length (cs ++ cs'.map chD) v', Option.none) ∧ Same cs' (fine al f) ∧ cs'.length ≤ 2 * al.length + hg al f ∧ ∀ c ∈ cs', c.2.1.length ≤ B.length ∧ c.2.2.1.length ≤ O.length ∧ c.2.2.2.length ≤ T.length := by
  intro fuel
  induction fuel with
  | zero => intro al f PB PO PT i o t cs v _ _ _ _ _ _ _ h; lia
  | succ fuel ih =>
    intro al f PB PO PT i o t cs v hPB hPO hPT hB hO hT hgood hfuel hcs
    rw [whileO, cTest_ok]
    refine ea_2_2 (al_span al) fun xs al2 hal hne => ?_
    have lB : B.length = i + (fB al f).length := by rw [hB, List.length_append, hPB]
    have lO : O.length = o + (fO al f).length := by rw [hO, List.length_append, hPO]
    have lT : T.length = t + (fT al f).length := by rw [hT, List.length_append, hPT]
    by_cases hex : i < B.length ∨ o < O.length ∨ t < T.length
    · simp only [hex, decide_true]
      have hga := hgood
      rw [hal] at hga
      refine ea_0_2 (good_app f xs al2 i o t hga) fun g1 g2 => ?_
      have bB : B = (PB ++ xs) ++ fB al2 f := by rw [hB, hal, fB_app, List.append_assoc]
      have bO : O = (PO ++ xs) ++ fO al2 f := by rw [hO, hal, fO_app, List.append_assoc]
      have bT : T = (PT ++ xs) ++ fT al2 f := by rw [hT, hal, fT_app, List.append_assoc]
      have hxl : i + xs.length ≤ B.length := by rw [bB, List.length_append, List.length_append, hPB]; lia
      have hstop := good_stop (PB := PB ++ xs) bB (by rw [List.length_append, hPB]) g2 hne
      have hloop := nLoop (B := B) (O := O) (T := T) (i := i) (o := o) (t := t) (cs := cs) (v := v) (callAt fns (k + 1)) ho ht (m := xs.length) (by lia) (fun n hn => ⟨by lia, g1 n hn⟩) hstop
      have hset : (cSt B O T mo mt i o t cs v).set 10 (.d (.int 0)) = cSt B O T mo mt i o t cs { v with n := some (IV 0) } := rfl
      have hbody : ∀ (i' o' t' : Nat) (c : PyData) (v' : CV), (xs.length > 0 → pss (callAt fns (k + 1)) cSame (cSt B O T mo mt i o t cs { v with n := some (IV xs.length) }) = some (cSt B O T mo mt i' o' t' (cs ++ [c]) v', Option.none)) →
          (xs.length = 0 → pss (callAt fns (k + 1)) cDif (cSt B O T mo mt i o t cs { v with n := some (IV xs.length) }) = some (cSt B O T mo mt i' o' t' (cs ++ [c]) v', Option.none)) →
          pss (callAt fns (k + 1)) cBody (cSt B O T mo mt i o t cs v) = some (cSt B O T mo mt i' o' t' (cs ++ [c]) v', Option.none) := by
        intro i' o' t' c v' h1 h2
        unfold cBody
        rw [pe_asg (p := .d (.int 0)) rfl, hset, st_step hloop]
        have hgt : pt (callAt fns (k + 1)) (.cmp .gt (.var 10) (.int 0)) (cSt B O T mo mt i o t cs { v with n := some (IV xs.length) }) = some (decide ((xs.length : Int) > 0)) := rfl
        by_cases hx : xs.length > 0
        · rw [ite_t (by rw [hgt, decide_eq_true (by lia)]) (h1 hx)]; rfl
        · rw [ite_f (by rw [hgt, decide_eq_false (by lia)]) (h2 (by lia))]; rfl
      have hlim : lim = 1000000 := rfl
      by_cases hx : xs.length > 0
      · -- lines that all three share
        have hsame := same_ok (B := B) (O := O) (T := T) (mo := mo) (mt := mt) (i := i) (o := o) (t := t) (cs := cs) (v := v) (callAt fns (k + 1)) (m := xs.length) (by lia)
        have s1 : slN i (i + xs.length) B = xs := by rw [bB, List.append_assoc]; exact mid_slice hPB rfl
        have s2 : slN o (o + xs.length) O = xs := by rw [bO, List.append_assoc]; exact mid_slice hPO rfl
        have s3 : slN t (t + xs.length) T = xs := by rw [bT, List.append_assoc]; exact mid_slice hPT rfl
        rw [s1, s2, s3] at hsame
        rw [hbody _ _ _ _ _ (fun Z => hsame) (fun q => by lia)]
        dsimp only
        have hall : al.length = xs.length + al2.length := by rw [hal, List.length_append, List.length_map]
        have hhg : hg al2 f ≤ 1 := by unfold hg; split <;> split <;> lia
        obtain ⟨cs', v', ih1, ih2, ih3, ih4⟩ := ih al2 f (PB ++ xs) (PO ++ xs) (PT ++ xs) (i + xs.length) (o + xs.length) (t + xs.length) (cs ++ [chD (kSame, xs, xs, xs)]) { v with n := some (IV xs.length) }
          (by rw [List.length_append, hPB]) (by rw [List.length_append, hPO]) (by rw [List.length_append, hPT]) bB bO bT g2 (by lia) (by simp; lia)
        have hxO : xs.length ≤ O.length := by rw [bO, List.length_append, List.length_append]; lia
        have hxT : xs.length ≤ T.length := by rw [bT, List.length_append, List.length_append]; lia
        refine ⟨(kSame, xs, xs, xs) :: cs', v', ?_, ?_, by rw [List.length_cons]; lia, fun c hc => (List.mem_cons.mp hc).elim (fun q => by rw [q]; exact ⟨by dsimp only; lia, hxO, hxT⟩) (ih4 c)⟩
        · rw [ih1]; simp
        · rw [hal, fine_app]
          exact (same_run xs xs xs).app ih2
      · -- lines that differ
        have hxn : xs = [] := List.length_eq_zero_iff.mp (by lia)
        subst hxn
        rw [List.map_nil, List.nil_append] at hal
        subst hal
        cases al with
        | nil =>
          have hfne : f ≠ gE := fun q => by
            subst q
            simp only [fB, fO, fT, gE, List.length_nil, Nat.add_zero] at lB lO lT
            lia
          obtain ⟨v', hd⟩ := dif_ok (B := B) (O := O) (T := T) (i := i) (o := o) (t := t) (cs := cs) (v := { v with n := some (IV 0) }) k ho ht (ie := B.length) (oe := O.length) (te := T.length) (by lia) hBl
            (fun e he1 he2 => ⟨he2, fun q => hgood e he1 (by rw [fB] at lB; lia) q⟩) (fun q => Nat.lt_irrefl _ q.1) (.inr ⟨Nat.lt_irrefl _, rfl, rfl⟩) (by lia)
          have s1 : slN i B.length B = f.1 := by
            have := mid_slice (P := PB) (M := f.1) (R := []) (i := i) (j := B.length) hPB (by rw [fB] at lB; lia)
            rw [List.append_nil] at this
            conv => lhs; arg 3; rw [hB, fB]
            exact this
          have s2 : slN o O.length O = f.2.1 := by
            have := mid_slice (P := PO) (M := f.2.1) (R := []) (i := o) (j := O.length) hPO (by rw [fO] at lO; lia)
            rw [List.append_nil] at this
            conv => lhs; arg 3; rw [hO, fO]
            exact this
          have s3 : slN t T.length T = f.2.2 := by
            have := mid_slice (P := PT) (M := f.2.2) (R := []) (i := t) (j := T.length) hPT (by rw [fT] at lT; lia)
            rw [List.append_nil] at this
            conv => lhs; arg 3; rw [hT, fT]
            exact this
          rw [s1, s2, s3] at hd
          rw [hbody _ _ _ _ _ (fun q => absurd q (by simp)) (fun Z => hd)]
          dsimp only
          have hh : hg [] f = 1 := if_neg hfne
          obtain ⟨cs', v'', ih1, ih2, ih3, ih4⟩ := ih [] gE B O T B.length O.length T.length (cs ++ [chD (kindOf f.1 f.2.1 f.2.2, f.1, f.2.1, f.2.2)]) v' rfl rfl rfl (by simp [fB, gE]) (by simp [fO, gE]) (by simp [fT, gE])
            (fun e h1 h2 => by simp [gE] at h2; lia) (by rw [hh] at hfuel; simp [hg] at hfuel ⊢; lia) (by rw [hh] at hcs; simp [hg] at hcs ⊢; lia)
          refine ⟨(kindOf f.1 f.2.1 f.2.2, f) :: cs', v'', ?_, ?_, by rw [List.length_cons, hh]; simp [hg] at ih3 ⊢; exact ih3, fun c hc => (List.mem_cons.mp hc).elim (fun q => by rw [q]; rw [fB] at lB; rw [fO] at lO; rw [fT] at lT; exact ⟨by dsimp only; lia, by dsimp only; lia, by dsimp only; lia⟩) (ih4 c)⟩
          · rw [ih1]; simp
          · have e : fine [] f = [(kindOf f.1 f.2.1 f.2.2, f)] ++ fine [] gE := by
              rw [fine, fine, difA, difA, if_neg hfne, if_pos rfl]; rfl
            rw [e]
            exact (Same.refl [(kindOf f.1 f.2.1 f.2.2, f)]).app ih2
        | cons gx r =>
          obtain ⟨g, x⟩ := gx
          have hgne : g ≠ gE := hne g x r rfl
          refine ea_0_4 (hgood) fun q1 q2 q3 q4 => ?_
          rw [fB] at hB lB
          rw [fO] at hO lO
          rw [fT] at hT lT
          simp only [List.length_append, List.length_cons] at lB lO lT
          obtain ⟨v', hd⟩ := dif_ok (B := B) (O := O) (T := T) (i := i) (o := o) (t := t) (cs := cs) (v := { v with n := some (IV 0) }) k ho ht (ie := i + g.1.length) (oe := o + g.2.1.length) (te := t + g.2.2.length) (by lia) (by lia)
            (fun e he1 he2 => ⟨by lia, fun q => q1 e he1 he2 q⟩) (fun q => q.2 ⟨by rw [q2]; rfl, by rw [q3]; rfl⟩) (.inl ⟨by lia, q2, q3⟩) (by lia)
          have s1 : slN i (i + g.1.length) B = g.1 := by rw [hB]; exact mid_slice hPB rfl
          have s2 : slN o (o + g.2.1.length) O = g.2.1 := by rw [hO]; exact mid_slice hPO rfl
          have s3 : slN t (t + g.2.2.length) T = g.2.2 := by rw [hT]; exact mid_slice hPT rfl
          rw [s1, s2, s3] at hd
          rw [hbody _ _ _ _ _ (fun q => absurd q (by simp)) (fun Z => hd)]
          dsimp only
          have hh : hg ((g, x) :: r) f = 1 := if_neg hgne
          have hh' : hg ((gE, x) :: r) f = 0 := by
            show (if gE = gE then 0 else 1) = 0
            rw [if_pos rfl]
          have hgood' : Good lo lt (i + g.1.length) (o + g.2.1.length) (t + g.2.2.length) ((gE, x) :: r) f :=
            ⟨fun e h1 h2 => by simp [gE] at h2; lia, q2, q3, q4⟩
          rw [List.length_cons, hh] at hfuel hcs
          obtain ⟨cs', v'', ih1, ih2, ih3, ih4⟩ := ih ((gE, x) :: r) f (PB ++ g.1) (PO ++ g.2.1) (PT ++ g.2.2) (i + g.1.length) (o + g.2.1.length) (t + g.2.2.length) (cs ++ [chD (kindOf g.1 g.2.1 g.2.2, g.1, g.2.1, g.2.2)]) v'
            (by rw [List.length_append, hPB]) (by rw [List.length_append, hPO]) (by rw [List.length_append, hPT]) (by rw [hB, fB]; simp [gE]) (by rw [hO, fO]; simp [gE]) (by rw [hT, fT]; simp [gE]) hgood'
            (by rw [List.length_cons, hh']; lia) (by rw [List.length_append, List.length_cons, hh', List.length_cons, List.length_nil]; lia)
          refine ⟨(kindOf g.1 g.2.1 g.2.2, g) :: cs', v'', ?_, ?_, by rw [List.length_cons, hh'] at ih3; rw [List.length_cons, List.length_cons, hh]; lia, fun c hc => (List.mem_cons.mp hc).elim (fun q => by rw [q]; exact ⟨by dsimp only; lia, by dsimp only; lia, by dsimp only; lia⟩) (ih4 c)⟩
          · rw [ih1]; simp
          · have e : fine ((g, x) :: r) f = [(kindOf g.1 g.2.1 g.2.2, g)] ++ fine ((gE, x) :: r) f := by
              rw [fine, fine, difA, difA, if_neg hgne, if_pos rfl]; rfl
            rw [e]
            exact (Same.refl [(kindOf g.1 g.2.1 g.2.2, g)]).app ih2
    · simp only [hex, decide_false]
      have h1 : (fB al f).length = 0 := by lia
      have h2 : (fO al f).length = 0 := by lia
      have h3 : (fT al f).length = 0 := by lia
      cases al with
      | cons gx r => rw [fB] at h1; simp at h1
      | nil =>
        have hf : f = gE := by
          obtain ⟨f1, f2, f3⟩ := f
          simp only [fB, fO, fT, List.length_eq_zero_iff] at h1 h2 h3
          rw [h1, h2, h3]; rfl
        refine ⟨[], v, ?_, ?_, Nat.zero_le _, fun c hc => by simp at hc⟩
        · have e1 : B.length = i := by lia
          have e2 : O.length = o := by lia
          have e3 : T.length = t := by lia
          rw [e1, e2, e3]; simp
        · rw [hf, fine, difA, if_pos rfl]
          exact Same.refl _
noncomputable def cst (p : Nat × Nat) : Int × Int := ((p.1 : Int), (p.2 : Int))
noncomputable def look (ms : List (Nat × Nat)) (x : Nat) : Option Nat := ms.reverse.lookup x
theorem lookup_cst : ∀ (l : List (Nat × Nat)) (x : Nat), (l.map cst).lookup (x : Int) = (l.lookup x).map Int.ofNat
  | [], x => rfl
  | (p, q) :: l, x => by
    rw [List.map_cons, cst, List.lookup_cons, List.lookup_cons]
    have e : ((x : Int) == (p : Int)) = (x == p) := by
      by_cases h : x = p
      · subst h; simp
      · have h' : ¬ ((x : Int) = (p : Int)) := by lia
        rw [beq_eq_false_iff_ne.mpr h, beq_eq_false_iff_ne.mpr h']
    dsimp only
    rw [e]
    cases x == p
    · exact lookup_cst l x
    · rfl
theorem lk_look (ms : List (Nat × Nat)) : Lk (ms.map cst).reverse (look ms) := fun x => by
  rw [← List.map_reverse]; exact lookup_cst _ x
theorem set_get4 (vars : List (Option PV)) (u : Option PV) (h : 4 < vars.length) : (vars.set 4 u).getD 4 Option.none = u := by
  rw [List.getD_eq_getElem?_getD, List.getElem?_set_self h]; rfl
theorem dict_loop (C : Nat → List PV → Option PV) {i : Nat} (hi : i ≠ 4) : ∀ (ms : List (Nat × Nat)) (vars : List (Option PV)) (m : List (Int × Int)), 4 < vars.length → m.length + ms.length ≤ lim →
    ∃ u, forO (fun x σ => pss C (.cons (.put i (.idx (.var 4) (.int 0)) (.idx (.var 4) (.int 1))) .nil) (σ.set 4 (.d x))) (ms.map pairD) ⟨vars, some (i, .dict m)⟩ = some (⟨vars.set 4 u, some (i, .dict ((ms.map cst).reverse ++ m))⟩, Option.none)
  | [], vars, m, hv, _ => ⟨vars.getD 4 Option.none, by
      rw [List.getD_eq_getElem?_getD, List.getElem?_eq_getElem hv, Option.getD_some, List.set_getElem_self]
      rfl⟩
  | (p, q) :: ms, vars, m, hv, hl => by
    have hset : (⟨vars, some (i, .dict m)⟩ : St).set 4 (.d (pairD (p, q))) = ⟨vars.set 4 (some (.d (pairD (p, q)))), some (i, .dict m)⟩ := by
      simp only [St.set]; rw [if_neg hi]
    have g4 : (⟨vars.set 4 (some (.d (pairD (p, q)))), some (i, .dict m)⟩ : St).get 4 = some (.d (pairD (p, q))) := set_get4 vars _ hv
    have h0 : pe C (.idx (.var 4) (.int 0)) ⟨vars.set 4 (some (.d (pairD (p, q)))), some (i, .dict m)⟩ = some (IV p) := pe_idx (x := .d (pairD (p, q))) (y := .d (.int 0)) g4 rfl rfl
    have h1 : pe C (.idx (.var 4) (.int 1)) ⟨vars.set 4 (some (.d (pairD (p, q)))), some (i, .dict m)⟩ = some (IV q) := pe_idx (x := .d (pairD (p, q))) (y := .d (.int 1)) g4 rfl rfl
    rw [List.length_cons] at hl
    have hb : pss C (.cons (.put i (.idx (.var 4) (.int 0)) (.idx (.var 4) (.int 1))) .nil) ⟨vars.set 4 (some (.d (pairD (p, q)))), some (i, .dict m)⟩ = some (⟨vars.set 4 (some (.d (pairD (p, q)))), some (i, .dict (cst (p, q) :: m))⟩, Option.none) := by
      rw [pssC, psPut, h0, h1]
      simp only [IV]
      rw [if_pos ⟨trivial, by lia⟩]
      rfl
    obtain ⟨u, ih⟩ := dict_loop C hi ms (vars.set 4 (some (.d (pairD (p, q))))) (cst (p, q) :: m) (by rw [List.length_set]; exact hv) (by rw [List.length_cons]; lia)
    refine ⟨u, ?_⟩
    rw [List.map_cons, forO, hset, hb]
    dsimp only
    rw [ih, List.set_set]
    simp
theorem pes2 {C : Nat → List PV → Option PV} {a b : PE} {σ : St} {x y : PV} (h1 : pe C a σ = some x) (h2 : pe C b σ = some y) : pes C (.cons a (.cons b .nil)) σ = some [x, y] := by
  rw [pesC, h1, pesC, h2, pesN]
theorem pe_var {C : Nat → List PV → Option PV} {i : Nat} {σ : St} {x : PV} (h : σ.get i = some x) : pe C (.var i) σ = some x := h
theorem pit_call {C : Nat → List PV → Option PV} {f : Nat} {n : Str} {args : PEs} {σ : St} {vs : List PV} {xs : List PyData} (h1 : pes C args σ = some vs) (h2 : C f vs = some (.d (.list xs))) : pit C (.call f n args) σ = some xs := by
  rw [pitCall, h1]; dsimp only; rw [h2]
theorem pe_call {C : Nat → List PV → Option PV} {f : Nat} {n : Str} {args : PEs} {σ : St} {vs : List PV} {p : PV} (h1 : pes C args σ = some vs) (h2 : C f vs = some p) : pe C (.call f n args) σ = some p := by
  rw [peCall, h1]; exact h2
theorem matches_pit {a b : List Str} {i j : Nat} {n : Str} {σ : St} {k : Nat} (h0 : σ.get i = some (Ls a)) (h1 : σ.get j = some (Ls b)) (hl : a.length + b.length + 2 ≤ lim) : pit (callAt fns (k + 2)) (.call 2 n (.cons (.var i) (.cons (.var j) .nil))) σ = some ((walkL a 0 0 b).map pairD) :=
  pit_call (pes2 (pe_var h0) (pe_var h1)) (call_matches hl k)
theorem al_len : ∀ (al : AL) (f : Gap), al.length ≤ (fB al f).length
  | [], f => Nat.zero_le _
  | (g, x) :: r, f => by
    have := al_len r f
    rw [fB]; simp only [List.length_append, List.length_cons]; lia
theorem call_chunks {B O T : List Str} {al : AL} {f : Gap} (hB : B = fB al f) (hO : O = fO al f) (hT : T = fT al f) (hgood : Good (look (walkL B 0 0 O)) (look (walkL B 0 0 T)) 0 0 0 al f)
    (lB : B.length ≤ 1000) (lO : O.length ≤ 1000) (lT : T.length ≤ 1000) (k : Nat) : ∃ cs : List Ch, callAt fns (k + 3) 10 [Ls B, Ls O, Ls T] = some (.d (.list (cs.map chD))) ∧ Same cs (fine al f) ∧ cs.length ≤ 3000 ∧ ∀ c ∈ cs, c.2.1.length ≤ 1000 ∧ c.2.2.1.length ≤ 1000 ∧ c.2.2.2.length ≤ 1000 := by
  have hlim : lim = 1000000 := rfl
  have hw1 := walk_len B 0 0 O
  have hw2 := walk_len B 0 0 T
  have hall := al_len al f
  rw [← hB] at hall
  have hhg : hg al f ≤ 1 := by unfold hg; split <;> split <;> lia
  obtain ⟨u1, hd1⟩ := dict_loop (callAt fns (k + 2)) (i := 3) (by decide) (walkL B 0 0 O) [some (Ls B), some (Ls O), some (Ls T), Option.none, Option.none, Option.none, Option.none, Option.none, Option.none, Option.none, Option.none, Option.none, Option.none, Option.none, Option.none] [] (by simp) (by simp; lia)
  obtain ⟨u2, hd2⟩ := dict_loop (callAt fns (k + 2)) (i := 5) (by decide) (walkL B 0 0 T) [some (Ls B), some (Ls O), some (Ls T), some (.di ((walkL B 0 0 O).map cst).reverse), u1, Option.none, Option.none, Option.none, Option.none, Option.none, Option.none, Option.none, Option.none, Option.none, Option.none] [] (by simp) (by simp; lia)
  obtain ⟨cs, v', hloop, hsame, hcl, hcb⟩ := chunk_loop (k + 1) (B := B) (O := O) (T := T) (lk_look (walkL B 0 0 O)) (lk_look (walkL B 0 0 T)) (by lia) lim al f [] [] [] 0 0 0 [] ⟨u2, Option.none, Option.none, Option.none, Option.none, Option.none⟩ rfl rfl rfl (by simpa using hB) (by simpa using hO) (by simpa using hT) hgood (by lia) (by simp; lia)
  refine ⟨cs, ?_, hsame, by lia, fun c hc => by have := hcb c hc; lia⟩
  refine call_of (fn := f_chunks_of) (σ' := ⟨(cSt B O T ((walkL B 0 0 O).map cst).reverse ((walkL B 0 0 T).map cst).reverse B.length O.length T.length [] v').vars.set 6 (some (.d (.list (cs.map chD)))), Option.none⟩) rfl rfl ?_
  show pss (callAt fns (k + 2)) b_chunks_of ⟨[some (Ls B), some (Ls O), some (Ls T), Option.none, Option.none, Option.none, Option.none, Option.none, Option.none, Option.none, Option.none, Option.none, Option.none, Option.none, Option.none], Option.none⟩ = _
  have hbo : B.length + O.length + 2 ≤ lim := by lia
  have hbt : B.length + T.length + 2 ≤ lim := by lia
  unfold b_chunks_of
  rw [st_step (σ' := ⟨[some (Ls B), some (Ls O), some (Ls T), Option.none, Option.none, Option.none, Option.none, Option.none, Option.none, Option.none, Option.none, Option.none, Option.none, Option.none, Option.none], some (3, .dict [])⟩) rfl]
  rw [st_step (by rw [psFor, matches_pit (a := B) (b := O) rfl rfl hbo]; exact hd1)]
  rw [st_step (σ' := ⟨[some (Ls B), some (Ls O), some (Ls T), some (.di ((walkL B 0 0 O).map cst).reverse), u1, Option.none, Option.none, Option.none, Option.none, Option.none, Option.none, Option.none, Option.none, Option.none, Option.none], Option.none⟩) (by rw [List.append_nil]; rfl)]
  rw [st_step (σ' := ⟨[some (Ls B), some (Ls O), some (Ls T), some (.di ((walkL B 0 0 O).map cst).reverse), u1, Option.none, Option.none, Option.none, Option.none, Option.none, Option.none, Option.none, Option.none, Option.none, Option.none], some (5, .dict [])⟩) rfl]
  rw [st_step (by rw [psFor, matches_pit (a := B) (b := T) rfl rfl hbt]; exact hd2)]
  rw [st_step (σ' := ⟨[some (Ls B), some (Ls O), some (Ls T), some (.di ((walkL B 0 0 O).map cst).reverse), u2, some (.di ((walkL B 0 0 T).map cst).reverse), Option.none, Option.none, Option.none, Option.none, Option.none, Option.none, Option.none, Option.none, Option.none], Option.none⟩) (by rw [List.append_nil]; rfl)]
  rw [st_step (σ' := ⟨[some (Ls B), some (Ls O), some (Ls T), some (.di ((walkL B 0 0 O).map cst).reverse), u2, some (.di ((walkL B 0 0 T).map cst).reverse), Option.none, Option.none, Option.none, Option.none, Option.none, Option.none, Option.none, Option.none, Option.none], some (6, .lst [])⟩) rfl]
  rw [pe_asg (p := IV 0) rfl, pe_asg (p := IV 0) rfl, pe_asg (p := IV 0) rfl]
  show pss (callAt fns (k + 2)) _ (cSt B O T ((walkL B 0 0 O).map cst).reverse ((walkL B 0 0 T).map cst).reverse 0 0 0 [] ⟨u2, Option.none, Option.none, Option.none, Option.none, Option.none⟩) = _
  have hl' := hloop
  unfold cTest cBody cSame cDif nTest nBody eTest eBody at hl'
  rw [st_step (by rw [psWhl]; exact hl')]
  rfl
noncomputable def glue (al : AL) (f : Gap) (r : Str) (k : Nat) (al' : AL) : AL := al ++ (f, r) :: ((List.replicate k r).map (fun x => (gE, x)) ++ al')
theorem fB_glue (r : Str) (k : Nat) (al' : AL) (f' : Gap) : ∀ (al : AL) (f : Gap), fB (glue al f r k al') f' = fB al f ++ (List.replicate (k + 1) r ++ fB al' f')
  | [], f => by
    unfold glue
    show f.1 ++ r :: fB ((List.replicate k r).map (fun x => (gE, x)) ++ al') f' = f.1 ++ (List.replicate (k + 1) r ++ fB al' f')
    rw [fB_app, List.replicate_succ]; rfl
  | (g, x) :: al, f => by
    have := fB_glue r k al' f' al f
    unfold glue at this ⊢
    rw [List.cons_append, fB, this, fB]
    simp only [List.append_assoc, List.cons_append]
theorem fO_glue (r : Str) (k : Nat) (al' : AL) (f' : Gap) : ∀ (al : AL) (f : Gap), fO (glue al f r k al') f' = fO al f ++ (List.replicate (k + 1) r ++ fO al' f')
  | [], f => by
    unfold glue
    show f.2.1 ++ r :: fO ((List.replicate k r).map (fun x => (gE, x)) ++ al') f' = f.2.1 ++ (List.replicate (k + 1) r ++ fO al' f')
    rw [fO_app, List.replicate_succ]; rfl
  | (g, x) :: al, f => by
    have := fO_glue r k al' f' al f
    unfold glue at this ⊢
    rw [List.cons_append, fO, this, fO]
    simp only [List.append_assoc, List.cons_append]
theorem fT_glue (r : Str) (k : Nat) (al' : AL) (f' : Gap) : ∀ (al : AL) (f : Gap), fT (glue al f r k al') f' = fT al f ++ (List.replicate (k + 1) r ++ fT al' f')
  | [], f => by
    unfold glue
    show f.2.2 ++ r :: fT ((List.replicate k r).map (fun x => (gE, x)) ++ al') f' = f.2.2 ++ (List.replicate (k + 1) r ++ fT al' f')
    rw [fT_app, List.replicate_succ]; rfl
  | (g, x) :: al, f => by
    have := fT_glue r k al' f' al f
    unfold glue at this ⊢
    rw [List.cons_append, fT, this, fT]
    simp only [List.append_assoc, List.cons_append]
theorem fine_glue (r : Str) (k : Nat) (al' : AL) (f' : Gap) : ∀ (al : AL) (f : Gap), fine (glue al f r k al') f' = fine al f ++ ((List.replicate (k + 1) r).map same1 ++ fine al' f')
  | [], f => by
    unfold glue
    show difA f ++ same1 r :: fine ((List.replicate k r).map (fun x => (gE, x)) ++ al') f' = difA f ++ ((List.replicate (k + 1) r).map same1 ++ fine al' f')
    rw [fine_app, List.replicate_succ]; rfl
  | (g, x) :: al, f => by
    have := fine_glue r k al' f' al f
    unfold glue at this ⊢
    rw [List.cons_append, fine, this, fine]
    simp only [List.append_assoc, List.cons_append]
section
variable {lo lt lo0 lt0 : Nat → Option Nat}
theorem good_before {r : Str} {rest : AL} {f' : Gap} : ∀ (al : AL) (f : Gap) (i o t : Nat), Good lo0 lt0 i o t al f → (∀ e, e < i + (fB al f).length → lo e = lo0 e ∧ lt e = lt0 e) →
    lo (i + (fB al f).length) = some (o + (fO al f).length) → lt (i + (fB al f).length) = some (t + (fT al f).length) → Good lo lt (i + (fB al f).length + 1) (o + (fO al f).length + 1) (t + (fT al f).length + 1) rest f' →
    Good lo lt i o t (al ++ (f, r) :: rest) f'
  | [], f, i, o, t, h, ha, h1, h2, h3 => by
    refine ⟨fun e he1 he2 q => ?_, h1, h2, h3⟩
    refine h e he1 he2 ?_
    refine ea_0_2 (q) fun q1 q2 => ?_
    obtain ⟨a1, a2⟩ := ha e (by rw [fB]; exact he2)
    exact ⟨a1 ▸ q1, a2 ▸ q2⟩
  | (g, x) :: al, f, i, o, t, h, ha, h1, h2, h3 => by
    refine ea_0_4 (h) fun g1 g2 g3 g4 => ?_
    rw [fB] at ha h1 h2 h3
    rw [fO] at h1 h3
    rw [fT] at h2 h3
    simp only [List.length_append, List.length_cons] at ha h1 h2 h3
    refine ea_0_2 (ha (i + g.1.length) (by lia)) fun a1 a2 => ?_
    rw [List.cons_append]
    refine ⟨fun e he1 he2 q => ?_, a1.trans g2, a2.trans g3, ?_⟩
    · refine g1 e he1 he2 ?_
      refine ea_0_2 (q) fun q1 q2 => ?_
      refine ea_0_2 (ha e (by lia)) fun b1 b2 => ?_
      exact ⟨b1 ▸ q1, b2 ▸ q2⟩
    · refine good_before al f _ _ _ g4 (fun e he => ha e (by lia)) ?_ ?_ ?_
      · rw [show i + g.1.length + 1 + (fB al f).length = i + (g.1.length + ((fB al f).length + 1)) by lia, show o + g.2.1.length + 1 + (fO al f).length = o + (g.2.1.length + ((fO al f).length + 1)) by lia]
        exact h1
      · rw [show i + g.1.length + 1 + (fB al f).length = i + (g.1.length + ((fB al f).length + 1)) by lia, show t + g.2.2.length + 1 + (fT al f).length = t + (g.2.2.length + ((fT al f).length + 1)) by lia]
        exact h2
      · rw [show i + g.1.length + 1 + (fB al f).length = i + (g.1.length + ((fB al f).length + 1)) by lia, show o + g.2.1.length + 1 + (fO al f).length = o + (g.2.1.length + ((fO al f).length + 1)) by lia, show t + g.2.2.length + 1 + (fT al f).length = t + (g.2.2.length + ((fT al f).length + 1)) by lia]
        exact h3
theorem good_runs {f : Gap} : ∀ (xs : List Str) (al : AL) (i o t : Nat), (∀ n, n < xs.length → lo (i + n) = some (o + n) ∧ lt (i + n) = some (t + n)) → Good lo lt (i + xs.length) (o + xs.length) (t + xs.length) al f → Good lo lt i o t (xs.map (fun x => (gE, x)) ++ al) f
  | [], al, i, o, t, _, h => h
  | x :: xs, al, i, o, t, h1, h2 => by
    rw [List.map_cons, List.cons_append]
    have h0 := h1 0 (by simp)
    refine ⟨fun e he1 he2 => by simp [gE] at he2; lia, by simpa [gE] using h0.1, by simpa [gE] using h0.2, ?_⟩
    simp only [gE, List.length_nil, Nat.add_zero]
    refine good_runs xs al (i + 1) (o + 1) (t + 1) (fun n hn => ?_) ?_
    · have := h1 (n + 1) (by simp; lia)
      rw [show i + 1 + n = i + (n + 1) by lia, show o + 1 + n = o + (n + 1) by lia, show t + 1 + n = t + (n + 1) by lia]
      exact this
    · rw [List.length_cons] at h2
      rw [show i + 1 + xs.length = i + (xs.length + 1) by lia, show o + 1 + xs.length = o + (xs.length + 1) by lia, show t + 1 + xs.length = t + (xs.length + 1) by lia]
      exact h2
theorem good_shift {f : Gap} {P Q R : Nat} (hl : ∀ x, lo (P + x) = (lo0 x).map (Q + ·)) (ht : ∀ x, lt (P + x) = (lt0 x).map (R + ·)) : ∀ (al : AL) (i o t : Nat), Good lo0 lt0 i o t al f → Good lo lt (P + i) (Q + o) (R + t) al f
  | [], i, o, t, h => by
    intro e he1 he2 q
    obtain ⟨x, rfl⟩ : ∃ x, e = P + x := ⟨e - P, by lia⟩
    refine h x (by lia) (by lia) ?_
    refine ea_0_2 (q) fun q1 q2 => ?_
    rw [hl, Option.isSome_map] at q1
    rw [ht, Option.isSome_map] at q2
    exact ⟨q1, q2⟩
  | (g, x) :: al, i, o, t, h => by
    refine ea_0_4 (h) fun g1 g2 g3 g4 => ?_
    refine ⟨fun e he1 he2 q => ?_, ?_, ?_, ?_⟩
    · obtain ⟨x, rfl⟩ : ∃ x, e = P + x := ⟨e - P, by lia⟩
      refine g1 x (by lia) (by lia) ?_
      refine ea_0_2 (q) fun q1 q2 => ?_
      rw [hl, Option.isSome_map] at q1
      rw [ht, Option.isSome_map] at q2
      exact ⟨q1, q2⟩
    · rw [show P + i + g.1.length = P + (i + g.1.length) by lia, hl, g2]; simp; lia
    · rw [show P + i + g.1.length = P + (i + g.1.length) by lia, ht, g3]; simp; lia
    · have := good_shift (f := f) hl ht al _ _ _ g4
      rw [show P + i + g.1.length + 1 = P + (i + g.1.length + 1) by lia, show Q + o + g.2.1.length + 1 = Q + (o + g.2.1.length + 1) by lia, show R + t + g.2.2.length + 1 = R + (t + g.2.2.length + 1) by lia]
      exact this
end
theorem lookup_app {l1 l2 : List (Nat × Nat)} {x : Nat} : (l1 ++ l2).lookup x = (l1.lookup x).or (l2.lookup x) := by
  induction l1 with
  | nil => rfl
  | cons p l1 ih =>
    obtain ⟨a, b⟩ := p
    rw [List.cons_append, List.lookup_cons, List.lookup_cons]
    cases x == a
    · exact ih
    · rfl
theorem lookup_out {l : List (Nat × Nat)} {x : Nat} (h : ∀ p ∈ l, p.1 ≠ x) : l.lookup x = Option.none := by
  induction l with
  | nil => rfl
  | cons p l ih =>
    obtain ⟨a, b⟩ := p
    rw [List.lookup_cons]
    have : (x == a) = false := by
      have := h (a, b) (.head _)
      simpa using fun q => this q.symm
    rw [this]
    exact ih fun p hp => h p (.tail _ hp)
theorem look_app (a b : List (Nat × Nat)) (x : Nat) : look (a ++ b) x = (look b x).or (look a x) := by
  unfold look; rw [List.reverse_append, lookup_app]
theorem look_out {l : List (Nat × Nat)} {x : Nat} (h : ∀ p ∈ l, p.1 ≠ x) : look l x = Option.none := lookup_out fun p hp => h p (List.mem_reverse.mp hp)
theorem look_sh (P Q : Nat) (l : List (Nat × Nat)) (x : Nat) : look (l.map (sh P Q)) (P + x) = (look l x).map (Q + ·) := by
  unfold look
  rw [← List.map_reverse]
  induction l.reverse with
  | nil => rfl
  | cons p l ih =>
    obtain ⟨a, b⟩ := p
    rw [List.map_cons, sh, List.lookup_cons, List.lookup_cons]
    have e : (P + x == P + a) = (x == a) := by
      by_cases q : x = a
      · subst q; simp
      · rw [beq_eq_false_iff_ne.mpr q, beq_eq_false_iff_ne.mpr (by lia)]
    dsimp only
    rw [e]
    cases x == a
    · exact ih
    · rfl
theorem diag_range : ∀ (k i j : Nat) (p : Nat × Nat), p ∈ diag k i j → i ≤ p.1 ∧ p.1 < i + k
  | 0, i, j, p, h => by simp [diag] at h
  | k + 1, i, j, p, h => by
    rw [diag] at h
    rcases List.mem_cons.mp h with e | h
    · subst e; dsimp only; lia
    · have := diag_range k (i + 1) (j + 1) p h; lia
theorem look_diag : ∀ (k i j n : Nat), n < k → look (diag k i j) (i + n) = some (j + n)
  | 0, i, j, n, h => by lia
  | k + 1, i, j, n, h => by
    rw [diag, show (i, j) :: diag k (i + 1) (j + 1) = [(i, j)] ++ diag k (i + 1) (j + 1) from rfl, look_app]
    cases n with
    | zero =>
      rw [look_out fun p hp => by have := diag_range k (i + 1) (j + 1) p hp; lia]
      simp [look]
    | succ n =>
      have := look_diag k (i + 1) (j + 1) n (by lia)
      rw [show i + 1 + n = i + (n + 1) by lia, show j + 1 + n = j + (n + 1) by lia] at this
      rw [this]; rfl
theorem look_glue {r : Str} {A B a1 b1 : List Str} {k : Nat} (hA : r ∉ A) (hB : r ∉ B) (ra : r ∉ a1) (rb : r ∉ b1) (h1 : ∀ z ∈ a1, z ∉ B) (h2 : ∀ z ∈ b1, z ∉ A) :
    (∀ x, x < a1.length → look (walkL (a1 ++ (List.replicate (k + 1) r ++ A)) 0 0 (b1 ++ (List.replicate (k + 1) r ++ B))) x = look (walkL a1 0 0 b1) x) ∧
    (∀ n, n < k + 1 → look (walkL (a1 ++ (List.replicate (k + 1) r ++ A)) 0 0 (b1 ++ (List.replicate (k + 1) r ++ B))) (a1.length + n) = some (b1.length + n)) ∧
    (∀ x, look (walkL (a1 ++ (List.replicate (k + 1) r ++ A)) 0 0 (b1 ++ (List.replicate (k + 1) r ++ B))) (a1.length + (k + 1) + x) = (look (walkL A 0 0 B) x).map ((b1.length + (k + 1)) + ·)) := by
  have hs := walk_split (k := k) hA hB 0 0 ra rb h1 h2
  rw [Nat.zero_add, Nat.zero_add] at hs
  have hw : walkL A (a1.length + (k + 1)) (b1.length + (k + 1)) B = (walkL A 0 0 B).map (sh (a1.length + (k + 1)) (b1.length + (k + 1))) := walk_shift _ _ A 0 0 B
  rw [hw] at hs
  have r1 : ∀ p ∈ walkL a1 0 0 b1, p.1 < a1.length := fun p hp => by have := walk_range a1 0 0 b1 p hp; lia
  have r3 : ∀ p ∈ (walkL A 0 0 B).map (sh (a1.length + (k + 1)) (b1.length + (k + 1))), a1.length + (k + 1) ≤ p.1 := fun p hp => by
    refine ea_1_2 (List.mem_map.mp hp) fun q Z hrf2 => ?_
    subst hrf2
    simp only [sh]; lia
  rw [hs]
  refine ⟨fun x hx => ?_, fun n hn => ?_, fun x => ?_⟩
  · rw [look_app, look_app, look_out (fun p hp => by have := r3 p hp; lia), look_out (fun p hp => by have := diag_range _ _ _ p hp; lia)]
    rfl
  · rw [look_app, look_app, look_out (fun p hp => by have := r3 p hp; lia), look_diag _ _ _ _ hn]
    rfl
  · rw [look_app, look_app, look_sh, look_out (l := diag _ _ _) (fun p hp => by have := diag_range _ _ _ p hp; lia), look_out (l := walkL a1 0 0 b1) (fun p hp => by have := r1 p hp; lia)]
    cases look (walkL A 0 0 B) x <;> rfl
theorem good_glue {r : Str} {al al' : AL} {f f' : Gap} {k : Nat} (h : Good (look (walkL (fB al f) 0 0 (fO al f))) (look (walkL (fB al f) 0 0 (fT al f))) 0 0 0 al f)
    (h' : Good (look (walkL (fB al' f') 0 0 (fO al' f'))) (look (walkL (fB al' f') 0 0 (fT al' f'))) 0 0 0 al' f')
    (rB : r ∉ fB al f) (rO : r ∉ fO al f) (rT : r ∉ fT al f) (rB' : r ∉ fB al' f') (rO' : r ∉ fO al' f') (rT' : r ∉ fT al' f')
    (bo : ∀ z ∈ fB al f, z ∉ fO al' f') (ob : ∀ z ∈ fO al f, z ∉ fB al' f') (bt : ∀ z ∈ fB al f, z ∉ fT al' f') (tb : ∀ z ∈ fT al f, z ∉ fB al' f') :
    Good (look (walkL (fB (glue al f r k al') f') 0 0 (fO (glue al f r k al') f'))) (look (walkL (fB (glue al f r k al') f') 0 0 (fT (glue al f r k al') f'))) 0 0 0 (glue al f r k al') f' := by
  rw [fB_glue, fO_glue, fT_glue]
  refine ea_0_3 (look_glue (k := k) rB' rO' rB rO bo ob) fun o1 o2 o3 => ?_
  refine ea_0_3 (look_glue (k := k) rB' rT' rB rT bt tb) fun t1 t2 t3 => ?_
  unfold glue
  refine good_before al f 0 0 0 h (fun e he => ⟨o1 e (by lia), t1 e (by lia)⟩) ?_ ?_ ?_
  · have := o2 0 (by lia)
    simpa using this
  · have := t2 0 (by lia)
    simpa using this
  · rw [Nat.zero_add, Nat.zero_add, Nat.zero_add]
    refine good_runs _ _ _ _ _ (fun n hn => ?_) ?_
    · rw [List.length_replicate] at hn
      have a := o2 (n + 1) (by lia)
      have b := t2 (n + 1) (by lia)
      rw [show (fB al f).length + 1 + n = (fB al f).length + (n + 1) by lia, show (fO al f).length + 1 + n = (fO al f).length + (n + 1) by lia, show (fT al f).length + 1 + n = (fT al f).length + (n + 1) by lia]
      exact ⟨a, b⟩
    · rw [List.length_replicate]
      have := good_shift (f := f') o3 t3 al' 0 0 0 h'
      rw [show (fB al f).length + 1 + k = (fB al f).length + (k + 1) + 0 by lia, show (fO al f).length + 1 + k = (fO al f).length + (k + 1) + 0 by lia, show (fT al f).length + 1 + k = (fT al f).length + (k + 1) + 0 by lia]
      exact this
theorem len_app (a b : Str) : (a ++ b).length = a.length + b.length := by
  show (a.cps ++ b.cps).size = a.cps.size + b.cps.size
  exact Array.size_append
theorem concat_len : ∀ (xs : List Str), (concatStr xs).length = (xs.map (·.length)).sum
  | [] => rfl
  | x :: xs => by rw [concatStr, len_app, concat_len xs]; simp
theorem asStrs_map : ∀ (xs : List Str), asStrs (xs.map .str) = some xs
  | [] => rfl
  | x :: xs => by rw [List.map_cons, asStrs, asStrs_map xs]; rfl
theorem pe_join {C : Nat → List PV → Option PV} {e : PE} {σ : St} {xs : List Str} (h : pe C e σ = some (Ls xs)) (hl : (concatStr xs).length ≤ lim) : pe C (.join e) σ = some (SV (concatStr xs)) := by
  rw [peJoin, h]
  simp only [Ls, asStrs_map]
  rw [if_pos (by rw [concat_len] at hl; exact hl)]
  rfl
theorem add_strs {a b : Str} (h : a.length + b.length ≤ lim) : binop .add (SV a) (SV b) = some (SV (a ++ b)) := by
  simp only [binop, SV]
  rw [if_pos h]
theorem cmp_eq_str (a b : Str) : cmpop .eq (SV a) (SV b) = some (decide (a = b)) := rfl
theorem cmp_ne_str (a b : Str) : cmpop .ne (SV a) (SV b) = some (!decide (a = b)) := rfl
noncomputable def gBody : PSs := (.cons (.ite (.cmp .eq (.idx (.var 2) (.int 0)) (.str (Str.ofString "conflict")))
      (.cons (.asg 1 (.bin .add (.bin .add (.bin .add (.bin .add (.bin .add (.var 1) (.lst (.cons (.str (Str.ofString "<<<<<<<")) .nil))) (.idx (.var 2) (.int 2))) (.lst (.cons (.str (Str.ofString "=======")) .nil))) (.idx (.var 2) (.int 3))) (.lst (.cons (.str (Str.ofString ">>>>>>>")) .nil))))
      .nil)
      (.cons (.ite (.cmp .eq (.idx (.var 2) (.int 0)) (.str (Str.ofString "theirs")))
        (.cons (.asg 1 (.bin .add (.var 1) (.idx (.var 2) (.int 3))))
        .nil)
        (.cons (.ite (.orE (.cons (.cmp .eq (.idx (.var 2) (.int 0)) (.str (Str.ofString "ours"))) (.cons (.cmp .eq (.idx (.var 2) (.int 0)) (.str (Str.ofString "both"))) .nil)))
          (.cons (.asg 1 (.bin .add (.var 1) (.idx (.var 2) (.int 2))))
          .nil)
          (.cons (.asg 1 (.bin .add (.var 1) (.idx (.var 2) (.int 1))))
          .nil))
        .nil))
      .nil))
    .nil)
noncomputable def gSt (v0 : PV) (ls : List Str) (v2 : Option PV) : St := ⟨[some v0, some (Ls ls), v2], Option.none⟩
theorem add_Ls {a b : List Str} (h : a.length + b.length ≤ lim) : binop .add (Ls a) (Ls b) = some (Ls (a ++ b)) := by
  unfold Ls
  rw [add_lists (by simpa using h), List.map_append]
theorem gBody_ok (C : Nat → List PV → Option PV) (v0 : PV) {ls : List Str} {v2 : Option PV} {c : Ch} (hl : ls.length + (lin1 c).length ≤ lim) : pss C gBody ((gSt v0 ls v2).set 2 (.d (chD c))) = some (gSt v0 (ls ++ lin1 c) (some (.d (chD c))), Option.none) := by
  have hset : (gSt v0 ls v2).set 2 (.d (chD c)) = gSt v0 ls (some (.d (chD c))) := rfl
  rw [hset]
  have h0 : pe C (.idx (.var 2) (.int 0)) (gSt v0 ls (some (.d (chD c)))) = some (SV c.1) := rfl
  have h1 : pe C (.idx (.var 2) (.int 1)) (gSt v0 ls (some (.d (chD c)))) = some (Ls c.2.1) := rfl
  have h2 : pe C (.idx (.var 2) (.int 2)) (gSt v0 ls (some (.d (chD c)))) = some (Ls c.2.2.1) := rfl
  have h3 : pe C (.idx (.var 2) (.int 3)) (gSt v0 ls (some (.d (chD c)))) = some (Ls c.2.2.2) := rfl
  have ck : ∀ s : Str, pt C (.cmp .eq (.idx (.var 2) (.int 0)) (.str s)) (gSt v0 ls (some (.d (chD c)))) = some (decide (c.1 = s)) := fun s => pt_cmp h0 rfl (cmp_eq_str c.1 s)
  unfold lin1 at hl ⊢
  unfold gBody
  by_cases e1 : c.1 = kConf
  · rw [if_pos e1] at hl ⊢
    simp only [List.length_append, List.length_cons, List.length_nil] at hl
    refine (ite_t (σ' := gSt v0 (ls ++ ([m7] ++ c.2.2.1 ++ [e7] ++ c.2.2.2 ++ [w7])) (some (.d (chD c)))) (by rw [ck]; exact congrArg some (decide_eq_true e1)) ?_).trans rfl
    rw [pe_asg (p := Ls (ls ++ ([m7] ++ c.2.2.1 ++ [e7] ++ c.2.2.2 ++ [w7]))) ?_]
    · rfl
    · have b1 : pe C (.bin .add (.var 1) (.lst (.cons (.str (Str.ofString "<<<<<<<")) .nil))) (gSt v0 ls (some (.d (chD c)))) = some (Ls (ls ++ [m7])) := pe_bin (x := Ls ls) (y := Ls [m7]) rfl rfl (add_Ls (by simp; lia))
      have b2 := pe_bin b1 h2 (add_Ls (a := ls ++ [m7]) (b := c.2.2.1) (by simp; lia))
      have b3 := pe_bin b2 (show pe C (.lst (.cons (.str (Str.ofString "=======")) .nil)) (gSt v0 ls (some (.d (chD c)))) = some (Ls [e7]) from rfl) (add_Ls (by simp; lia))
      have b4 := pe_bin b3 h3 (add_Ls (by simp; lia))
      have b5 := pe_bin b4 (show pe C (.lst (.cons (.str (Str.ofString ">>>>>>>")) .nil)) (gSt v0 ls (some (.d (chD c)))) = some (Ls [w7]) from rfl) (add_Ls (by simp; lia))
      rw [b5]
      simp only [List.append_assoc]
  · rw [if_neg e1] at hl ⊢
    refine (ite_f (σ' := gSt v0 (ls ++ (if c.1 = kTheirs then c.2.2.2 else if c.1 = kOurs ∨ c.1 = kBoth then c.2.2.1 else c.2.1)) (some (.d (chD c)))) (by rw [ck]; exact congrArg some (decide_eq_false e1)) ?_).trans rfl
    by_cases e2 : c.1 = kTheirs
    · rw [if_pos e2] at hl ⊢
      refine (ite_t (σ' := gSt v0 (ls ++ c.2.2.2) (some (.d (chD c)))) (by rw [ck]; exact congrArg some (decide_eq_true e2)) ?_).trans rfl
      rw [pe_asg (pe_bin (x := Ls ls) rfl h3 (add_Ls hl))]
      rfl
    · rw [if_neg e2] at hl ⊢
      refine (ite_f (σ' := gSt v0 (ls ++ (if c.1 = kOurs ∨ c.1 = kBoth then c.2.2.1 else c.2.1)) (some (.d (chD c)))) (by rw [ck]; exact congrArg some (decide_eq_false e2)) ?_).trans rfl
      have hor : pt C (.orE (.cons (.cmp .eq (.idx (.var 2) (.int 0)) (.str (Str.ofString "ours"))) (.cons (.cmp .eq (.idx (.var 2) (.int 0)) (.str (Str.ofString "both"))) .nil))) (gSt v0 ls (some (.d (chD c)))) = some (decide (c.1 = kOurs ∨ c.1 = kBoth)) := by
        rw [ptOr, pOrC, ck, pOrC, ck, pOrN]
        show (match some (decide (c.1 = kOurs)) with | some false => (match some (decide (c.1 = kBoth)) with | some false => some false | r => r) | r => r) = _
        rw [Bool.decide_or]
        cases decide (c.1 = kOurs) <;> cases decide (c.1 = kBoth) <;> rfl
      by_cases e3 : c.1 = kOurs ∨ c.1 = kBoth
      · rw [if_pos e3] at hl ⊢
        refine (ite_t (σ' := gSt v0 (ls ++ c.2.2.1) (some (.d (chD c)))) (by rw [hor, decide_eq_true e3]) ?_).trans rfl
        rw [pe_asg (pe_bin (x := Ls ls) rfl h2 (add_Ls hl))]
        rfl
      · rw [if_neg e3] at hl ⊢
        refine (ite_f (σ' := gSt v0 (ls ++ c.2.1) (some (.d (chD c)))) (by rw [hor, decide_eq_false e3]) ?_).trans rfl
        rw [pe_asg (pe_bin (x := Ls ls) rfl h1 (add_Ls hl))]
        rfl
theorem merged_loop (C : Nat → List PV → Option PV) (v0 : PV) : ∀ (cs : List Ch) (ls : List Str) (v2 : Option PV), ls.length + (linC cs).length ≤ lim → ∃ v', forO (fun x σ => pss C gBody (σ.set 2 (.d x))) (cs.map chD) (gSt v0 ls v2) = some (gSt v0 (ls ++ linC cs) v', Option.none)
  | [], ls, v2, _ => ⟨v2, by simp [forO, linC]⟩
  | c :: cs, ls, v2, hl => by
    have e : linC (c :: cs) = lin1 c ++ linC cs := by unfold linC; rw [List.flatMap_cons]
    rw [e, List.length_append] at hl
    obtain ⟨v', ih⟩ := merged_loop C v0 cs (ls ++ lin1 c) (some (.d (chD c))) (by rw [List.length_append]; lia)
    refine ⟨v', ?_⟩
    rw [List.map_cons, forO, gBody_ok C v0 (by lia)]
    dsimp only
    rw [ih, e, List.append_assoc]
theorem call_merged {cs : List Ch} (hl : (linC cs).length ≤ lim) (k : Nat) : callAt fns (k + 1) 11 [.d (.list (cs.map chD))] = some (Ls (linC cs)) := by
  refine ea_1_1 (merged_loop (callAt fns k) (.d (.list (cs.map chD))) cs [] Option.none (by simpa using hl)) fun v' hloop => ?_
  refine call_of (fn := f_merged_of) (σ' := gSt (.d (.list (cs.map chD))) (linC cs) v') rfl rfl ?_
  show pss (callAt fns k) b_merged_of ⟨[some (.d (.list (cs.map chD))), Option.none, Option.none], Option.none⟩ = _
  unfold b_merged_of
  rw [pe_asg (p := Ls []) rfl]
  show pss (callAt fns k) _ (gSt (.d (.list (cs.map chD))) [] Option.none) = _
  have hl' := hloop
  unfold gBody at hl'
  rw [st_step (by rw [psFor, show pit (callAt fns k) (.var 0) (gSt (.d (.list (cs.map chD))) [] Option.none) = some (cs.map chD) from rfl]; exact hl')]
  rfl
theorem filterMapO_tot {α β : Type} {t : α → Option Bool} {f : α → Option β} {p : α → Bool} {g : α → β} : ∀ {l : List α}, (∀ x ∈ l, t x = some (p x)) → (∀ x ∈ l, f x = some (g x)) → filterMapO t f l = some ((l.filter p).map g)
  | [], _, _ => rfl
  | x :: l, h1, h2 => by
    have ih := filterMapO_tot (l := l) (fun y hy => h1 y (.tail _ hy)) fun y hy => h2 y (.tail _ hy)
    rw [filterMapO, h1 x (.head _)]
    cases hp : p x with
    | false => dsimp only; rw [ih, List.filter_cons, hp]; rfl
    | true => dsimp only; rw [h2 x (.head _)]; dsimp only; rw [ih, List.filter_cons, hp]; rfl
theorem pe_compIf {C : Nat → List PV → Option PV} {caps : List Nat} {elt it cond : PE} {σ : St} {xs : List PyData} (p : PyData → Bool) (g : PyData → PyData) (h1 : pit C it σ = some xs) (hl : xs.length ≤ lim) (h2 : ∀ x ∈ xs, pt C cond (inner σ caps x) = some (p x)) (h3 : ∀ x ∈ xs, pe C elt (inner σ caps x) = some (.d (g x))) :
    pe C (.compIf caps elt it cond) σ = some (.d (.list ((xs.filter p).map g))) := by
  rw [peCpIf, h1]
  dsimp only
  rw [if_pos hl, filterMapO_tot h2 (g := g)]
  · rfl
  · intro x hx
    rw [h3 x hx]
    rfl
theorem call_conflicts {cs : List Ch} (hl : cs.length ≤ lim) (k : Nat) : callAt fns (k + 1) 12 [.d (.list (cs.map chD))] = some (IV (cntC cs)) := by
  refine call_of (fn := f_conflicts_in) (σ' := ⟨[some (.d (.list (cs.map chD)))], Option.none⟩) rfl rfl ?_
  show pss (callAt fns k) b_conflicts_in ⟨[some (.d (.list (cs.map chD)))], Option.none⟩ = _
  unfold b_conflicts_in
  refine ret_ok ?_
  have hc := pe_compIf (C := callAt fns k) (caps := []) (elt := .var 0) (it := .var 0) (cond := .cmp .eq (.idx (.var 0) (.int 0)) (.str (Str.ofString "conflict"))) (σ := ⟨[some (.d (.list (cs.map chD)))], Option.none⟩) (xs := cs.map chD)
    (fun x => match x with | .tuple (.str s :: _) => decide (s = kConf) | _ => false) (fun x => x) rfl (by simpa using hl) (fun x hx => by
      refine ea_1_2 (List.mem_map.mp hx) fun c Z hrf2 => ?_
      subst hrf2
      rfl) (fun x Z => rfl)
  rw [peLen, hc]
  simp only [lenop, IV]
  have e : (((cs.map chD).filter fun x => match x with | .tuple (.str s :: _) => decide (s = kConf) | _ => false).map fun x => x).length = cntC cs := by
    rw [List.length_map, List.filter_map, List.length_map]
    rfl
  rw [e]
theorem pidx_last {α : Type} (l : List α) (h : l ≠ []) : pidx l (-1) = l.getLast? := by
  have hl : 0 < l.length := List.length_pos_iff.mpr h
  unfold pidx
  rw [if_pos (by decide), if_neg (by lia), List.getLast?_eq_getElem?]
  congr 1
  lia
theorem str_ext {a b : Str} (h : a.cps.toList = b.cps.toList) : a = b := by
  cases a; cases b; simp at h; simp [h]
theorem ne_empty {a : Str} (h : a ≠ Str.ofString "") : a.cps.toList ≠ [] := fun q => h (str_ext q)
theorem call_closed {xs : List Str} (hl : (concatStr xs).length + 1 ≤ lim) (k : Nat) : callAt fns (k + 1) 16 [Ls xs] = some (SV (closedS xs)) := by
  refine call_of (fn := f_closed) (σ' := ⟨[some (Ls xs), some (SV (concatStr xs))], Option.none⟩) rfl rfl ?_
  show pss (callAt fns k) b_closed ⟨[some (Ls xs), Option.none], Option.none⟩ = _
  unfold b_closed
  rw [pe_asg (pe_join (xs := xs) rfl (by lia))]
  show pss (callAt fns k) _ ⟨[some (Ls xs), some (SV (concatStr xs))], Option.none⟩ = _
  have c1 : pt (callAt fns k) (.cmp .ne (.var 1) (.str (Str.ofString ""))) ⟨[some (Ls xs), some (SV (concatStr xs))], Option.none⟩ = some (!decide (concatStr xs = Str.ofString "")) := rfl
  have he : Str.ofString "" = Str.empty := rfl
  unfold closedS
  by_cases h1 : concatStr xs = Str.ofString ""
  · rw [if_neg fun q => q.1 (h1.trans he)]
    rw [ite_f (by rw [ptAnd, pAndC, c1, decide_eq_true h1]; rfl) rfl]
    rfl
  · have hne := ne_empty h1
    have hlast : ∃ c, (concatStr xs).cps.toList.getLast? = some c := by
      cases hq : (concatStr xs).cps.toList.getLast? with
      | none => exact absurd (List.getLast?_eq_none_iff.mp hq) hne
      | some c => exact ⟨c, rfl⟩
    refine ea_1_1 (hlast) fun c hc => ?_
    have c2 : pt (callAt fns k) (.cmp .ne (.idx (.var 1) (.neg (.int 1))) (.str (Str.ofString "\n"))) ⟨[some (Ls xs), some (SV (concatStr xs))], Option.none⟩ = some (!decide ((⟨#[c]⟩ : Str) = nl)) := by
      refine pt_cmp (u := SV ⟨#[c]⟩) (pe_idx (x := SV (concatStr xs)) (y := IV (-1)) rfl rfl ?_) rfl rfl
      simp only [idxop, SV, IV]
      rw [pidx_last _ hne, hc]
      rfl
    have hcn : ((⟨#[c]⟩ : Str) = nl) ↔ c = 10 := by
      constructor
      · intro q
        have q' : (⟨#[c]⟩ : Str) = ⟨#[10]⟩ := q
        injection q' with q'
        simpa using q'
      · intro q; subst q; rfl
    by_cases h2 : c = 10
    · rw [if_neg fun q => q.2 (by rw [hc, h2])]
      rw [ite_f (by rw [ptAnd, pAndC, c1, decide_eq_false h1, pAndC, c2, decide_eq_true (hcn.mpr h2)]; rfl) rfl]
      rfl
    · rw [if_pos ⟨fun q => h1 (q.trans he.symm), fun q => h2 (by rw [hc] at q; exact Option.some.inj q)⟩]
      rw [ite_tr (σ' := ⟨[some (Ls xs), some (SV (concatStr xs))], Option.none⟩) (p := SV (concatStr xs ++ nl)) (by rw [ptAnd, pAndC, c1, decide_eq_false h1, pAndC, c2, decide_eq_false fun q => h2 (hcn.mp q)]; rfl) ?_]
      exact ret_ok (pe_bin (x := SV (concatStr xs)) (y := SV nl) rfl rfl (add_strs (by show (concatStr xs).length + 1 ≤ lim; exact hl)))
noncomputable def oBody : PSs := (.cons (.ite (.cmp .eq (.idx (.var 2) (.int 0)) (.str (Str.ofString "conflict")))
      (.cons (.app 1 (.bin .add (.bin .add (.bin .add (.bin .add (.str (Str.ofString "<<<<<<<\n")) (.call 16 (Str.ofString "closed") (.cons (.idx (.var 2) (.int 2)) .nil))) (.str (Str.ofString "=======\n"))) (.call 16 (Str.ofString "closed") (.cons (.idx (.var 2) (.int 3)) .nil))) (.str (Str.ofString ">>>>>>>\n"))))
      .nil)
      (.cons (.app 1 (.join (.call 11 (Str.ofString "merged_of") (.cons (.lst (.cons (.var 2) .nil)) .nil))))
      .nil))
    .nil)
noncomputable def oSt (v0 : PV) (ls : List Str) (v2 : Option PV) : St := ⟨[some v0, Option.none, v2], some (1, .lst (ls.map .str))⟩
theorem pes1 {C : Nat → List PV → Option PV} {a : PE} {σ : St} {x : PV} (h1 : pe C a σ = some x) : pes C (.cons a .nil) σ = some [x] := by
  rw [pesC, h1, pesN]
theorem closed_le (xs : List Str) : (concatStr xs).length ≤ (closedS xs).length := by
  unfold closedS
  split
  · rw [len_app]; lia
  · exact Nat.le_refl _
theorem oBody_ok (k : Nat) (v0 : PV) {ls : List Str} {v2 : Option PV} {c : Ch} (hl : (con1 c).length + 1 ≤ lim) (hll : (lin1 c).length ≤ lim) (hls : ls.length < lim) :
    pss (callAt fns (k + 1)) oBody ((oSt v0 ls v2).set 2 (.d (chD c))) = some (oSt v0 (ls ++ [con1 c]) (some (.d (chD c))), Option.none) := by
  have hset : (oSt v0 ls v2).set 2 (.d (chD c)) = oSt v0 ls (some (.d (chD c))) := rfl
  rw [hset]
  have ck : pt (callAt fns (k + 1)) (.cmp .eq (.idx (.var 2) (.int 0)) (.str (Str.ofString "conflict"))) (oSt v0 ls (some (.d (chD c)))) = some (decide (c.1 = kConf)) := rfl
  unfold con1 at hl ⊢
  unfold oBody
  by_cases e1 : c.1 = kConf
  · rw [if_pos e1] at hl ⊢
    simp only [len_app] at hl
    have l1 := closed_le c.2.2.1
    have l2 := closed_le c.2.2.2
    have q1 : pe (callAt fns (k + 1)) (.call 16 (Str.ofString "closed") (.cons (.idx (.var 2) (.int 2)) .nil)) (oSt v0 ls (some (.d (chD c)))) = some (SV (closedS c.2.2.1)) := pe_call (pes1 (x := Ls c.2.2.1) rfl) (call_closed (by lia) k)
    have q2 : pe (callAt fns (k + 1)) (.call 16 (Str.ofString "closed") (.cons (.idx (.var 2) (.int 3)) .nil)) (oSt v0 ls (some (.d (chD c)))) = some (SV (closedS c.2.2.2)) := pe_call (pes1 (x := Ls c.2.2.2) rfl) (call_closed (by lia) k)
    have b1 := pe_bin (show pe (callAt fns (k + 1)) (.str (Str.ofString "<<<<<<<\n")) (oSt v0 ls (some (.d (chD c)))) = some (SV (Str.ofString "<<<<<<<\n")) from rfl) q1 (add_strs (by lia))
    have b2 := pe_bin b1 (show pe (callAt fns (k + 1)) (.str (Str.ofString "=======\n")) (oSt v0 ls (some (.d (chD c)))) = some (SV (Str.ofString "=======\n")) from rfl) (add_strs (by simp only [len_app]; lia))
    have b3 := pe_bin b2 q2 (add_strs (by simp only [len_app]; lia))
    have b4 := pe_bin b3 (show pe (callAt fns (k + 1)) (.str (Str.ofString ">>>>>>>\n")) (oSt v0 ls (some (.d (chD c)))) = some (SV (Str.ofString ">>>>>>>\n")) from rfl) (add_strs (by simp only [len_app]; lia))
    refine (ite_t (σ' := oSt v0 (ls ++ [_]) (some (.d (chD c)))) (by rw [ck, decide_eq_true e1]) ?_).trans rfl
    rw [st_step (app_ok (xs := ls.map .str) rfl b4 (by simpa using hls))]
    show some (_, Option.none) = some (oSt v0 (ls ++ [_]) _, Option.none)
    unfold oSt
    rw [List.map_append]
    rfl
  · rw [if_neg e1] at hl ⊢
    have hm : pe (callAt fns (k + 1)) (.call 11 (Str.ofString "merged_of") (.cons (.lst (.cons (.var 2) .nil)) .nil)) (oSt v0 ls (some (.d (chD c)))) = some (Ls (lin1 c)) := by
      refine pe_call (pes1 (x := .d (.list ([c].map chD))) rfl) ?_
      have := call_merged (cs := [c]) (by simpa [linC] using hll) k
      rw [this]
      simp [linC]
    refine (ite_f (σ' := oSt v0 (ls ++ [concatStr (lin1 c)]) (some (.d (chD c)))) (by rw [ck, decide_eq_false e1]) ?_).trans rfl
    rw [st_step (app_ok (xs := ls.map .str) rfl (pe_join hm (by lia)) (by simpa using hls))]
    show some (_, Option.none) = some (oSt v0 (ls ++ [_]) _, Option.none)
    unfold oSt
    rw [List.map_append]
    rfl
theorem content_loop (k : Nat) (v0 : PV) : ∀ (cs : List Ch) (ls : List Str) (v2 : Option PV), (∀ c ∈ cs, (con1 c).length + 1 ≤ lim ∧ (lin1 c).length ≤ lim) → ls.length + cs.length ≤ lim →
    ∃ v', forO (fun x σ => pss (callAt fns (k + 1)) oBody (σ.set 2 (.d x))) (cs.map chD) (oSt v0 ls v2) = some (oSt v0 (ls ++ cs.map con1) v', Option.none)
  | [], ls, v2, _, _ => ⟨v2, by simp [forO]⟩
  | c :: cs, ls, v2, h, hl => by
    rw [List.length_cons] at hl
    obtain ⟨v', ih⟩ := content_loop k v0 cs (ls ++ [con1 c]) (some (.d (chD c))) (fun c' hc => h c' (.tail _ hc)) (by simp; lia)
    refine ⟨v', ?_⟩
    have hc := h c (.head _)
    rw [List.map_cons, forO, oBody_ok k v0 hc.1 hc.2 (by lia)]
    dsimp only
    rw [ih]
    simp
theorem con_le : ∀ (cs : List Ch) (c : Ch), c ∈ cs → (con1 c).length ≤ (conC cs).length
  | c' :: cs, c, h => by
    unfold conC
    rw [List.map_cons, concatStr, len_app]
    rcases List.mem_cons.mp h with rfl | h
    · lia
    · have := con_le cs c h
      unfold conC at this; lia
theorem lin_le : ∀ (cs : List Ch) (c : Ch), c ∈ cs → (lin1 c).length ≤ (linC cs).length
  | c' :: cs, c, h => by
    unfold linC
    rw [List.flatMap_cons, List.length_append]
    rcases List.mem_cons.mp h with rfl | h
    · lia
    · have := lin_le cs c h
      unfold linC at this; lia
theorem call_content {cs : List Ch} (hc : cs.length ≤ 3000) (h1 : (conC cs).length + 1 ≤ lim) (h2 : (linC cs).length ≤ lim) (k : Nat) : callAt fns (k + 2) 17 [.d (.list (cs.map chD))] = some (SV (conC cs)) := by
  have hlim : lim = 1000000 := rfl
  obtain ⟨v', hloop⟩ := content_loop k (.d (.list (cs.map chD))) cs [] Option.none (fun c hc => ⟨by have := con_le cs c hc; lia, by have := lin_le cs c hc; lia⟩) (by simp; lia)
  refine call_of (fn := f_merged_content) (σ' := ⟨[some (.d (.list (cs.map chD))), some (Ls (cs.map con1)), v'], Option.none⟩) rfl rfl ?_
  show pss (callAt fns (k + 1)) b_merged_content ⟨[some (.d (.list (cs.map chD))), Option.none, Option.none], Option.none⟩ = _
  unfold b_merged_content
  rw [st_step (σ' := oSt (.d (.list (cs.map chD))) [] Option.none) rfl]
  have hl' := hloop
  unfold oBody at hl'
  rw [st_step (by rw [psFor, show pit (callAt fns (k + 1)) (.var 0) (oSt (.d (.list (cs.map chD))) [] Option.none) = some (cs.map chD) from rfl]; exact hl')]
  rw [st_step (σ' := ⟨[some (.d (.list (cs.map chD))), some (Ls (cs.map con1)), v'], Option.none⟩) rfl]
  refine ret_ok (pe_join rfl ?_)
  show (conC cs).length ≤ lim
  lia
noncomputable def free (x : Str) : Prop := (10 : Nat) ∉ x.cps.toList
noncomputable def tailL (q : Str) : List Str := if q = Str.ofString "" then [] else [q]
noncomputable def linesFrom (ps : List Str) (q : Str) : List Str := ps.map (· ++ nl) ++ tailL q
theorem cut_unique : ∀ (p q r s : List Nat), 10 ∉ p → 10 ∉ q → p ++ 10 :: r = q ++ 10 :: s → p = q ∧ r = s
  | [], [], r, s, _, _, h => by simpa using h
  | [], y :: q, r, s, _, hq, h => by
    simp at h
    exact absurd (List.mem_cons.mpr (.inl h.1)) hq
  | x :: p, [], r, s, hp, _, h => by
    simp at h
    exact absurd (List.mem_cons.mpr (.inl h.1.symm)) hp
  | x :: p, y :: q, r, s, hp, hq, h => by
    simp only [List.cons_append, List.cons.injEq] at h
    refine ea_0_2 (cut_unique p q r s (fun q' => hp (.tail _ q')) (fun q' => hq (.tail _ q')) h.2) fun e1 e2 => ?_
    exact ⟨by rw [h.1, e1], e2⟩
noncomputable def jn : List Str → Str → List Nat
  | [], q => q.cps.toList
  | p :: ps, q => p.cps.toList ++ 10 :: jn ps q
theorem jn_unique : ∀ (ps ps' : List Str) (q q' : Str), (∀ p ∈ ps, free p) → (∀ p ∈ ps', free p) → free q → free q' → jn ps q = jn ps' q' → ps = ps' ∧ q = q'
  | [], [], q, q', _, _, _, _, h => ⟨rfl, str_ext h⟩
  | [], p' :: ps', q, q', _, _, hq, _, h => by
    rw [jn, jn] at h
    refine absurd ?_ hq
    show 10 ∈ q.cps.toList
    rw [h]; simp
  | p :: ps, [], q, q', _, _, _, hq', h => by
    rw [jn, jn] at h
    refine absurd ?_ hq'
    show 10 ∈ q'.cps.toList
    rw [← h]; simp
  | p :: ps, p' :: ps', q, q', h1, h2, h3, h4, h => by
    rw [jn, jn] at h
    refine ea_0_2 (cut_unique _ _ _ _ (h1 p (.head _)) (h2 p' (.head _)) h) fun e1 e2 => ?_
    refine ea_0_2 (jn_unique ps ps' q q' (fun p hp => h1 p (.tail _ hp)) (fun p hp => h2 p (.tail _ hp)) h3 h4 e2) fun e3 e4 => ?_
    exact ⟨by rw [str_ext e1, e3], e4⟩
theorem cps_app (a b : Str) : (a ++ b).cps.toList = a.cps.toList ++ b.cps.toList := by
  show (a.cps ++ b.cps).toList = _
  simp
theorem concat_jn (q : Str) : ∀ (ps : List Str), (concatStr (linesFrom ps q)).cps.toList = jn ps q
  | [] => by
    unfold linesFrom tailL
    rw [List.map_nil, List.nil_append, jn]
    split
    · rename_i h; rw [h]; rfl
    · rw [concatStr, concatStr, str_empty_r]
  | p :: ps => by
    have ih := concat_jn q ps
    unfold linesFrom at ih ⊢
    rw [List.map_cons, List.cons_append, concatStr, cps_app, cps_app, ih, jn]
    show p.cps.toList ++ [10] ++ _ = _
    simp
theorem join_jn (q : Str) : ∀ (ps : List Str), (Str.join nl (ps ++ [q])).cps.toList = jn ps q
  | [] => rfl
  | [p] => by
    show (p ++ nl ++ q).cps.toList = _
    rw [cps_app, cps_app, jn, jn]
    show p.cps.toList ++ [10] ++ _ = _
    simp
  | p :: p' :: ps => by
    have ih := join_jn q (p' :: ps)
    have e : Str.join nl (p :: p' :: ps ++ [q]) = p ++ nl ++ Str.join nl (p' :: ps ++ [q]) := rfl
    rw [e, cps_app, cps_app, ih]
    show p.cps.toList ++ [10] ++ _ = p.cps.toList ++ 10 :: jn (p' :: ps) q
    simp
theorem split_lines {ps : List Str} {q : Str} (h1 : ∀ p ∈ ps, free p) (h2 : free q) : Txt.split (concatStr (linesFrom ps q)) nl = ps ++ [q] := by
  have hne : Txt.split (concatStr (linesFrom ps q)) nl ≠ [] := fun e => by
    have := PyProof.Rows.split_pos (concatStr (linesFrom ps q)) nl
    rw [e] at this; simp at this
  obtain ⟨ps', q', e⟩ : ∃ ps' q', Txt.split (concatStr (linesFrom ps q)) nl = ps' ++ [q'] := ⟨_, _, (List.dropLast_concat_getLast hne).symm⟩
  have hf : ∀ p ∈ ps' ++ [q'], free p := fun p hp => StrLaws.split_free (concatStr (linesFrom ps q)) 10 p (by
    show p ∈ Txt.split (concatStr (linesFrom ps q)) nl
    rw [e]; exact hp)
  have hj := StrLaws.join_split (concatStr (linesFrom ps q)) nl
  rw [e] at hj
  have hj' := congrArg (fun s : Str => s.cps.toList) hj
  rw [join_jn, concat_jn] at hj'
  refine ea_0_2 (jn_unique ps' ps q' q (fun p hp => hf p (by simp [hp])) h1 (hf q' (by simp)) h2 hj') fun e1 e2 => ?_
  rw [e, e1, e2]
theorem slice_init {α : Type} (ps : List α) (q : α) : pslice Option.none (some (-1)) (ps ++ [q]) = ps := by
  unfold pslice loN hiN clip
  simp only [List.length_append, List.length_cons, List.length_nil]
  rw [if_pos (by decide), show ((-1 : Int) + ((ps.length + (0 + 1) : Nat) : Int)).toNat = ps.length by lia, List.drop_zero, List.take_left]
theorem call_linesOf {ps : List Str} {q : Str} (h1 : ∀ p ∈ ps, free p) (h2 : free q) (hl : (concatStr (linesFrom ps q)).length ≤ 100000) (hp : ps.length ≤ 1000) (hpl : ∀ p ∈ ps, p.length ≤ 100000) (k : Nat) :
    callAt fns (k + 1) 13 [SV (concatStr (linesFrom ps q))] = some (Ls (linesFrom ps q)) := by
  have hlim : lim = 1000000 := rfl
  have hs := split_lines h1 h2
  generalize concatStr (linesFrom ps q) = s at hl hs ⊢
  refine call_of (fn := f_lines_of) (σ' := ⟨[some (SV s), some (Ls (ps ++ [q])), some (Ls (linesFrom ps q))], Option.none⟩) rfl rfl ?_
  show pss (callAt fns k) b_lines_of ⟨[some (SV s), Option.none, Option.none], Option.none⟩ = _
  unfold b_lines_of
  have h0 : pe (callAt fns k) (.splitnl (.var 0)) ⟨[some (SV s), Option.none, Option.none], Option.none⟩ = some (Ls (ps ++ [q])) := by
    have hv : pe (callAt fns k) (.var 0) ⟨[some (SV s), Option.none, Option.none], Option.none⟩ = some (SV s) := rfl
    rw [peSpl, hv]
    simp only [SV]
    rw [if_pos (by lia), show Txt.split s ⟨#[10]⟩ = ps ++ [q] from hs]
    rfl
  rw [pe_asg h0]
  show pss (callAt fns k) _ ⟨[some (SV s), some (Ls (ps ++ [q])), Option.none], Option.none⟩ = _
  have hit : pit (callAt fns k) (.sl (.var 1) .none (.neg (.int 1))) ⟨[some (SV s), some (Ls (ps ++ [q])), Option.none], Option.none⟩ = some (ps.map .str) := by
    refine pit_sl (x := Ls (ps ++ [q])) (y := .d .none) (z := IV (-1)) rfl rfl rfl ?_
    show some (PV.d (.list (pslice Option.none (some (-1)) ((ps ++ [q]).map PyData.str)))) = _
    rw [List.map_append, List.map_cons, List.map_nil, slice_init]
  have hc : pe (callAt fns k) (.comp [] (.bin .add (.var 0) (.str (Str.ofString "\n"))) (.sl (.var 1) .none (.neg (.int 1)))) ⟨[some (SV s), some (Ls (ps ++ [q])), Option.none], Option.none⟩ = some (Ls (ps.map (· ++ nl))) := by
    rw [pe_comp (g := fun x => match x with | .str p => .str (p ++ nl) | d => d) hit (by simp; lia)]
    · unfold Ls
      rw [List.map_map, List.map_map]
      rfl
    · intro x hx
      refine ea_1_2 (List.mem_map.mp hx) fun p hp' hrf2 => ?_
      subst hrf2
      refine pe_bin (x := SV p) (y := SV nl) rfl rfl (add_strs ?_)
      have := hpl p hp'
      show p.length + 1 ≤ lim
      lia
  rw [st_step (σ' := ⟨[some (SV s), some (Ls (ps ++ [q])), Option.none], some (2, .lst ((ps.map (· ++ nl)).map .str))⟩) (by rw [psOwnC, hc]; rfl)]
  have hlast : pe (callAt fns k) (.idx (.var 1) (.neg (.int 1))) ⟨[some (SV s), some (Ls (ps ++ [q])), Option.none], some (2, .lst ((ps.map (· ++ nl)).map .str))⟩ = some (SV q) := by
    refine pe_idx (x := Ls (ps ++ [q])) (y := IV (-1)) rfl rfl ?_
    simp only [idxop, Ls, IV]
    rw [List.map_append, pidx_last _ (by simp), List.map_cons, List.map_nil, List.getLast?_append]
    rfl
  have hct : pt (callAt fns k) (.cmp .ne (.idx (.var 1) (.neg (.int 1))) (.str (Str.ofString ""))) ⟨[some (SV s), some (Ls (ps ++ [q])), Option.none], some (2, .lst ((ps.map (· ++ nl)).map .str))⟩ = some (!decide (q = Str.ofString "")) := pt_cmp hlast rfl (cmp_ne_str q _)
  unfold linesFrom tailL
  by_cases hq : q = Str.ofString ""
  · rw [if_pos hq, List.append_nil]
    rw [ite_f (by rw [hct, decide_eq_true hq]; rfl) rfl]
    rfl
  · rw [if_neg hq]
    rw [ite_t (σ' := ⟨[some (SV s), some (Ls (ps ++ [q])), Option.none], some (2, .lst ((ps.map (· ++ nl) ++ [q]).map .str))⟩) (by rw [hct, decide_eq_false hq]; rfl) (by
      rw [st_step (app_ok (xs := (ps.map (· ++ nl)).map .str) rfl hlast (by simp; lia))]
      show some (_, Option.none) = some (_, Option.none)
      rw [List.map_append]
      rfl)]
    rfl
inductive Kd where
  | keep | del | add
  deriving DecidableEq
noncomputable def nameK : Kd → Str
  | .keep => sKeep
  | .del => sDel
  | .add => sAdd
noncomputable def signK : Kd → Str
  | .keep => Str.ofString " "
  | .del => Str.ofString "-"
  | .add => Str.ofString "+"
abbrev Dd := Kd × Str
noncomputable def dueD (d : Dd) : PyData := deedD (nameK d.1) d.2
noncomputable def DV (ds : List Dd) : PV := .d (.list (ds.map dueD))
noncomputable def srcs (ds : List Dd) : List Str := (ds.filter fun d => decide (d.1 ≠ .add)).map (·.2)
noncomputable def tgts (ds : List Dd) : List Str := (ds.filter fun d => decide (d.1 ≠ .del)).map (·.2)
theorem name_add (k : Kd) : (!decide (nameK k = sAdd)) = decide (k ≠ .add) := by cases k <;> decide
theorem name_del (k : Kd) : (!decide (nameK k = sDel)) = decide (k ≠ .del) := by cases k <;> decide
theorem name_keep (k : Kd) : (!decide (nameK k = sKeep)) = decide (k ≠ .keep) := by cases k <;> decide
noncomputable def d0 : PyData → Str
  | .tuple (.str s :: _) => s
  | _ => Str.empty
noncomputable def d1 : PyData → PyData
  | .tuple [_, x] => x
  | d => d
theorem call_source (ds : List Dd) (hl : ds.length ≤ lim) (k : Nat) : callAt fns (k + 1) 4 [DV ds] = some (Ls (srcs ds)) := by
  refine call_of (fn := f_source_of) (σ' := ⟨[some (DV ds)], Option.none⟩) rfl rfl ?_
  show pss (callAt fns k) b_source_of ⟨[some (DV ds)], Option.none⟩ = _
  unfold b_source_of
  refine ret_ok ?_
  rw [pe_compIf (xs := ds.map dueD) (fun x => !decide (d0 x = sAdd)) d1 rfl (by simpa using hl) (fun x hx => by
      obtain ⟨d, _, rfl⟩ := List.mem_map.mp hx; rfl) (fun x hx => by
      obtain ⟨d, _, rfl⟩ := List.mem_map.mp hx; rfl)]
  congr 2
  unfold srcs
  rw [List.filter_map, List.map_map, List.map_map, show ((fun x => !decide (d0 x = sAdd)) ∘ dueD) = fun d : Dd => decide (d.1 ≠ .add) from funext fun d => name_add d.1]
  rfl
theorem call_target (ds : List Dd) (hl : ds.length ≤ lim) (k : Nat) : callAt fns (k + 1) 5 [DV ds] = some (Ls (tgts ds)) := by
  refine call_of (fn := f_target_of) (σ' := ⟨[some (DV ds)], Option.none⟩) rfl rfl ?_
  show pss (callAt fns k) b_target_of ⟨[some (DV ds)], Option.none⟩ = _
  unfold b_target_of
  refine ret_ok ?_
  rw [pe_compIf (xs := ds.map dueD) (fun x => !decide (d0 x = sDel)) d1 rfl (by simpa using hl) (fun x hx => by
      obtain ⟨d, _, rfl⟩ := List.mem_map.mp hx; rfl) (fun x hx => by
      obtain ⟨d, _, rfl⟩ := List.mem_map.mp hx; rfl)]
  congr 2
  unfold tgts
  rw [List.filter_map, List.map_map, List.map_map, show ((fun x => !decide (d0 x = sDel)) ∘ dueD) = fun d : Dd => decide (d.1 ≠ .del) from funext fun d => name_del d.1]
  rfl
noncomputable def stepS (n c p : Nat) (st : List (Nat × Nat)) : List (Nat × Nat) :=
  match st.getLast? with
  | some (s0, e0) => if p - c ≤ e0 then st.dropLast ++ [(s0, min n (p + c + 1))] else st ++ [(p - c, min n (p + c + 1))]
  | Option.none => st ++ [(p - c, min n (p + c + 1))]
noncomputable def hBody : PSs := (.cons (.ite (.cmp .ne (.idx (.idx (.var 0) (.var 3)) (.int 0)) (.str (Str.ofString "keep")))
      (.cons (.asg 4 (.mx (.int 0) (.bin .sub (.var 3) (.var 1))))
      (.cons (.asg 5 (.mn (.len (.var 0)) (.bin .add (.bin .add (.var 3) (.var 1)) (.int 1))))
      (.cons (.ite (.andE (.cons (.ownNeNil 2) (.cons (.cmp .le (.var 4) (.idx (.ownIdx 2 (.neg (.int 1))) (.int 1))) .nil)))
        (.cons (.put 2 (.neg (.int 1)) (.tup (.cons (.idx (.ownIdx 2 (.neg (.int 1))) (.int 0)) (.cons (.var 5) .nil))))
        .nil)
        (.cons (.app 2 (.tup (.cons (.var 4) (.cons (.var 5) .nil))))
        .nil))
      .nil)))
      .nil)
    .nil)
noncomputable def hSt (ds : List Dd) (c : Nat) (st : List (Nat × Nat)) (v3 v4 v5 : Option PV) : St := ⟨[some (DV ds), some (IV c), Option.none, v3, v4, v5, Option.none, Option.none, Option.none], some (2, .lst (st.map pairD))⟩
theorem pidx_end {α : Type} (l : List α) (x : α) : pidx (l ++ [x]) (-1) = some x := by
  rw [pidx_last _ (by simp), List.getLast?_append]; rfl
theorem hBody_ok (C : Nat → List PV → Option PV) {ds : List Dd} {c p : Nat} {st : List (Nat × Nat)} {v3 v4 v5 : Option PV} {d : Dd} (hd : ds[p]? = some d) (hl : st.length < lim) :
    ∃ v4' v5', pss C hBody ((hSt ds c st v3 v4 v5).set 3 (.d (.int p))) = some (hSt ds c (if d.1 = .keep then st else stepS ds.length c p st) (some (IV p)) v4' v5', Option.none) := by
  have hset : (hSt ds c st v3 v4 v5).set 3 (.d (.int p)) = hSt ds c st (some (IV p)) v4 v5 := rfl
  rw [hset]
  have hp : (ds.map dueD)[p]? = some (dueD d) := by rw [List.getElem?_map, hd]; rfl
  have hkk : pe C (.idx (.idx (.var 0) (.var 3)) (.int 0)) (hSt ds c st (some (IV p)) v4 v5) = some (SV (nameK d.1)) := by
    refine pe_idx (x := .d (dueD d)) (y := .d (.int 0)) (pe_idx (x := DV ds) (y := IV p) rfl rfl ?_) rfl rfl
    simp only [idxop, DV, IV, pidx_nat, hp, Option.map_some]
  have hct : pt C (.cmp .ne (.idx (.idx (.var 0) (.var 3)) (.int 0)) (.str (Str.ofString "keep"))) (hSt ds c st (some (IV p)) v4 v5) = some (decide (d.1 ≠ .keep)) := by
    rw [pt_cmp hkk rfl (cmp_ne_str _ _)]; exact congrArg some (name_keep d.1)
  unfold hBody
  by_cases hk : d.1 = .keep
  · rw [if_pos hk]
    refine ⟨v4, v5, ?_⟩
    rw [ite_f (by rw [hct, decide_eq_false (fun q => q hk)]) rfl]
    rfl
  · rw [if_neg hk]
    have hs : (if ((p : Int) - (c : Int)) > 0 then ((p : Int) - (c : Int)) else 0) = ((p - c : Nat) : Int) := by split <;> lia
    have he : (if ((p : Int) + (c : Int) + 1) < (ds.length : Int) then ((p : Int) + (c : Int) + 1) else (ds.length : Int)) = ((min ds.length (p + c + 1) : Nat) : Int) := by split <;> lia
    have q4 : pe C (.mx (.int 0) (.bin .sub (.var 3) (.var 1))) (hSt ds c st (some (IV p)) v4 v5) = some (IV ((p - c : Nat) : Int)) := by
      rw [← hs]; rfl
    have q5 : pe C (.mn (.len (.var 0)) (.bin .add (.bin .add (.var 3) (.var 1)) (.int 1))) (hSt ds c st (some (IV p)) (some (IV ((p - c : Nat) : Int))) v5) = some (IV ((min ds.length (p + c + 1) : Nat) : Int)) := by
      rw [← he]
      have hln : pe C (.len (.var 0)) (hSt ds c st (some (IV p)) (some (IV ((p - c : Nat) : Int))) v5) = some (IV ds.length) := by
        simp only [peLen, peVar, hSt, St.get, List.getD_cons_zero, DV, lenop, List.length_map]; rfl
      rw [peMn, hln]
      rfl
    refine ⟨some (IV ((p - c : Nat) : Int)), some (IV ((min ds.length (p + c + 1) : Nat) : Int)), ?_⟩
    refine (ite_t (σ' := hSt ds c (stepS ds.length c p st) (some (IV p)) (some (IV ((p - c : Nat) : Int))) (some (IV ((min ds.length (p + c + 1) : Nat) : Int)))) (by rw [hct, decide_eq_true hk]) ?_).trans rfl
    rw [pe_asg q4]
    show pss C _ (hSt ds c st (some (IV p)) (some (IV ((p - c : Nat) : Int))) v5) = _
    rw [pe_asg q5]
    show pss C _ (hSt ds c st (some (IV p)) (some (IV ((p - c : Nat) : Int))) (some (IV ((min ds.length (p + c + 1) : Nat) : Int)))) = _
    have happ : ps C (.app 2 (.tup (.cons (.var 4) (.cons (.var 5) .nil)))) (hSt ds c st (some (IV p)) (some (IV ((p - c : Nat) : Int))) (some (IV ((min ds.length (p + c + 1) : Nat) : Int)))) =
        some (hSt ds c (st ++ [(p - c, min ds.length (p + c + 1))]) (some (IV p)) (some (IV ((p - c : Nat) : Int))) (some (IV ((min ds.length (p + c + 1) : Nat) : Int))), Option.none) := by
      rw [app_ok (xs := st.map pairD) (x := pairD (p - c, min ds.length (p + c + 1))) rfl rfl (by simpa using hl)]
      unfold hSt
      rw [List.map_append]
      rfl
    unfold stepS
    cases hgl : st.getLast? with
    | none =>
      have hnil : st = [] := List.getLast?_eq_none_iff.mp hgl
      subst hnil
      refine (ite_f (by rfl) ?_).trans rfl
      rw [st_step happ]
      rfl
    | some se =>
      obtain ⟨s0, e0⟩ := se
      have hst : st = st.dropLast ++ [(s0, e0)] := by
        have hne : st ≠ [] := fun q => by rw [q] at hgl; cases hgl
        have := List.dropLast_concat_getLast hne
        rw [List.getLast?_eq_some_getLast hne] at hgl
        rw [Option.some.inj hgl] at this
        exact this.symm
      have hmap : st.map pairD = st.dropLast.map pairD ++ [pairD (s0, e0)] := by
        conv => lhs; rw [hst]
        rw [List.map_append]; rfl
      have hlast : pe C (.ownIdx 2 (.neg (.int 1))) (hSt ds c st (some (IV p)) (some (IV ((p - c : Nat) : Int))) (some (IV ((min ds.length (p + c + 1) : Nat) : Int)))) = some (.d (pairD (s0, e0))) := by
        show (if 2 = 2 then (pidx (st.map pairD) (-1)).map PV.d else Option.none) = _
        rw [if_pos rfl, hmap, pidx_end]; rfl
      have hl1 := pe_idx (z := IV e0) hlast (show pe C (.int 1) (hSt ds c st (some (IV p)) (some (IV ((p - c : Nat) : Int))) (some (IV ((min ds.length (p + c + 1) : Nat) : Int)))) = some (.d (.int 1)) from rfl) rfl
      have hl0 := pe_idx (z := IV s0) hlast (show pe C (.int 0) (hSt ds c st (some (IV p)) (some (IV ((p - c : Nat) : Int))) (some (IV ((min ds.length (p + c + 1) : Nat) : Int)))) = some (.d (.int 0)) from rfl) rfl
      have hnn : pt C (.ownNeNil 2) (hSt ds c st (some (IV p)) (some (IV ((p - c : Nat) : Int))) (some (IV ((min ds.length (p + c + 1) : Nat) : Int)))) = some true := by
        show (if 2 = 2 then some (!(st.map pairD).isEmpty) else Option.none) = _
        rw [if_pos rfl, hmap]; simp
      have hle : pt C (.cmp .le (.var 4) (.idx (.ownIdx 2 (.neg (.int 1))) (.int 1))) (hSt ds c st (some (IV p)) (some (IV ((p - c : Nat) : Int))) (some (IV ((min ds.length (p + c + 1) : Nat) : Int)))) = some (decide (p - c ≤ e0)) := by
        rw [pt_cmp (u := IV ((p - c : Nat) : Int)) rfl hl1 rfl]
        have : decide (((p - c : Nat) : Int) ≤ (e0 : Int)) = decide (p - c ≤ e0) := by simp only [Int.ofNat_le]
        rw [this]
      have hand : pt C (.andE (.cons (.ownNeNil 2) (.cons (.cmp .le (.var 4) (.idx (.ownIdx 2 (.neg (.int 1))) (.int 1))) .nil))) (hSt ds c st (some (IV p)) (some (IV ((p - c : Nat) : Int))) (some (IV ((min ds.length (p + c + 1) : Nat) : Int)))) = some (decide (p - c ≤ e0)) := by
        rw [ptAnd, pAndC, hnn, pAndC, hle, pAndN]
        cases decide (p - c ≤ e0) <;> rfl
      dsimp only
      by_cases hle' : p - c ≤ e0
      · rw [if_pos hle']
        refine (ite_t (by rw [hand, decide_eq_true hle']) ?_).trans rfl
        refine (st_step (σ' := hSt ds c (st.dropLast ++ [(s0, min ds.length (p + c + 1))]) (some (IV p)) (some (IV ((p - c : Nat) : Int))) (some (IV ((min ds.length (p + c + 1) : Nat) : Int)))) ?_).trans rfl
        have ht : pe C (.tup (.cons (.idx (.ownIdx 2 (.neg (.int 1))) (.int 0)) (.cons (.var 5) .nil))) (hSt ds c st (some (IV p)) (some (IV ((p - c : Nat) : Int))) (some (IV ((min ds.length (p + c + 1) : Nat) : Int)))) = some (.d (pairD (s0, min ds.length (p + c + 1)))) := by
          rw [peTup, pes2 hl0 (show pe C (.var 5) _ = some (IV ((min ds.length (p + c + 1) : Nat) : Int)) from rfl)]
          rfl
        rw [psPut, ht, show pe C (.neg (.int 1)) (hSt ds c st (some (IV p)) (some (IV ((p - c : Nat) : Int))) (some (IV ((min ds.length (p + c + 1) : Nat) : Int)))) = some (.d (.int (-1))) from rfl]
        show (if 2 = 2 ∧ -((st.map pairD).length : Int) ≤ -1 ∧ (-1 : Int) < ((st.map pairD).length : Int) then some (_, Option.none) else Option.none) = _
        have hlen : (st.map pairD).length = st.dropLast.length + 1 := by rw [hmap]; simp
        rw [if_pos ⟨rfl, by rw [hlen]; lia, by rw [hlen]; lia⟩]
        unfold hSt
        have hset : (st.map pairD).set (if (-1 : Int) < 0 then (-1 : Int) + ((st.map pairD).length : Int) else (-1 : Int)).toNat (pairD (s0, min ds.length (p + c + 1))) = (st.dropLast ++ [(s0, min ds.length (p + c + 1))]).map pairD := by
          rw [if_pos (by decide), hlen, show ((-1 : Int) + ((st.dropLast.length + 1 : Nat) : Int)).toNat = (st.dropLast.map pairD).length by rw [List.length_map]; lia, hmap, List.set_append_right _ _ (Nat.le_refl _), List.map_append]
          simp
        rw [hset]
      · rw [if_neg hle']
        refine (ite_f (by rw [hand, decide_eq_false hle']) ?_).trans rfl
        rw [st_step happ]
        rfl
noncomputable def stNext (ds : List Dd) (c p : Nat) (st : List (Nat × Nat)) : List (Nat × Nat) :=
  match ds[p]? with
  | some d => if d.1 = .keep then st else stepS ds.length c p st
  | Option.none => st
noncomputable def stFrom (ds : List Dd) (c : Nat) : List Nat → List (Nat × Nat) → List (Nat × Nat)
  | [], st => st
  | p :: r, st => stFrom ds c r (stNext ds c p st)
noncomputable def stretches (ds : List Dd) (c : Nat) : List (Nat × Nat) := stFrom ds c (List.range ds.length) []
theorem stepS_len (n c p : Nat) (st : List (Nat × Nat)) : (stepS n c p st).length ≤ st.length + 1 := by
  unfold stepS
  split
  · split
    · simp
    · simp
  · simp
theorem stNext_len (ds : List Dd) (c p : Nat) (st : List (Nat × Nat)) : (stNext ds c p st).length ≤ st.length + 1 := by
  unfold stNext
  split
  · split
    · lia
    · exact stepS_len _ _ _ _
  · lia
theorem stFrom_len (ds : List Dd) (c : Nat) : ∀ (ps : List Nat) (st : List (Nat × Nat)), (stFrom ds c ps st).length ≤ st.length + ps.length
  | [], st => Nat.le_refl _
  | p :: r, st => by
    have h1 := stFrom_len ds c r (stNext ds c p st)
    have h2 := stNext_len ds c p st
    rw [stFrom, List.length_cons]; lia
theorem st_loop (C : Nat → List PV → Option PV) {ds : List Dd} {c : Nat} : ∀ (ps : List Nat) (st : List (Nat × Nat)) (v3 v4 v5 : Option PV), (∀ p ∈ ps, p < ds.length) → st.length + ps.length < lim →
    ∃ v3' v4' v5', forO (fun x σ => pss C hBody (σ.set 3 (.d x))) (ps.map fun (k : Nat) => PyData.int k) (hSt ds c st v3 v4 v5) = some (hSt ds c (stFrom ds c ps st) v3' v4' v5', Option.none)
  | [], st, v3, v4, v5, _, _ => ⟨v3, v4, v5, rfl⟩
  | p :: r, st, v3, v4, v5, h, hl => by
    rw [List.length_cons] at hl
    have hp := h p (.head _)
    refine ea_2_1 (hBody_ok C (c := c) (st := st) (v3 := v3) (v4 := v4) (v5 := v5) (List.getElem?_eq_getElem hp) (by lia)) fun v4' v5' hb => ?_
    have hn : stNext ds c p st = (if (ds[p]).1 = .keep then st else stepS ds.length c p st) := by
      unfold stNext; rw [List.getElem?_eq_getElem hp]
    rw [← hn] at hb
    have hln := stNext_len ds c p st
    refine ea_3_1 (st_loop C (ds := ds) (c := c) r (stNext ds c p st) (some (IV p)) v4' v5' (fun q hq => h q (.tail _ hq)) (by lia)) fun w3 w4 w5 ih => ?_
    refine ⟨w3, w4, w5, ?_⟩
    rw [List.map_cons, forO, hb]
    dsimp only
    rw [ih, stFrom]
abbrev Hk := Nat × Nat × List Dd
noncomputable def hunkD (h : Hk) : PyData := .tuple [.int h.1, .int h.2.1, .list (h.2.2.map dueD)]
noncomputable def HV (hs : List Hk) : PV := .d (.list (hs.map hunkD))
noncomputable def hunkAt (ds : List Dd) (p : Nat × Nat) : Hk := ((srcs (ds.take p.1)).length, (tgts (ds.take p.1)).length, slN p.1 p.2 ds)
noncomputable def hunksOf (ds : List Dd) (c : Nat) : List Hk := (stretches ds c).map (hunkAt ds)
noncomputable def kBody : PSs := (.cons (.asg 8 (.sl (.var 0) .none (.idx (.var 7) (.int 0))))
    (.cons (.app 6 (.tup (.cons (.len (.call 4 (Str.ofString "source_of") (.cons (.var 8) .nil))) (.cons (.len (.call 5 (Str.ofString "target_of") (.cons (.var 8) .nil))) (.cons (.sl (.var 0) (.idx (.var 7) (.int 0)) (.idx (.var 7) (.int 1))) .nil)))))
    .nil))
noncomputable def kSt (ds : List Dd) (c : Nat) (v2 v3 v4 v5 : Option PV) (hs : List Hk) (v7 v8 : Option PV) : St := ⟨[some (DV ds), some (IV c), v2, v3, v4, v5, Option.none, v7, v8], some (6, .lst (hs.map hunkD))⟩
theorem slop_deeds (ds : List Dd) (i p : Nat) : slop (DV ds) (IV i) (IV p) = some (DV (slN i p ds)) := by
  show some (PV.d (.list (pslice (some (i : Int)) (some (p : Int)) (ds.map dueD)))) = _
  rw [pslice_nat, slN_map]; rfl
theorem slop_take (ds : List Dd) (p : Nat) : slop (DV ds) (.d .none) (IV p) = some (DV (ds.take p)) := by
  show some (PV.d (.list (pslice Option.none (some (p : Int)) (ds.map dueD)))) = _
  unfold pslice loN hiN clip
  simp only [if_neg (show ¬ ((p : Int) < 0) by lia), Int.toNat_natCast, List.drop_zero, ← List.map_take]
  rfl
theorem pe_len {C : Nat → List PV → Option PV} {e : PE} {σ : St} {xs : List PyData} (h : pe C e σ = some (.d (.list xs))) : pe C (.len e) σ = some (IV xs.length) := by
  rw [peLen, h]; rfl
theorem pe_tup3 {C : Nat → List PV → Option PV} {a b c : PE} {σ : St} {x y z : PyData} (h1 : pe C a σ = some (.d x)) (h2 : pe C b σ = some (.d y)) (h3 : pe C c σ = some (.d z)) :
    pe C (.tup (.cons a (.cons b (.cons c .nil)))) σ = some (.d (.tuple [x, y, z])) := by
  simp only [peTup, pesC, pesN, h1, h2, h3, asData, Option.map_some]
theorem kBody_ok (k : Nat) {ds : List Dd} {c : Nat} {v2 v3 v4 v5 v7 v8 : Option PV} {hs : List Hk} {p : Nat × Nat} (hl : hs.length < lim) (hd : ds.length ≤ lim) :
    ∃ v8', pss (callAt fns (k + 1)) kBody ((kSt ds c v2 v3 v4 v5 hs v7 v8).set 7 (.d (pairD p))) = some (kSt ds c v2 v3 v4 v5 (hs ++ [hunkAt ds p]) (some (.d (pairD p))) v8', Option.none) := by
  have hset : (kSt ds c v2 v3 v4 v5 hs v7 v8).set 7 (.d (pairD p)) = kSt ds c v2 v3 v4 v5 hs (some (.d (pairD p))) v8 := rfl
  rw [hset]
  unfold kBody
  have g0 : ∀ v8, pe (callAt fns (k + 1)) (.idx (.var 7) (.int 0)) (kSt ds c v2 v3 v4 v5 hs (some (.d (pairD p))) v8) = some (IV p.1) := fun Z => rfl
  have g1 : ∀ v8, pe (callAt fns (k + 1)) (.idx (.var 7) (.int 1)) (kSt ds c v2 v3 v4 v5 hs (some (.d (pairD p))) v8) = some (IV p.2) := fun Z => rfl
  rw [pe_asg (pe_sl (x := DV ds) (y := .d .none) rfl rfl (g0 v8) (slop_take ds p.1))]
  show ∃ v8', pss (callAt fns (k + 1)) _ (kSt ds c v2 v3 v4 v5 hs (some (.d (pairD p))) (some (DV (ds.take p.1)))) = _
  have ht : (ds.take p.1).length ≤ lim := by rw [List.length_take]; lia
  have c1 : pe (callAt fns (k + 1)) (.call 4 (Str.ofString "source_of") (.cons (.var 8) .nil)) (kSt ds c v2 v3 v4 v5 hs (some (.d (pairD p))) (some (DV (ds.take p.1)))) = some (Ls (srcs (ds.take p.1))) := pe_call (pes1 (x := DV (ds.take p.1)) rfl) (call_source _ ht k)
  have c2 : pe (callAt fns (k + 1)) (.call 5 (Str.ofString "target_of") (.cons (.var 8) .nil)) (kSt ds c v2 v3 v4 v5 hs (some (.d (pairD p))) (some (DV (ds.take p.1)))) = some (Ls (tgts (ds.take p.1))) := pe_call (pes1 (x := DV (ds.take p.1)) rfl) (call_target _ ht k)
  have l1 := pe_len c1
  have l2 := pe_len c2
  rw [List.length_map] at l1 l2
  have s3 := pe_sl (show pe (callAt fns (k + 1)) (.var 0) (kSt ds c v2 v3 v4 v5 hs (some (.d (pairD p))) (some (DV (ds.take p.1)))) = some (DV ds) from rfl) (g0 _) (g1 _) (slop_deeds ds p.1 p.2)
  refine ⟨some (DV (ds.take p.1)), ?_⟩
  rw [st_step (app_ok (xs := hs.map hunkD) rfl (pe_tup3 l1 l2 s3) (by simpa using hl))]
  show some (_, Option.none) = some (kSt ds c v2 v3 v4 v5 (hs ++ [hunkAt ds p]) _ _, Option.none)
  unfold kSt
  rw [List.map_append]
  rfl
theorem k_loop (k : Nat) {ds : List Dd} {c : Nat} {v2 v3 v4 v5 : Option PV} (hd : ds.length ≤ lim) : ∀ (st : List (Nat × Nat)) (hs : List Hk) (v7 v8 : Option PV), hs.length + st.length ≤ lim →
    ∃ v7' v8', forO (fun x σ => pss (callAt fns (k + 1)) kBody (σ.set 7 (.d x))) (st.map pairD) (kSt ds c v2 v3 v4 v5 hs v7 v8) = some (kSt ds c v2 v3 v4 v5 (hs ++ st.map (hunkAt ds)) v7' v8', Option.none)
  | [], hs, v7, v8, _ => ⟨v7, v8, by simp [forO]⟩
  | p :: st, hs, v7, v8, hl => by
    rw [List.length_cons] at hl
    refine ea_1_1 (kBody_ok k (ds := ds) (c := c) (v2 := v2) (v3 := v3) (v4 := v4) (v5 := v5) (v7 := v7) (v8 := v8) (hs := hs) (p := p) (by lia) hd) fun v8' hb => ?_
    obtain ⟨w7, w8, ih⟩ := k_loop k (ds := ds) (c := c) (v2 := v2) (v3 := v3) (v4 := v4) (v5 := v5) hd st (hs ++ [hunkAt ds p]) (some (.d (pairD p))) v8' (by simp; lia)
    refine ⟨w7, w8, ?_⟩
    rw [List.map_cons, forO, hb]
    dsimp only
    rw [ih]
    simp
theorem call_hunks {ds : List Dd} (c : Nat) (hl : ds.length ≤ 1000) (k : Nat) : callAt fns (k + 2) 7 [DV ds, IV c] = some (HV (hunksOf ds c)) := by
  have hlim : lim = 1000000 := rfl
  obtain ⟨v3, v4, v5, h1⟩ := st_loop (callAt fns (k + 1)) (ds := ds) (c := c) (List.range ds.length) [] Option.none Option.none Option.none (fun p hp => List.mem_range.mp hp) (by simp; lia)
  have hsl := stFrom_len ds c (List.range ds.length) []
  simp only [List.length_nil, List.length_range, Nat.zero_add] at hsl
  obtain ⟨v7, v8, h2⟩ := k_loop k (ds := ds) (c := c) (v2 := some (.d (.list ((stretches ds c).map pairD)))) (v3 := v3) (v4 := v4) (v5 := v5) (by lia) (stretches ds c) [] Option.none Option.none (by unfold stretches; simp; lia)
  refine call_of (fn := f_hunks_of) (σ' := ⟨[some (DV ds), some (IV c), some (.d (.list ((stretches ds c).map pairD))), v3, v4, v5, some (HV (hunksOf ds c)), v7, v8], Option.none⟩) rfl rfl ?_
  show pss (callAt fns (k + 1)) b_hunks_of ⟨[some (DV ds), some (IV c), Option.none, Option.none, Option.none, Option.none, Option.none, Option.none, Option.none], Option.none⟩ = _
  unfold b_hunks_of
  rw [st_step (σ' := hSt ds c [] Option.none Option.none Option.none) rfl]
  have hit : pit (callAt fns (k + 1)) (.range1 (.len (.var 0))) (hSt ds c [] Option.none Option.none Option.none) = some ((List.range ds.length).map fun (k : Nat) => .int k) := by
    have hln : pe (callAt fns (k + 1)) (.len (.var 0)) (hSt ds c [] Option.none Option.none Option.none) = some (IV ds.length) := by
      have := pe_len (show pe (callAt fns (k + 1)) (.var 0) (hSt ds c [] Option.none Option.none Option.none) = some (.d (.list (ds.map dueD))) from rfl)
      rwa [List.length_map] at this
    rw [pitR1, hln]
    exact rangeL_up ds.length (by lia)
  have hl1 := h1
  unfold hBody at hl1
  rw [st_step (by rw [psFor, hit]; exact hl1)]
  rw [st_step (σ' := ⟨[some (DV ds), some (IV c), some (.d (.list ((stretches ds c).map pairD))), v3, v4, v5, Option.none, Option.none, Option.none], Option.none⟩) rfl]
  rw [st_step (σ' := kSt ds c (some (.d (.list ((stretches ds c).map pairD)))) v3 v4 v5 [] Option.none Option.none) rfl]
  have hl2 := h2
  unfold kBody at hl2
  rw [st_step (by rw [psFor, show pit (callAt fns (k + 1)) (.var 2) (kSt ds c (some (.d (.list ((stretches ds c).map pairD)))) v3 v4 v5 [] Option.none Option.none) = some ((stretches ds c).map pairD) from rfl]; exact hl2)]
  rfl
noncomputable def natS (n : Nat) : Str := Str.ofString (toString (n : Int))
noncomputable def hdr (a b c d : Nat) : Str := concatStr [Str.ofString "@@ -", natS a, Str.ofString ",", natS b, Str.ofString " +", natS c, Str.ofString ",", natS d, Str.ofString " @@"]
theorem natS_len : ∀ n, n < 101 → (natS n).length ≤ 10 := by decide +kernel
theorem hdr_len {a b c d : Nat} (ha : a < 101) (hb : b < 101) (hc : c < 101) (hd : d < 101) : (hdr a b c d).length ≤ 100 := by
  unfold hdr
  rw [concat_len]
  have h1 := natS_len a ha
  have h2 := natS_len b hb
  have h3 := natS_len c hc
  have h4 := natS_len d hd
  have e1 : (Str.ofString "@@ -").length = 4 := by decide
  have e2 : (Str.ofString ",").length = 1 := by decide
  have e3 : (Str.ofString " +").length = 2 := by decide
  have e4 : (Str.ofString " @@").length = 3 := by decide
  simp only [List.map_cons, List.map_nil, List.sum_cons, List.sum_nil, e1, e2, e3, e4]
  lia
noncomputable def sgn (d : Dd) : Str := signK d.1 ++ d.2
noncomputable def hunkL (h : Hk) : List Str := hdr h.1 (srcs h.2.2).length h.2.1 (tgts h.2.2).length :: h.2.2.map sgn
noncomputable def tIn : PSs := (.cons (.ite (.cmp .eq (.idx (.var 3) (.int 0)) (.str (Str.ofString "del")))
        (.cons (.app 1 (.bin .add (.str (Str.ofString "-")) (.idx (.var 3) (.int 1))))
        .nil)
        (.cons (.ite (.cmp .eq (.idx (.var 3) (.int 0)) (.str (Str.ofString "add")))
          (.cons (.app 1 (.bin .add (.str (Str.ofString "+")) (.idx (.var 3) (.int 1))))
          .nil)
          (.cons (.app 1 (.bin .add (.str (Str.ofString " ")) (.idx (.var 3) (.int 1))))
          .nil))
        .nil))
      .nil)
noncomputable def tSt (v0 : PV) (ls : List Str) (v2 v3 : Option PV) : St := ⟨[some v0, Option.none, v2, v3], some (1, .lst (ls.map .str))⟩
theorem tApp (C : Nat → List PV → Option PV) {v0 : PV} {ls : List Str} {v2 v3 : Option PV} {e : PE} {x : Str} (h : pe C e (tSt v0 ls v2 v3) = some (SV x)) (hl : ls.length < lim) : pss C (.cons (.app 1 e) .nil) (tSt v0 ls v2 v3) = some (tSt v0 (ls ++ [x]) v2 v3, Option.none) := by
  rw [st_step (app_ok (xs := ls.map .str) rfl h (by simpa using hl))]
  show some (_, Option.none) = some (tSt v0 (ls ++ [x]) v2 v3, Option.none)
  unfold tSt
  rw [List.map_append]
  rfl
theorem tIn_ok (C : Nat → List PV → Option PV) {v0 : PV} {ls : List Str} {v2 v3 : Option PV} {d : Dd} (hl : ls.length < lim) (hd : d.2.length + 1 ≤ lim) : pss C tIn ((tSt v0 ls v2 v3).set 3 (.d (dueD d))) = some (tSt v0 (ls ++ [sgn d]) v2 (some (.d (dueD d))), Option.none) := by
  have hset : (tSt v0 ls v2 v3).set 3 (.d (dueD d)) = tSt v0 ls v2 (some (.d (dueD d))) := rfl
  rw [hset]
  have hx : ∀ s : Str, s.length = 1 → pe C (.bin .add (.str s) (.idx (.var 3) (.int 1))) (tSt v0 ls v2 (some (.d (dueD d)))) = some (SV (s ++ d.2)) := fun s hs => pe_bin (x := SV s) (y := SV d.2) rfl rfl (add_strs (by lia))
  have ck : ∀ s : Str, pt C (.cmp .eq (.idx (.var 3) (.int 0)) (.str s)) (tSt v0 ls v2 (some (.d (dueD d)))) = some (decide (nameK d.1 = s)) := fun s => rfl
  unfold tIn sgn
  obtain ⟨kd, l⟩ := d
  cases kd with
  | del =>
    rw [ite_t (by rw [ck]; rfl) (tApp C (hx _ rfl) hl)]
    rfl
  | add =>
    rw [ite_f (by rw [ck]; rfl) ((ite_t (by rw [ck]; rfl) (tApp C (hx _ rfl) hl)).trans rfl)]
    rfl
  | keep =>
    rw [ite_f (by rw [ck]; rfl) ((ite_f (by rw [ck]; rfl) (tApp C (hx _ rfl) hl)).trans rfl)]
    rfl
theorem tIn_loop (C : Nat → List PV → Option PV) {v0 : PV} {v2 : Option PV} : ∀ (ds : List Dd) (ls : List Str) (v3 : Option PV), ls.length + ds.length ≤ lim → (∀ d ∈ ds, d.2.length + 1 ≤ lim) →
    ∃ v3', forO (fun x σ => pss C tIn (σ.set 3 (.d x))) (ds.map dueD) (tSt v0 ls v2 v3) = some (tSt v0 (ls ++ ds.map sgn) v2 v3', Option.none)
  | [], ls, v3, _, _ => ⟨v3, by simp [forO]⟩
  | d :: ds, ls, v3, hl, h => by
    rw [List.length_cons] at hl
    obtain ⟨w, ih⟩ := tIn_loop C (v0 := v0) (v2 := v2) ds (ls ++ [sgn d]) (some (.d (dueD d))) (by simp; lia) fun x hx => h x (.tail _ hx)
    refine ⟨w, ?_⟩
    rw [List.map_cons, forO, tIn_ok C (by lia) (h d (.head _))]
    dsimp only
    rw [ih]
    simp
noncomputable def tHead : PE := (.fstr (.cons (.str (Str.ofString "@@ -")) (.cons (.idx (.var 2) (.int 0)) (.cons (.str (Str.ofString ",")) (.cons (.len (.call 4 (Str.ofString "source_of") (.cons (.idx (.var 2) (.int 2)) .nil))) (.cons (.str (Str.ofString " +")) (.cons (.idx (.var 2) (.int 1)) (.cons (.str (Str.ofString ",")) (.cons (.len (.call 5 (Str.ofString "target_of") (.cons (.idx (.var 2) (.int 2)) .nil))) (.cons (.str (Str.ofString " @@")) .nil))))))))))
noncomputable def tOut : PSs := (.cons (.app 1 tHead) (.cons (.for1 3 (.idx (.var 2) (.int 2)) tIn) .nil))
structure HkOk (h : Hk) : Prop where
  a : h.1 < 101
  b : h.2.1 < 101
  n : h.2.2.length < 101
  l : ∀ d ∈ h.2.2, d.2.length ≤ 1000
theorem srcs_le (ds : List Dd) : (srcs ds).length ≤ ds.length := by unfold srcs; rw [List.length_map]; exact List.length_filter_le _ _
theorem tgts_le (ds : List Dd) : (tgts ds).length ≤ ds.length := by unfold tgts; rw [List.length_map]; exact List.length_filter_le _ _
theorem text_nat {n : Nat} (h : n < 101) : textOf (IV n) = some (natS n) := by
  simp only [textOf, IV]
  rw [if_pos ⟨by lia, by lia⟩]
  rfl
theorem pes9 {C : Nat → List PV → Option PV} {σ : St} {a1 a2 a3 a4 a5 a6 a7 a8 a9 : PE} {x1 x2 x3 x4 x5 x6 x7 x8 x9 : PV} (h1 : pe C a1 σ = some x1) (h2 : pe C a2 σ = some x2) (h3 : pe C a3 σ = some x3) (h4 : pe C a4 σ = some x4) (h5 : pe C a5 σ = some x5) (h6 : pe C a6 σ = some x6) (h7 : pe C a7 σ = some x7) (h8 : pe C a8 σ = some x8) (h9 : pe C a9 σ = some x9) :
    pes C (.cons a1 (.cons a2 (.cons a3 (.cons a4 (.cons a5 (.cons a6 (.cons a7 (.cons a8 (.cons a9 .nil))))))))) σ = some [x1, x2, x3, x4, x5, x6, x7, x8, x9] := by
  rw [pesC, h1, pesC, h2, pesC, h3, pesC, h4, pesC, h5, pesC, h6, pesC, h7, pesC, h8, pesC, h9, pesN]
theorem pe_fstr {C : Nat → List PV → Option PV} {σ : St} {es : PEs} {vs : List PV} {ts : List Str} (h1 : pes C es σ = some vs) (h2 : mapO textOf vs = some ts) (h3 : (ts.map (·.length)).sum ≤ lim) : pe C (.fstr es) σ = some (SV (concatStr ts)) := by
  rw [peFstr, h1]
  dsimp only
  rw [h2]
  dsimp only
  rw [if_pos h3]
  rfl
theorem mapO_step {α β : Type} {f : α → Option β} {x : α} {y : β} {r : List α} {ys : List β} (h1 : f x = some y) (h2 : mapO f r = some ys) : mapO f (x :: r) = some (y :: ys) := by
  rw [mapO, h1]
  dsimp only
  rw [h2]
theorem text_str {s : Str} (h : s.length ≤ 1000) : textOf (SV s) = some s := by
  simp only [textOf, SV]; rw [if_pos h]
theorem fstr_hdr {C : Nat → List PV → Option PV} {σ : St} {e1 e2 e3 e4 : PE} {s5 : Str} {a b c d : Nat} (h1 : pe C e1 σ = some (IV a)) (h2 : pe C e2 σ = some (IV b)) (h3 : pe C e3 σ = some (IV c)) (h4 : pe C e4 σ = some (IV d)) (ha : a < 101) (hb : b < 101) (hc : c < 101) (hd : d < 101) (hs : s5.length ≤ 1000) :
    pe C (.fstr (.cons (.str (Str.ofString "@@ -")) (.cons e1 (.cons (.str (Str.ofString ",")) (.cons e2 (.cons (.str (Str.ofString " +")) (.cons e3 (.cons (.str (Str.ofString ",")) (.cons e4 (.cons (.str s5) .nil)))))))))) σ = some (SV (concatStr [Str.ofString "@@ -", natS a, Str.ofString ",", natS b, Str.ofString " +", natS c, Str.ofString ",", natS d, s5])) := by
  have hlim : lim = 1000000 := rfl
  have hstr : ∀ s, pe C (.str s) σ = some (SV s) := fun s => rfl
  have e1 : (Str.ofString "@@ -").length = 4 := by decide
  have e2 : (Str.ofString ",").length = 1 := by decide
  have e3 : (Str.ofString " +").length = 2 := by decide
  refine pe_fstr (pes9 (hstr _) h1 (hstr _) h2 (hstr _) h3 (hstr _) h4 (hstr _)) (mapO_step (text_str (by lia)) (mapO_step (text_nat ha) (mapO_step (text_str (by lia)) (mapO_step (text_nat hb) (mapO_step (text_str (by lia)) (mapO_step (text_nat hc) (mapO_step (text_str (by lia)) (mapO_step (text_nat hd) (mapO_step (text_str hs) rfl))))))))) ?_
  have q1 := natS_len a ha
  have q2 := natS_len b hb
  have q3 := natS_len c hc
  have q4 := natS_len d hd
  simp only [List.map_cons, List.map_nil, List.sum_cons, List.sum_nil, e1, e2, e3]
  lia
theorem tOut_ok (k : Nat) {v0 : PV} {ls : List Str} {v2 v3 : Option PV} {h : Hk} (ok : HkOk h) (hl : ls.length + h.2.2.length + 1 ≤ lim) : ∃ v3', pss (callAt fns (k + 1)) tOut ((tSt v0 ls v2 v3).set 2 (.d (hunkD h))) = some (tSt v0 (ls ++ hunkL h) (some (.d (hunkD h))) v3', Option.none) := by
  have hlim : lim = 1000000 := rfl
  have hset : (tSt v0 ls v2 v3).set 2 (.d (hunkD h)) = tSt v0 ls (some (.d (hunkD h))) v3 := rfl
  rw [hset]
  have g2 : ∀ ls v3, pe (callAt fns (k + 1)) (.idx (.var 2) (.int 2)) (tSt v0 ls (some (.d (hunkD h))) v3) = some (DV h.2.2) := fun Z Z => rfl
  have hn := ok.n
  have c1 := pe_len (pe_call (n := Str.ofString "source_of") (pes1 (g2 ls v3)) (call_source h.2.2 (by lia) k))
  have c2 := pe_len (pe_call (n := Str.ofString "target_of") (pes1 (g2 ls v3)) (call_target h.2.2 (by lia) k))
  rw [List.length_map] at c1 c2
  have l1 := srcs_le h.2.2
  have l2 := tgts_le h.2.2
  have hh : pe (callAt fns (k + 1)) tHead (tSt v0 ls (some (.d (hunkD h))) v3) = some (SV (hdr h.1 (srcs h.2.2).length h.2.1 (tgts h.2.2).length)) :=
    fstr_hdr (show pe (callAt fns (k + 1)) (.idx (.var 2) (.int 0)) (tSt v0 ls (some (.d (hunkD h))) v3) = some (IV h.1) from rfl) c1 (show pe (callAt fns (k + 1)) (.idx (.var 2) (.int 1)) (tSt v0 ls (some (.d (hunkD h))) v3) = some (IV h.2.1) from rfl) c2 ok.a (by lia) ok.b (by lia) (by decide)
  obtain ⟨v3', hlp⟩ := tIn_loop (callAt fns (k + 1)) (v0 := v0) (v2 := some (.d (hunkD h))) h.2.2 (ls ++ [hdr h.1 (srcs h.2.2).length h.2.1 (tgts h.2.2).length]) v3 (by simp; lia) (fun d hd => by have := ok.l d hd; lia)
  refine ⟨v3', ?_⟩
  unfold tOut
  have ha := tApp (callAt fns (k + 1)) hh (by lia)
  rw [pssC] at ha
  rw [pssC]
  cases hq : ps (callAt fns (k + 1)) (.app 1 tHead) (tSt v0 ls (some (.d (hunkD h))) v3) with
  | none => rw [hq] at ha; cases ha
  | some r =>
    rw [hq] at ha
    obtain ⟨σ', o⟩ := r
    cases o with
    | some p => cases ha
    | none =>
      dsimp only at ha ⊢
      rw [pssN] at ha
      cases ha
      rw [st_step (by rw [psFor, show pit (callAt fns (k + 1)) (.idx (.var 2) (.int 2)) (tSt v0 (ls ++ [hdr h.1 (srcs h.2.2).length h.2.1 (tgts h.2.2).length]) (some (.d (hunkD h))) v3) = some (h.2.2.map dueD) from rfl]; exact hlp)]
      unfold hunkL
      rw [List.append_assoc]
      rfl
theorem text_loop (k : Nat) {v0 : PV} : ∀ (hs : List Hk) (ls : List Str) (v2 v3 : Option PV), (∀ h ∈ hs, HkOk h) → ls.length + 102 * hs.length ≤ lim → ∃ v2' v3', forO (fun x σ => pss (callAt fns (k + 1)) tOut (σ.set 2 (.d x))) (hs.map hunkD) (tSt v0 ls v2 v3) = some (tSt v0 (ls ++ hs.flatMap hunkL) v2' v3', Option.none)
  | [], ls, v2, v3, _, _ => ⟨v2, v3, by simp [forO]⟩
  | h :: hs, ls, v2, v3, ok, hl => by
    rw [List.length_cons] at hl
    have hk := ok h (.head _)
    have hn := hk.n
    refine ea_1_1 (tOut_ok k (v0 := v0) (ls := ls) (v2 := v2) (v3 := v3) hk (by lia)) fun w3 hb => ?_
    obtain ⟨u2, u3, ih⟩ := text_loop k (v0 := v0) hs (ls ++ hunkL h) (some (.d (hunkD h))) w3 (fun x hx => ok x (.tail _ hx)) (by unfold hunkL; simp; lia)
    refine ⟨u2, u3, ?_⟩
    rw [List.map_cons, forO, hb]
    dsimp only
    rw [ih, List.flatMap_cons, List.append_assoc]
theorem call_text {hs : List Hk} (ok : ∀ h ∈ hs, HkOk h) (hl : hs.length ≤ 1000) (k : Nat) : callAt fns (k + 2) 8 [HV hs] = some (Ls (hs.flatMap hunkL)) := by
  have hlim : lim = 1000000 := rfl
  obtain ⟨v2, v3, hloop⟩ := text_loop k (v0 := HV hs) hs [] Option.none Option.none ok (by simp; lia)
  refine call_of (fn := f_hunk_text) (σ' := ⟨[some (HV hs), some (Ls (hs.flatMap hunkL)), v2, v3], Option.none⟩) rfl rfl ?_
  show pss (callAt fns (k + 1)) b_hunk_text ⟨[some (HV hs), Option.none, Option.none, Option.none], Option.none⟩ = _
  unfold b_hunk_text
  rw [st_step (σ' := tSt (HV hs) [] Option.none Option.none) rfl]
  have hl' := hloop
  unfold tOut tIn tHead at hl'
  rw [st_step (by rw [psFor, show pit (callAt fns (k + 1)) (.var 0) (tSt (HV hs) [] Option.none Option.none) = some (hs.map hunkD) from rfl]; exact hl')]
  rfl
abbrev endsNl (x : Str) : Prop := x.cps.toList.getLast? = some 10
noncomputable def markS : Str := Str.ofString "\\ No newline at end of file\n"
noncomputable def headS : Str := Str.ofString "@"
abbrev isHead (x : Str) : Prop := x.cps.toList.head? = some 64
noncomputable def pcl (x : Str) : Str := if isHead x then x ++ nl else if endsNl x then x else x ++ nl ++ markS
theorem strOf_one (l : List Nat) (c : Nat) : strOfList l = ⟨#[c]⟩ ↔ l = [c] := by
  unfold strOfList
  constructor
  · intro h
    injection h with h
    have := congrArg Array.toList h
    simpa using this
  · intro h; subst h; rfl
theorem first_slice (x : Str) : strOfList (pslice Option.none (some 1) x.cps.toList) = headS ↔ isHead x := by
  rw [show headS = ⟨#[64]⟩ from rfl, strOf_one]
  unfold isHead pslice loN hiN clip
  dsimp only
  rw [if_neg (by decide), List.drop_zero]
  cases x.cps.toList with
  | nil => simp
  | cons a l => simp
theorem last_slice (x : Str) : strOfList (pslice (some (-1)) Option.none x.cps.toList) = nl ↔ endsNl x := by
  rw [show nl = ⟨#[10]⟩ from rfl, strOf_one]
  unfold endsNl pslice loN hiN clip
  dsimp only
  rw [if_pos (by decide), List.take_length]
  generalize x.cps.toList = l
  cases hl : l.getLast? with
  | none =>
    have : l = [] := List.getLast?_eq_none_iff.mp hl
    subst this; simp
  | some c =>
    have hne : l ≠ [] := fun q => by rw [q] at hl; cases hl
    have hd := List.dropLast_concat_getLast hne
    rw [List.getLast?_eq_some_getLast hne] at hl
    rw [Option.some.inj hl] at hd
    rw [← hd]
    have : ((-1 : Int) + ((l.dropLast ++ [c]).length : Int)).toNat = l.dropLast.length := by simp; lia
    rw [this, List.drop_left]
    simp
noncomputable def pBody : PSs := (.cons (.ite (.cmp .eq (.sl (.var 2) .none (.int 1)) (.str (Str.ofString "@")))
      (.cons (.app 1 (.bin .add (.var 2) (.str (Str.ofString "\n"))))
      .nil)
      (.cons (.ite (.cmp .eq (.sl (.var 2) (.neg (.int 1)) .none) (.str (Str.ofString "\n")))
        (.cons (.app 1 (.var 2))
        .nil)
        (.cons (.app 1 (.bin .add (.bin .add (.var 2) (.str (Str.ofString "\n"))) (.glob 0)))
        .nil))
      .nil))
    .nil)
theorem pApp (C : Nat → List PV → Option PV) {v0 : PV} {ls : List Str} {v2 : Option PV} {e : PE} {x : Str} (h : pe C e (oSt v0 ls v2) = some (SV x)) (hl : ls.length < lim) : pss C (.cons (.app 1 e) .nil) (oSt v0 ls v2) = some (oSt v0 (ls ++ [x]) v2, Option.none) := by
  rw [st_step (app_ok (xs := ls.map .str) rfl h (by simpa using hl))]
  show some (_, Option.none) = some (oSt v0 (ls ++ [x]) v2, Option.none)
  unfold oSt
  rw [List.map_append]
  rfl
theorem pBody_ok (C : Nat → List PV → Option PV) {v0 : PV} {ls : List Str} {v2 : Option PV} {x : Str} (hl : ls.length < lim) (hx : x.length ≤ 5000) : pss C pBody ((oSt v0 ls v2).set 2 (.d (.str x))) = some (oSt v0 (ls ++ [pcl x]) (some (SV x)), Option.none) := by
  have hlim : lim = 1000000 := rfl
  have hset : (oSt v0 ls v2).set 2 (.d (.str x)) = oSt v0 ls (some (SV x)) := rfl
  rw [hset]
  have l1 : nl.length = 1 := by decide
  have l2 : markS.length = 28 := by decide
  have s1 : pe C (.sl (.var 2) .none (.int 1)) (oSt v0 ls (some (SV x))) = some (SV (strOfList (pslice Option.none (some 1) x.cps.toList))) := pe_sl (x := SV x) (y := .d .none) (z := .d (.int 1)) rfl rfl rfl rfl
  have s2 : pe C (.sl (.var 2) (.neg (.int 1)) .none) (oSt v0 ls (some (SV x))) = some (SV (strOfList (pslice (some (-1)) Option.none x.cps.toList))) := pe_sl (x := SV x) (y := .d (.int (-1))) (z := .d .none) rfl rfl rfl rfl
  have c1 : pt C (.cmp .eq (.sl (.var 2) .none (.int 1)) (.str (Str.ofString "@"))) (oSt v0 ls (some (SV x))) = some (decide (isHead x)) := by
    rw [pt_cmp s1 rfl (cmp_eq_str _ _)]
    exact congrArg some (decide_eq_decide.mpr (first_slice x))
  have c2 : pt C (.cmp .eq (.sl (.var 2) (.neg (.int 1)) .none) (.str (Str.ofString "\n"))) (oSt v0 ls (some (SV x))) = some (decide (endsNl x)) := by
    rw [pt_cmp s2 rfl (cmp_eq_str _ _)]
    exact congrArg some (decide_eq_decide.mpr (last_slice x))
  have b1 : pe C (.bin .add (.var 2) (.str (Str.ofString "\n"))) (oSt v0 ls (some (SV x))) = some (SV (x ++ nl)) := pe_bin (x := SV x) (y := SV nl) rfl rfl (add_strs (by lia))
  have b2 : pe C (.bin .add (.bin .add (.var 2) (.str (Str.ofString "\n"))) (.glob 0)) (oSt v0 ls (some (SV x))) = some (SV (x ++ nl ++ markS)) := pe_bin b1 (show pe C (.glob 0) (oSt v0 ls (some (SV x))) = some (SV markS) from rfl) (add_strs (by rw [len_app]; lia))
  unfold pBody pcl
  by_cases h1 : isHead x
  · rw [if_pos h1, ite_t (by rw [c1, decide_eq_true h1]) (pApp C b1 hl)]; rfl
  · rw [if_neg h1]
    by_cases h2 : endsNl x
    · rw [if_pos h2, ite_f (by rw [c1, decide_eq_false h1]) ((ite_t (by rw [c2, decide_eq_true h2]) (pApp C (show pe C (.var 2) _ = some (SV x) from rfl) hl)).trans rfl)]; rfl
    · rw [if_neg h2, ite_f (by rw [c1, decide_eq_false h1]) ((ite_f (by rw [c2, decide_eq_false h2]) (pApp C b2 hl)).trans rfl)]; rfl
theorem p_loop (C : Nat → List PV → Option PV) {v0 : PV} : ∀ (xs ls : List Str) (v2 : Option PV), (∀ x ∈ xs, x.length ≤ 5000) → ls.length + xs.length ≤ lim → ∃ v2', forO (fun x σ => pss C pBody (σ.set 2 (.d x))) (xs.map .str) (oSt v0 ls v2) = some (oSt v0 (ls ++ xs.map pcl) v2', Option.none)
  | [], ls, v2, _, _ => ⟨v2, by simp [forO]⟩
  | x :: xs, ls, v2, h, hl => by
    rw [List.length_cons] at hl
    obtain ⟨w, ih⟩ := p_loop C (v0 := v0) xs (ls ++ [pcl x]) (some (SV x)) (fun y hy => h y (.tail _ hy)) (by simp; lia)
    refine ⟨w, ?_⟩
    rw [List.map_cons, forO, pBody_ok C (by lia) (h x (.head _))]
    dsimp only
    rw [ih]
    simp
noncomputable def patchOf (hs : List Hk) : Str := concatStr ((hs.flatMap hunkL).map pcl)
theorem call_patch {hs : List Hk} (ok : ∀ h ∈ hs, HkOk h) (hl : hs.length ≤ 100) (hp : (patchOf hs).length ≤ lim) (k : Nat) : callAt fns (k + 3) 14 [HV hs] = some (SV (patchOf hs)) := by
  have hlim : lim = 1000000 := rfl
  have hall : ∀ x ∈ hs.flatMap hunkL, x.length ≤ 5000 := fun x hx => by
    refine ea_1_2 (List.mem_flatMap.mp hx) fun h hh hx => ?_
    have o := ok h hh
    have hn := o.n
    unfold hunkL at hx
    rcases List.mem_cons.mp hx with rfl | hx
    · have s1 := srcs_le h.2.2
      have s2 := tgts_le h.2.2
      have := hdr_len (a := h.1) (b := (srcs h.2.2).length) (c := h.2.1) (d := (tgts h.2.2).length) o.a (by lia) o.b (by lia)
      lia
    · refine ea_1_2 (List.mem_map.mp hx) fun d hd hrf2 => ?_
      subst hrf2
      have := o.l d hd
      unfold sgn
      rw [len_app]
      have : (signK d.1).length = 1 := by cases d.1 <;> rfl
      lia
  have hcount : (hs.flatMap hunkL).length ≤ 102 * hs.length := by
    clear hall hp
    induction hs with
    | nil => simp
    | cons h hs ih =>
      have o := (ok h (.head _)).n
      have := ih (fun x hx => ok x (.tail _ hx)) (by simp at hl; lia)
      rw [List.flatMap_cons, List.length_append, List.length_cons]
      unfold hunkL at this ⊢
      simp only [List.length_cons, List.length_map]
      lia
  obtain ⟨v2, hloop⟩ := p_loop (callAt fns (k + 2)) (v0 := HV hs) (hs.flatMap hunkL) [] Option.none hall (by rw [List.length_nil]; lia)
  refine call_of (fn := f_patch_content) (σ' := ⟨[some (HV hs), some (Ls ((hs.flatMap hunkL).map pcl)), v2], Option.none⟩) rfl rfl ?_
  show pss (callAt fns (k + 2)) b_patch_content ⟨[some (HV hs), Option.none, Option.none], Option.none⟩ = _
  unfold b_patch_content
  rw [st_step (σ' := oSt (HV hs) [] Option.none) rfl]
  have hl' := hloop
  unfold pBody at hl'
  have hit : pit (callAt fns (k + 2)) (.call 8 (Str.ofString "hunk_text") (.cons (.var 0) .nil)) (oSt (HV hs) [] Option.none) = some ((hs.flatMap hunkL).map .str) := pit_call (pes1 (x := HV hs) rfl) (call_text ok (by lia) k)
  rw [st_step (by rw [psFor, hit]; exact hl')]
  rw [st_step (σ' := ⟨[some (HV hs), some (Ls ((hs.flatMap hunkL).map pcl)), v2], Option.none⟩) rfl]
  exact ret_ok (pe_join rfl hp)
noncomputable def invK : Kd → Kd
  | .keep => .keep
  | .del => .add
  | .add => .del
noncomputable def invD (d : Dd) : Dd := (invK d.1, d.2)
noncomputable def invH (h : Hk) : Hk := (h.2.1, h.1, h.2.2.map invD)
noncomputable def vBody : PSs := (.cons (.ite (.cmp .eq (.idx (.var 2) (.int 0)) (.str (Str.ofString "add")))
      (.cons (.app 1 (.tup (.cons (.str (Str.ofString "del")) (.cons (.idx (.var 2) (.int 1)) .nil))))
      .nil)
      (.cons (.ite (.cmp .eq (.idx (.var 2) (.int 0)) (.str (Str.ofString "del")))
        (.cons (.app 1 (.tup (.cons (.str (Str.ofString "add")) (.cons (.idx (.var 2) (.int 1)) .nil))))
        .nil)
        (.cons (.app 1 (.tup (.cons (.idx (.var 2) (.int 0)) (.cons (.idx (.var 2) (.int 1)) .nil))))
        .nil))
      .nil))
    .nil)
noncomputable def vSt (v0 : PV) (ls : List Dd) (v2 : Option PV) : St := ⟨[some v0, Option.none, v2], some (1, .lst (ls.map dueD))⟩
theorem vApp (C : Nat → List PV → Option PV) {v0 : PV} {ls : List Dd} {v2 : Option PV} {e : PE} {x : Dd} (h : pe C e (vSt v0 ls v2) = some (.d (dueD x))) (hl : ls.length < lim) : pss C (.cons (.app 1 e) .nil) (vSt v0 ls v2) = some (vSt v0 (ls ++ [x]) v2, Option.none) := by
  rw [st_step (app_ok (xs := ls.map dueD) rfl h (by simpa using hl))]
  show some (_, Option.none) = some (vSt v0 (ls ++ [x]) v2, Option.none)
  unfold vSt
  rw [List.map_append]
  rfl
theorem vBody_ok (C : Nat → List PV → Option PV) {v0 : PV} {ls : List Dd} {v2 : Option PV} {d : Dd} (hl : ls.length < lim) : pss C vBody ((vSt v0 ls v2).set 2 (.d (dueD d))) = some (vSt v0 (ls ++ [invD d]) (some (.d (dueD d))), Option.none) := by
  have hset : (vSt v0 ls v2).set 2 (.d (dueD d)) = vSt v0 ls (some (.d (dueD d))) := rfl
  rw [hset]
  have ck : ∀ s : Str, pt C (.cmp .eq (.idx (.var 2) (.int 0)) (.str s)) (vSt v0 ls (some (.d (dueD d)))) = some (decide (nameK d.1 = s)) := fun s => rfl
  unfold vBody
  obtain ⟨kd, l⟩ := d
  cases kd with
  | add =>
    rw [ite_t (by rw [ck]; rfl) (vApp C (x := invD (.add, l)) rfl hl)]; rfl
  | del =>
    rw [ite_f (by rw [ck]; rfl) ((ite_t (by rw [ck]; rfl) (vApp C (x := invD (.del, l)) rfl hl)).trans rfl)]; rfl
  | keep =>
    rw [ite_f (by rw [ck]; rfl) ((ite_f (by rw [ck]; rfl) (vApp C (x := invD (.keep, l)) rfl hl)).trans rfl)]; rfl
theorem v_loop (C : Nat → List PV → Option PV) {v0 : PV} : ∀ (ds ls : List Dd) (v2 : Option PV), ls.length + ds.length ≤ lim → ∃ v2', forO (fun x σ => pss C vBody (σ.set 2 (.d x))) (ds.map dueD) (vSt v0 ls v2) = some (vSt v0 (ls ++ ds.map invD) v2', Option.none)
  | [], ls, v2, _ => ⟨v2, by simp [forO]⟩
  | d :: ds, ls, v2, hl => by
    rw [List.length_cons] at hl
    obtain ⟨w, ih⟩ := v_loop C (v0 := v0) ds (ls ++ [invD d]) (some (.d (dueD d))) (by simp; lia)
    refine ⟨w, ?_⟩
    rw [List.map_cons, forO, vBody_ok C (by lia)]
    dsimp only
    rw [ih]
    simp
theorem call_inverse {ds : List Dd} (hl : ds.length ≤ lim) (k : Nat) : callAt fns (k + 1) 6 [DV ds] = some (DV (ds.map invD)) := by
  refine ea_1_1 (v_loop (callAt fns k) (v0 := DV ds) ds [] Option.none (by simpa using hl)) fun v2 hloop => ?_
  refine call_of (fn := f_inverse_of) (σ' := ⟨[some (DV ds), some (DV (ds.map invD)), v2], Option.none⟩) rfl rfl ?_
  show pss (callAt fns k) b_inverse_of ⟨[some (DV ds), Option.none, Option.none], Option.none⟩ = _
  unfold b_inverse_of
  rw [st_step (σ' := vSt (DV ds) [] Option.none) rfl]
  have hl' := hloop
  unfold vBody at hl'
  rw [st_step (by rw [psFor, show pit (callAt fns k) (.var 0) (vSt (DV ds) [] Option.none) = some (ds.map dueD) from rfl]; exact hl')]
  rfl
theorem call_invHunks {hs : List Hk} (hl : hs.length ≤ lim) (hd : ∀ h ∈ hs, h.2.2.length ≤ lim) (k : Nat) : callAt fns (k + 2) 15 [HV hs] = some (HV (hs.map invH)) := by
  refine call_of (fn := f_inverse_hunks) (σ' := ⟨[some (HV hs)], Option.none⟩) rfl rfl ?_
  show pss (callAt fns (k + 1)) b_inverse_hunks ⟨[some (HV hs)], Option.none⟩ = _
  unfold b_inverse_hunks
  refine ret_ok ?_
  rw [peComp, show pit (callAt fns (k + 1)) (.var 0) ⟨[some (HV hs)], Option.none⟩ = some (hs.map hunkD) from rfl]
  dsimp only
  rw [if_pos (by simpa using hl)]
  have go : ∀ (f : PyData → Option PyData), (∀ h ∈ hs, f (hunkD h) = some (hunkD (invH h))) → mapO f (hs.map hunkD) = some ((hs.map invH).map hunkD) := by
    intro f
    clear hl hd
    induction hs with
    | nil => intro _; rfl
    | cons h hs ih =>
      intro hf
      rw [List.map_cons, List.map_cons, List.map_cons]
      exact mapO_step (hf h (.head _)) (ih fun x hx => hf x (.tail _ hx))
  rw [go _ (fun h hh => ?_)]
  · rfl
  · have c : pe (callAt fns (k + 1)) (.call 6 (Str.ofString "inverse_of") (.cons (.idx (.var 0) (.int 2)) .nil)) (inner ⟨[some (HV hs)], Option.none⟩ [] (hunkD h)) = some (DV (h.2.2.map invD)) := pe_call (pes1 (x := DV h.2.2) rfl) (call_inverse (hd h hh) k)
    rw [pe_tup3 (x := .int h.2.1) (y := .int h.1) rfl rfl c]
    rfl
noncomputable def deedS (d : Dd) : PyData := deedD (signK d.1) d.2
noncomputable def SDV (ds : List Dd) : PV := .d (.list (ds.map deedS))
noncomputable def hdrN (a b c d : Nat) : Str := concatStr [Str.ofString "@@ -", natS a, Str.ofString ",", natS b, Str.ofString " +", natS c, Str.ofString ",", natS d, Str.ofString " @@\n"]
noncomputable def whunk (body : Str) (s0 s t0 t : Nat) : Str := if body = Str.ofString "" then Str.ofString "" else hdrN s0 (s - s0) t0 (t - t0) ++ body
theorem hdrN_len {a b c d : Nat} (ha : a < 101) (hb : b < 101) (hc : c < 101) (hd : d < 101) : (hdrN a b c d).length ≤ 100 := by
  unfold hdrN
  rw [concat_len]
  have h1 := natS_len a ha
  have h2 := natS_len b hb
  have h3 := natS_len c hc
  have h4 := natS_len d hd
  have e1 : (Str.ofString "@@ -").length = 4 := by decide
  have e2 : (Str.ofString ",").length = 1 := by decide
  have e3 : (Str.ofString " +").length = 2 := by decide
  have e4 : (Str.ofString " @@\n").length = 4 := by decide
  simp only [List.map_cons, List.map_nil, List.sum_cons, List.sum_nil, e1, e2, e3, e4]
  lia
theorem call_whunk {body : Str} {s0 s t0 t : Nat} (h1 : s0 ≤ s) (h2 : t0 ≤ t) (hs : s < 101) (ht : t < 101) (hb : body.length ≤ 500000) (k : Nat) : callAt fns (k + 1) 25 [SV body, IV s0, IV s, IV t0, IV t] = some (SV (whunk body s0 s t0 t)) := by
  have hlim : lim = 1000000 := rfl
  refine call_of (fn := f_law_hunk) (σ' := ⟨[some (SV body), some (IV s0), some (IV s), some (IV t0), some (IV t)], Option.none⟩) rfl rfl ?_
  show pss (callAt fns k) b_law_hunk ⟨[some (SV body), some (IV s0), some (IV s), some (IV t0), some (IV t)], Option.none⟩ = _
  unfold b_law_hunk whunk
  have c1 : pt (callAt fns k) (.cmp .eq (.var 0) (.str (Str.ofString ""))) ⟨[some (SV body), some (IV s0), some (IV s), some (IV t0), some (IV t)], Option.none⟩ = some (decide (body = Str.ofString "")) := rfl
  by_cases h : body = Str.ofString ""
  · rw [if_pos h, ite_tr (p := SV (Str.ofString "")) (by rw [c1, decide_eq_true h]) rfl]
  · rw [if_neg h, ite_f (by rw [c1, decide_eq_false h]) rfl]
    have e1 : (s : Int) - (s0 : Int) = ((s - s0 : Nat) : Int) := by lia
    have e2 : (t : Int) - (t0 : Int) = ((t - t0 : Nat) : Int) := by lia
    have q1 : pe (callAt fns k) (.bin .sub (.var 2) (.var 1)) ⟨[some (SV body), some (IV s0), some (IV s), some (IV t0), some (IV t)], Option.none⟩ = some (IV ((s - s0 : Nat) : Int)) := by rw [← e1]; rfl
    have q2 : pe (callAt fns k) (.bin .sub (.var 4) (.var 3)) ⟨[some (SV body), some (IV s0), some (IV s), some (IV t0), some (IV t)], Option.none⟩ = some (IV ((t - t0 : Nat) : Int)) := by rw [← e2]; rfl
    have hf := fstr_hdr (C := callAt fns k) (s5 := Str.ofString " @@\n") (show pe (callAt fns k) (.var 1) ⟨[some (SV body), some (IV s0), some (IV s), some (IV t0), some (IV t)], Option.none⟩ = some (IV s0) from rfl) q1 (show pe (callAt fns k) (.var 3) ⟨[some (SV body), some (IV s0), some (IV s), some (IV t0), some (IV t)], Option.none⟩ = some (IV t0) from rfl) q2 (by lia) (by lia) (by lia) (by lia) (by decide)
    have hln := hdrN_len (a := s0) (b := s - s0) (c := t0) (d := t - t0) (by lia) (by lia) (by lia) (by lia)
    exact ret_ok (pe_bin hf (y := SV body) rfl (add_strs (by show (hdrN s0 (s - s0) t0 (t - t0)).length + _ ≤ _; lia)))
structure WS where
  out : Str
  body : Str
  s : Nat
  t : Nat
  s0 : Nat
  t0 : Nat
noncomputable def lineT (l : Str) : Str := if endsNl l then Str.ofString "" else nl ++ markS
noncomputable def W1 (near : Bool) (d : Dd) (w : WS) : WS :=
  if near then
    ⟨w.out, if endsNl d.2 then w.body ++ signK d.1 ++ d.2 else w.body ++ signK d.1 ++ d.2 ++ nl ++ markS, w.s + (if d.1 = .add then 0 else 1), w.t + (if d.1 = .del then 0 else 1), if w.body = Str.ofString "" then w.s else w.s0, if w.body = Str.ofString "" then w.t else w.t0⟩
  else ⟨w.out ++ whunk w.body w.s0 w.s w.t0 w.t, Str.ofString "", w.s + (if d.1 = .add then 0 else 1), w.t + (if d.1 = .del then 0 else 1), w.s0, w.t0⟩
noncomputable def wSt (ds : List Dd) (c : Nat) (ch : List Nat) (w : WS) (v9 v10 v11 : Option PV) : St :=
  ⟨[some (SDV ds), some (IV c), some (.d (.list (ch.map fun (k : Nat) => PyData.int k))), some (SV w.out), some (SV w.body), some (IV w.s), some (IV w.t), some (IV w.s0), some (IV w.t0), v9, v10, v11], Option.none⟩
noncomputable def nearB (c : Nat) (ch : List Nat) (i : Nat) : Bool := ch.any fun j => decide (i ≤ j + c ∧ j ≤ i + c)
noncomputable def wTest : PE := .anyg [1, 9] (.cmp .le (.abs (.bin .sub (.var 2) (.var 0))) (.var 1)) (.var 2)
theorem wTest_ok (C : Nat → List PV → Option PV) {ds : List Dd} {c : Nat} {ch : List Nat} {w : WS} {i : Nat} {v10 v11 : Option PV} (hl : ch.length ≤ lim) : pt C wTest (wSt ds c ch w (some (IV i)) v10 v11) = some (nearB c ch i) := by
  unfold wTest
  rw [ptAny, show pit C (.var 2) (wSt ds c ch w (some (IV i)) v10 v11) = some (ch.map fun (k : Nat) => PyData.int k) from rfl]
  dsimp only
  rw [if_pos (by simpa using hl)]
  have go : ∀ (f : PyData → Option Bool), (∀ j : Nat, f (.int j) = some (decide (i ≤ j + c ∧ j ≤ i + c))) → mapO f (ch.map fun (k : Nat) => PyData.int k) = some (ch.map fun j => decide (i ≤ j + c ∧ j ≤ i + c)) := by
    intro f hf
    clear hl
    induction ch with
    | nil => rfl
    | cons j ch ih =>
      rw [List.map_cons, List.map_cons]
      exact mapO_step (hf j) ih
  rw [go _ (fun j => ?_)]
  · show some ((ch.map fun j => decide (i ≤ j + c ∧ j ≤ i + c)).any id) = _
    unfold nearB
    rw [List.any_map]
    rfl
  · show some (decide ((if (i : Int) - (j : Int) < 0 then -((i : Int) - (j : Int)) else (i : Int) - (j : Int)) ≤ (c : Int))) = _
    congr 1
    apply decide_eq_decide.mpr
    split <;> lia
noncomputable def wNear : PSs := (.cons (.ite (.cmp .eq (.var 4) (.str (Str.ofString "")))
        (.cons (.asg 7 (.var 5))
        (.cons (.asg 8 (.var 6))
        .nil))
        .nil)
      (.cons (.asg 4 (.bin .add (.bin .add (.var 4) (.var 10)) (.var 11)))
      (.cons (.ite (.cmp .ne (.sl (.var 11) (.neg (.int 1)) .none) (.str (Str.ofString "\n")))
        (.cons (.asg 4 (.bin .add (.bin .add (.var 4) (.str (Str.ofString "\n"))) (.glob 1)))
        .nil)
        .nil)
      .nil)))
noncomputable def wFar : PSs := (.cons (.asg 3 (.bin .add (.var 3) (.call 25 (Str.ofString "_law_hunk") (.cons (.var 4) (.cons (.var 7) (.cons (.var 5) (.cons (.var 8) (.cons (.var 6) .nil))))))))
      (.cons (.asg 4 (.str (Str.ofString "")))
      .nil))
noncomputable def wCount : PSs := (.cons (.ite (.cmp .ne (.var 10) (.str (Str.ofString "+")))
      (.cons (.aug 5 (.int 1))
      .nil)
      .nil)
    (.cons (.ite (.cmp .ne (.var 10) (.str (Str.ofString "-")))
      (.cons (.aug 6 (.int 1))
      .nil)
      .nil)
    .nil))
noncomputable def wBody : PSs := (.cons (.unp 10 11 (.idx (.var 0) (.var 9))) (.cons (.ite wTest wNear wFar) wCount))
theorem sign_add (k : Kd) : (!decide (signK k = Str.ofString "+")) = decide (k ≠ .add) := by cases k <;> decide
theorem sign_del (k : Kd) : (!decide (signK k = Str.ofString "-")) = decide (k ≠ .del) := by cases k <;> decide
theorem wCount_ok (C : Nat → List PV → Option PV) {ds : List Dd} {c : Nat} {ch : List Nat} {w : WS} {v9 : Option PV} {d : Dd} : pss C wCount (wSt ds c ch w v9 (some (SV (signK d.1))) (some (SV d.2))) =
    some (wSt ds c ch { w with s := w.s + (if d.1 = .add then 0 else 1), t := w.t + (if d.1 = .del then 0 else 1) } v9 (some (SV (signK d.1))) (some (SV d.2)), Option.none) := by
  have c1 : ∀ w, pt C (.cmp .ne (.var 10) (.str (Str.ofString "+"))) (wSt ds c ch w v9 (some (SV (signK d.1))) (some (SV d.2))) = some (decide (d.1 ≠ .add)) := fun w => (show _ = some (!decide (signK d.1 = Str.ofString "+")) from rfl).trans (congrArg some (sign_add d.1))
  have c2 : ∀ w, pt C (.cmp .ne (.var 10) (.str (Str.ofString "-"))) (wSt ds c ch w v9 (some (SV (signK d.1))) (some (SV d.2))) = some (decide (d.1 ≠ .del)) := fun w => (show _ = some (!decide (signK d.1 = Str.ofString "-")) from rfl).trans (congrArg some (sign_del d.1))
  unfold wCount
  have s1 : ∀ ss, pss C (.cons (.ite (.cmp .ne (.var 10) (.str (Str.ofString "+"))) (.cons (.aug 5 (.int 1)) .nil) .nil) ss) (wSt ds c ch w v9 (some (SV (signK d.1))) (some (SV d.2))) = pss C ss (wSt ds c ch { w with s := w.s + (if d.1 = .add then 0 else 1) } v9 (some (SV (signK d.1))) (some (SV d.2))) := fun ss => by
    by_cases h : d.1 = .add
    · rw [ite_f (by rw [c1, decide_eq_false (fun q => q h)]) rfl, if_pos h]; rfl
    · rw [ite_t (σ' := wSt ds c ch { w with s := w.s + 1 } v9 (some (SV (signK d.1))) (some (SV d.2))) (by rw [c1, decide_eq_true h]) rfl, if_neg h]
  have s2 : ∀ w ss, pss C (.cons (.ite (.cmp .ne (.var 10) (.str (Str.ofString "-"))) (.cons (.aug 6 (.int 1)) .nil) .nil) ss) (wSt ds c ch w v9 (some (SV (signK d.1))) (some (SV d.2))) = pss C ss (wSt ds c ch { w with t := w.t + (if d.1 = .del then 0 else 1) } v9 (some (SV (signK d.1))) (some (SV d.2))) := fun w ss => by
    by_cases h : d.1 = .del
    · rw [ite_f (by rw [c2, decide_eq_false (fun q => q h)]) rfl, if_pos h]; rfl
    · rw [ite_t (σ' := wSt ds c ch { w with t := w.t + 1 } v9 (some (SV (signK d.1))) (some (SV d.2))) (by rw [c2, decide_eq_true h]) rfl, if_neg h]
  rw [s1, s2]
  rfl
structure WOk (w : WS) : Prop where
  s : w.s0 ≤ w.s
  t : w.t0 ≤ w.t
theorem wBody_ok (k : Nat) {ds : List Dd} {c : Nat} {ch : List Nat} {w : WS} {i : Nat} {v9 v10 v11 : Option PV} {d : Dd} (hd : ds[i]? = some d) (hch : ch.length ≤ lim) (ok : WOk w) (hs : w.s < 101) (ht : w.t < 101) (hb : w.out.length + w.body.length ≤ 400000) (hdl : d.2.length ≤ 1000) :
    pss (callAt fns (k + 1)) wBody ((wSt ds c ch w v9 v10 v11).set 9 (.d (.int i))) = some (wSt ds c ch (W1 (nearB c ch i) d w) (some (IV i)) (some (SV (signK d.1))) (some (SV d.2)), Option.none) := by
  have hlim : lim = 1000000 := rfl
  have hset : (wSt ds c ch w v9 v10 v11).set 9 (.d (.int i)) = wSt ds c ch w (some (IV i)) v10 v11 := rfl
  rw [hset]
  have hp : (ds.map deedS)[i]? = some (deedS d) := by rw [List.getElem?_map, hd]; rfl
  have hx : pe (callAt fns (k + 1)) (.idx (.var 0) (.var 9)) (wSt ds c ch w (some (IV i)) v10 v11) = some (.d (.tuple [.str (signK d.1), .str d.2])) := by
    refine pe_idx (x := SDV ds) (y := IV i) rfl rfl ?_
    simp only [idxop, SDV, IV, pidx_nat, hp, Option.map_some]; rfl
  unfold wBody
  rw [st_step (σ' := wSt ds c ch w (some (IV i)) (some (SV (signK d.1))) (some (SV d.2))) (by rw [psUnp, hx]; rfl)]
  have hsl : (signK d.1).length = 1 := by cases d.1 <;> rfl
  have ht' := wTest_ok (callAt fns (k + 1)) (ds := ds) (c := c) (w := w) (i := i) (v10 := some (SV (signK d.1))) (v11 := some (SV d.2)) hch
  unfold W1
  cases hn : nearB c ch i with
  | true =>
    rw [hn] at ht'
    rw [if_pos rfl]
    have hnear : pss (callAt fns (k + 1)) wNear (wSt ds c ch w (some (IV i)) (some (SV (signK d.1))) (some (SV d.2))) = some (wSt ds c ch ⟨w.out, if endsNl d.2 then w.body ++ signK d.1 ++ d.2 else w.body ++ signK d.1 ++ d.2 ++ nl ++ markS, w.s, w.t, if w.body = Str.ofString "" then w.s else w.s0, if w.body = Str.ofString "" then w.t else w.t0⟩ (some (IV i)) (some (SV (signK d.1))) (some (SV d.2)), Option.none) := by
      unfold wNear
      have s1 : ∀ ss, pss (callAt fns (k + 1)) (.cons (.ite (.cmp .eq (.var 4) (.str (Str.ofString ""))) (.cons (.asg 7 (.var 5)) (.cons (.asg 8 (.var 6)) .nil)) .nil) ss) (wSt ds c ch w (some (IV i)) (some (SV (signK d.1))) (some (SV d.2))) =
          pss (callAt fns (k + 1)) ss (wSt ds c ch { w with s0 := if w.body = Str.ofString "" then w.s else w.s0, t0 := if w.body = Str.ofString "" then w.t else w.t0 } (some (IV i)) (some (SV (signK d.1))) (some (SV d.2))) := fun ss => by
        have c1 : pt (callAt fns (k + 1)) (.cmp .eq (.var 4) (.str (Str.ofString ""))) (wSt ds c ch w (some (IV i)) (some (SV (signK d.1))) (some (SV d.2))) = some (decide (w.body = Str.ofString "")) := rfl
        by_cases h : w.body = Str.ofString ""
        · rw [ite_t (σ' := wSt ds c ch { w with s0 := w.s, t0 := w.t } (some (IV i)) (some (SV (signK d.1))) (some (SV d.2))) (by rw [c1, decide_eq_true h]) rfl, if_pos h, if_pos h]
        · rw [ite_f (by rw [c1, decide_eq_false h]) rfl, if_neg h, if_neg h]
      rw [s1]
      have b1 : ∀ w' : WS, w'.body = w.body → pe (callAt fns (k + 1)) (.bin .add (.bin .add (.var 4) (.var 10)) (.var 11)) (wSt ds c ch w' (some (IV i)) (some (SV (signK d.1))) (some (SV d.2))) = some (SV (w.body ++ signK d.1 ++ d.2)) := fun w' e =>
        pe_bin (pe_bin (x := SV w.body) (y := SV (signK d.1)) (by rw [← e]; rfl) rfl (add_strs (by lia))) (y := SV d.2) rfl (add_strs (by rw [len_app]; lia))
      rw [pe_asg (b1 ⟨w.out, w.body, w.s, w.t, if w.body = Str.ofString "" then w.s else w.s0, if w.body = Str.ofString "" then w.t else w.t0⟩ rfl)]
      show pss (callAt fns (k + 1)) _ (wSt ds c ch ⟨w.out, w.body ++ signK d.1 ++ d.2, w.s, w.t, if w.body = Str.ofString "" then w.s else w.s0, if w.body = Str.ofString "" then w.t else w.t0⟩ (some (IV i)) (some (SV (signK d.1))) (some (SV d.2))) = _
      have c2 : pt (callAt fns (k + 1)) (.cmp .ne (.sl (.var 11) (.neg (.int 1)) .none) (.str (Str.ofString "\n"))) (wSt ds c ch ⟨w.out, w.body ++ signK d.1 ++ d.2, w.s, w.t, if w.body = Str.ofString "" then w.s else w.s0, if w.body = Str.ofString "" then w.t else w.t0⟩ (some (IV i)) (some (SV (signK d.1))) (some (SV d.2))) = some (!decide (endsNl d.2)) := by
        rw [pt_cmp (pe_sl (x := SV d.2) (y := .d (.int (-1))) (z := .d .none) (w := SV (strOfList (pslice (some (-1)) Option.none d.2.cps.toList))) rfl rfl rfl rfl) rfl (cmp_ne_str _ _)]
        exact congrArg (fun b => some (!b)) (decide_eq_decide.mpr (last_slice d.2))
      by_cases h : endsNl d.2
      · rw [ite_f (by rw [c2, decide_eq_true h]; rfl) rfl, if_pos h]; rfl
      · have l1 : nl.length = 1 := by decide
        have l2 : markS.length = 28 := by decide
        have b2 : pe (callAt fns (k + 1)) (.bin .add (.bin .add (.var 4) (.str (Str.ofString "\n"))) (.glob 1)) (wSt ds c ch ⟨w.out, w.body ++ signK d.1 ++ d.2, w.s, w.t, if w.body = Str.ofString "" then w.s else w.s0, if w.body = Str.ofString "" then w.t else w.t0⟩ (some (IV i)) (some (SV (signK d.1))) (some (SV d.2))) = some (SV (w.body ++ signK d.1 ++ d.2 ++ nl ++ markS)) :=
          pe_bin (pe_bin (x := SV (w.body ++ signK d.1 ++ d.2)) (y := SV nl) rfl rfl (add_strs (by simp only [len_app]; lia))) (y := SV markS) rfl (add_strs (by simp only [len_app]; lia))
        rw [ite_t (σ' := wSt ds c ch ⟨w.out, w.body ++ signK d.1 ++ d.2 ++ nl ++ markS, w.s, w.t, if w.body = Str.ofString "" then w.s else w.s0, if w.body = Str.ofString "" then w.t else w.t0⟩ (some (IV i)) (some (SV (signK d.1))) (some (SV d.2))) (by rw [c2, decide_eq_false h]; rfl) (by rw [pe_asg b2]; rfl), if_neg h]
        rfl
    rw [ite_t ht' hnear, wCount_ok]
  | false =>
    rw [hn] at ht'
    rw [if_neg Bool.false_ne_true]
    have hc := call_whunk (body := w.body) ok.s ok.t hs ht (by lia) k
    have hwl : (whunk w.body w.s0 w.s w.t0 w.t).length ≤ w.body.length + 100 := by
      unfold whunk
      split
      · show 0 ≤ _; lia
      · rw [len_app]
        have := hdrN_len (a := w.s0) (b := w.s - w.s0) (c := w.t0) (d := w.t - w.t0) (by have := ok.s; lia) (by lia) (by have := ok.t; lia) (by lia)
        lia
    have hfar : pss (callAt fns (k + 1)) wFar (wSt ds c ch w (some (IV i)) (some (SV (signK d.1))) (some (SV d.2))) = some (wSt ds c ch ⟨w.out ++ whunk w.body w.s0 w.s w.t0 w.t, Str.ofString "", w.s, w.t, w.s0, w.t0⟩ (some (IV i)) (some (SV (signK d.1))) (some (SV d.2)), Option.none) := by
      unfold wFar
      have q : pe (callAt fns (k + 1)) (.call 25 (Str.ofString "_law_hunk") (.cons (.var 4) (.cons (.var 7) (.cons (.var 5) (.cons (.var 8) (.cons (.var 6) .nil)))))) (wSt ds c ch w (some (IV i)) (some (SV (signK d.1))) (some (SV d.2))) = some (SV (whunk w.body w.s0 w.s w.t0 w.t)) := pe_call (vs := [SV w.body, IV w.s0, IV w.s, IV w.t0, IV w.t]) rfl hc
      rw [pe_asg (pe_bin (x := SV w.out) rfl q (add_strs (by lia)))]
      rfl
    rw [ite_f ht' hfar, wCount_ok]
noncomputable def isChg (ds : List Dd) (p : Nat) : Bool := match ds[p]? with
  | some d => decide (d.1 ≠ .keep)
  | Option.none => false
noncomputable def chg (ds : List Dd) : List Nat := (List.range ds.length).filter (isChg ds)
noncomputable def Wrun (c : Nat) (ch : List Nat) : Nat → List Dd → WS → WS
  | _, [], w => w
  | i, d :: r, w => Wrun c ch (i + 1) r (W1 (nearB c ch i) d w)
noncomputable def Wend (w : WS) : Str := w.out ++ whunk w.body w.s0 w.s w.t0 w.t
noncomputable def w0 : WS := ⟨Str.ofString "", Str.ofString "", 0, 0, 0, 0⟩
noncomputable def writerOf (ds : List Dd) (c : Nat) : Str := Wend (Wrun c (chg ds) 0 ds w0)
theorem W1_ok {b : Bool} {d : Dd} {w : WS} (ok : WOk w) : WOk (W1 b d w) := by
  obtain ⟨h1, h2⟩ := ok
  unfold W1
  constructor <;> (split <;> dsimp only) <;> (split <;> first | lia | (split <;> lia))
theorem W1_s {b : Bool} {d : Dd} {w : WS} : (W1 b d w).s ≤ w.s + 1 ∧ (W1 b d w).t ≤ w.t + 1 := by
  unfold W1
  constructor <;> (split <;> dsimp only) <;> split <;> lia
theorem whunk_len {w : WS} (ok : WOk w) (hs : w.s < 101) (ht : w.t < 101) : (whunk w.body w.s0 w.s w.t0 w.t).length ≤ w.body.length + 100 := by
  unfold whunk
  split
  · show 0 ≤ _; lia
  · rw [len_app]
    have := hdrN_len (a := w.s0) (b := w.s - w.s0) (c := w.t0) (d := w.t - w.t0) (by have := ok.s; lia) (by lia) (by have := ok.t; lia) (by lia)
    lia
theorem W1_len {b : Bool} {d : Dd} {w : WS} (ok : WOk w) (hs : w.s < 101) (ht : w.t < 101) (hd : d.2.length ≤ 1000) : (W1 b d w).out.length + (W1 b d w).body.length ≤ w.out.length + w.body.length + 1200 := by
  have hsl : (signK d.1).length = 1 := by cases d.1 <;> rfl
  have l1 : nl.length = 1 := by decide
  have l2 : markS.length = 28 := by decide
  have l3 := whunk_len ok hs ht
  unfold W1
  split
  · dsimp only
    split
    · simp only [len_app]; lia
    · simp only [len_app]; lia
  · dsimp only
    rw [len_app]
    show _ + _ + 0 ≤ _
    lia
theorem w_loop (k : Nat) {ds : List Dd} {c : Nat} {ch : List Nat} (hch : ch.length ≤ lim) : ∀ (r : List Dd) (i : Nat) (w : WS) (v9 v10 v11 : Option PV), ds.drop i = r → WOk w → w.s + r.length < 101 → w.t + r.length < 101 → w.out.length + w.body.length + 1200 * r.length ≤ 400000 → (∀ d ∈ r, d.2.length ≤ 1000) →
    ∃ v9' v10' v11', forO (fun x σ => pss (callAt fns (k + 1)) wBody (σ.set 9 (.d x))) ((List.range' i r.length).map fun (k : Nat) => PyData.int k) (wSt ds c ch w v9 v10 v11) = some (wSt ds c ch (Wrun c ch i r w) v9' v10' v11', Option.none)
  | [], i, w, v9, v10, v11, _, _, _, _, _, _ => ⟨v9, v10, v11, rfl⟩
  | d :: r, i, w, v9, v10, v11, hdr, ok, hs, ht, hb, hl => by
    rw [List.length_cons] at hs ht hb
    have hi : i < ds.length := by
      have := congrArg List.length hdr
      rw [List.length_drop, List.length_cons] at this; lia
    have hd : ds[i]? = some d := by
      rw [List.drop_eq_getElem_cons hi] at hdr
      rw [List.getElem?_eq_getElem hi]
      exact congrArg some (List.cons.inj hdr).1
    have hr : ds.drop (i + 1) = r := by
      rw [List.drop_eq_getElem_cons hi] at hdr
      exact (List.cons.inj hdr).2
    have hdl := hl d (.head _)
    have hbody := wBody_ok k (c := c) (v9 := v9) (v10 := v10) (v11 := v11) hd hch ok (by lia) (by lia) (by lia) hdl
    have h1 := W1_s (b := nearB c ch i) (d := d) (w := w)
    have h2 := W1_len (b := nearB c ch i) (d := d) ok (by lia) (by lia) hdl
    refine ea_3_1 (w_loop k (ds := ds) (c := c) hch r (i + 1) (W1 (nearB c ch i) d w) (some (IV i)) (some (SV (signK d.1))) (some (SV d.2)) hr (W1_ok ok) (by lia) (by lia) (by lia) fun x hx => hl x (.tail _ hx)) fun u9 u10 u11 ih => ?_
    refine ⟨u9, u10, u11, ?_⟩
    rw [List.length_cons, List.range'_succ, List.map_cons, forO, hbody]
    dsimp only
    rw [ih, Wrun]
theorem Wrun_end {c : Nat} {ch : List Nat} : ∀ (r : List Dd) (i : Nat) (w : WS), WOk w → w.s + r.length < 101 → w.t + r.length < 101 → w.out.length + w.body.length + 1200 * r.length ≤ 400000 → (∀ d ∈ r, d.2.length ≤ 1000) →
    WOk (Wrun c ch i r w) ∧ (Wrun c ch i r w).s < 101 ∧ (Wrun c ch i r w).t < 101 ∧ (Wrun c ch i r w).out.length + (Wrun c ch i r w).body.length ≤ 400000
  | [], i, w, ok, hs, ht, hb, _ => ⟨ok, by simpa [Wrun] using hs, by simpa [Wrun] using ht, by simpa [Wrun] using hb⟩
  | d :: r, i, w, ok, hs, ht, hb, hl => by
    rw [List.length_cons] at hs ht hb
    have hdl := hl d (.head _)
    have h1 := W1_s (b := nearB c ch i) (d := d) (w := w)
    have h2 := W1_len (b := nearB c ch i) (d := d) ok (by lia) (by lia) hdl
    rw [Wrun]
    exact Wrun_end r (i + 1) _ (W1_ok ok) (by lia) (by lia) (by lia) fun x hx => hl x (.tail _ hx)
theorem call_writer {ds : List Dd} (c : Nat) (hn : ds.length ≤ 100) (hl : ∀ d ∈ ds, d.2.length ≤ 1000) (k : Nat) : callAt fns (k + 2) 26 [SDV ds, IV c] = some (SV (writerOf ds c)) := by
  have hlim : lim = 1000000 := rfl
  have hcl : (chg ds).length ≤ ds.length := by unfold chg; exact Nat.le_trans (List.length_filter_le _ _) (by simp)
  have ok0 : WOk w0 := ⟨Nat.le_refl _, Nat.le_refl _⟩
  have hb0 : w0.out.length + w0.body.length + 1200 * ds.length ≤ 400000 := by show 0 + 0 + 1200 * ds.length ≤ 400000; lia
  obtain ⟨v9, v10, v11, hloop⟩ := w_loop k (ds := ds) (c := c) (ch := chg ds) (by lia) ds 0 w0 Option.none Option.none Option.none rfl ok0 (by show 0 + _ < 101; lia) (by show 0 + _ < 101; lia) hb0 hl
  obtain ⟨ok, hs, ht, hb⟩ := Wrun_end (c := c) (ch := chg ds) ds 0 w0 ok0 (by show 0 + _ < 101; lia) (by show 0 + _ < 101; lia) hb0 hl
  refine call_of (fn := f_law_writer) (σ' := wSt ds c (chg ds) (Wrun c (chg ds) 0 ds w0) v9 v10 v11) rfl rfl ?_
  show pss (callAt fns (k + 1)) b_law_writer ⟨[some (SDV ds), some (IV c), Option.none, Option.none, Option.none, Option.none, Option.none, Option.none, Option.none, Option.none, Option.none, Option.none], Option.none⟩ = _
  unfold b_law_writer
  have hln : ∀ σ : St, σ.get 0 = some (SDV ds) → pe (callAt fns (k + 1)) (.len (.var 0)) σ = some (IV ds.length) := fun σ h => by
    have := pe_len (pe_var (C := callAt fns (k + 1)) h)
    rwa [List.length_map] at this
  have hit : ∀ σ : St, σ.get 0 = some (SDV ds) → pit (callAt fns (k + 1)) (.range1 (.len (.var 0))) σ = some ((List.range ds.length).map fun (k : Nat) => .int k) := fun σ h => by
    rw [pitR1, hln σ h]
    exact rangeL_up ds.length (by lia)
  have hch : pe (callAt fns (k + 1)) (.compIf [0] (.var 0) (.range1 (.len (.var 0))) (.cmp .ne (.idx (.idx (.var 1) (.var 0)) (.int 0)) (.str (Str.ofString " ")))) ⟨[some (SDV ds), some (IV c), Option.none, Option.none, Option.none, Option.none, Option.none, Option.none, Option.none, Option.none, Option.none, Option.none], Option.none⟩ =
      some (.d (.list ((chg ds).map fun (k : Nat) => PyData.int k))) := by
    rw [pe_compIf (fun x => match x with | .int i => isChg ds i.toNat | _ => false) (fun x => x) (hit _ rfl) (by simp; lia) (fun x hx => ?_) (fun x hx => ?_)]
    · congr 2
      rw [List.map_id', List.filter_map]
      rfl
    · refine ea_1_2 (List.mem_map.mp hx) fun p hp hrf2 => ?_
      subst hrf2
      have hp := List.mem_range.mp hp
      have hg : (ds.map deedS)[p]? = some (deedS ds[p]) := by rw [List.getElem?_map, List.getElem?_eq_getElem hp]; rfl
      have hsk : ∀ kd : Kd, (!decide (signK kd = Str.ofString " ")) = decide (kd ≠ .keep) := by intro kd; cases kd <;> decide
      have hx' : pe (callAt fns (k + 1)) (.idx (.idx (.var 1) (.var 0)) (.int 0)) (inner ⟨[some (SDV ds), some (IV c), Option.none, Option.none, Option.none, Option.none, Option.none, Option.none, Option.none, Option.none, Option.none, Option.none], Option.none⟩ [0] (.int p)) = some (SV (signK (ds[p]).1)) := by
        refine pe_idx (x := .d (deedS ds[p])) (y := .d (.int 0)) (pe_idx (x := SDV ds) (y := IV p) rfl rfl ?_) rfl rfl
        simp only [idxop, SDV, IV, pidx_nat, hg, Option.map_some]
      rw [pt_cmp hx' rfl (cmp_ne_str _ _)]
      show some (!decide (signK (ds[p]).1 = Str.ofString " ")) = some (isChg ds p)
      rw [hsk]
      unfold isChg
      rw [List.getElem?_eq_getElem hp]
    · refine ea_1_2 (List.mem_map.mp hx) fun p hp hrf2 => ?_
      subst hrf2
      rfl
  rw [pe_asg hch]
  rw [pe_asg (p := SV (Str.ofString "")) rfl, pe_asg (p := SV (Str.ofString "")) rfl, pe_asg (p := IV 0) rfl, pe_asg (p := IV 0) rfl, pe_asg (p := IV 0) rfl, pe_asg (p := IV 0) rfl]
  show pss (callAt fns (k + 1)) _ (wSt ds c (chg ds) w0 Option.none Option.none Option.none) = _
  have hl' := hloop
  unfold wBody wTest wNear wFar wCount at hl'
  rw [← List.range_eq_range'] at hl'
  rw [st_step (by rw [psFor, hit _ rfl]; exact hl')]
  have hwl := whunk_len ok hs ht
  have q : pe (callAt fns (k + 1)) (.call 25 (Str.ofString "_law_hunk") (.cons (.var 4) (.cons (.var 7) (.cons (.var 5) (.cons (.var 8) (.cons (.var 6) .nil)))))) (wSt ds c (chg ds) (Wrun c (chg ds) 0 ds w0) v9 v10 v11) = some (SV (whunk (Wrun c (chg ds) 0 ds w0).body (Wrun c (chg ds) 0 ds w0).s0 (Wrun c (chg ds) 0 ds w0).s (Wrun c (chg ds) 0 ds w0).t0 (Wrun c (chg ds) 0 ds w0).t)) :=
    pe_call (vs := [SV (Wrun c (chg ds) 0 ds w0).body, IV (Wrun c (chg ds) 0 ds w0).s0, IV (Wrun c (chg ds) 0 ds w0).s, IV (Wrun c (chg ds) 0 ds w0).t0, IV (Wrun c (chg ds) 0 ds w0).t]) rfl (call_whunk ok.s ok.t hs ht (by lia) k)
  exact ret_ok (pe_bin (x := SV (Wrun c (chg ds) 0 ds w0).out) rfl q (add_strs (by lia)))
noncomputable def Sep (n : Nat) : Nat → List (Nat × Nat) → Prop
  | _, [] => True
  | lo, (s, e) :: r => lo ≤ s ∧ s < e ∧ e ≤ n ∧ Sep n (e + 1) r
noncomputable def cov (st : List (Nat × Nat)) (i : Nat) : Prop := ∃ p ∈ st, p.1 ≤ i ∧ i < p.2
theorem sep_replace {n s0 e0 e' : Nat} (h1 : s0 < e') (h2 : e' ≤ n) : ∀ (init : List (Nat × Nat)) (lo : Nat), Sep n lo (init ++ [(s0, e0)]) → Sep n lo (init ++ [(s0, e')])
  | [], lo, h => ⟨h.1, h1, h2, trivial⟩
  | (s, e) :: r, lo, h => ⟨h.1, h.2.1, h.2.2.1, sep_replace h1 h2 r (e + 1) h.2.2.2⟩
theorem sep_snoc {n s e : Nat} (h1 : s < e) (h2 : e ≤ n) : ∀ (st : List (Nat × Nat)) (lo : Nat), Sep n lo st → (∀ q ∈ st, q.2 < s) → lo ≤ s → Sep n lo (st ++ [(s, e)])
  | [], lo, _, _, hl => ⟨hl, h1, h2, trivial⟩
  | (a, b) :: r, lo, h, hq, _ => ⟨h.1, h.2.1, h.2.2.1, sep_snoc h1 h2 r (b + 1) h.2.2.2 (fun q hq' => hq q (.tail _ hq')) (hq (a, b) (.head _))⟩
theorem sep_lo {n : Nat} : ∀ (st : List (Nat × Nat)) (lo : Nat), Sep n lo st → ∀ q ∈ st, lo ≤ q.1 ∧ q.1 < q.2 ∧ q.2 ≤ n
  | (s, e) :: r, lo, h, q, hq => by
    rcases List.mem_cons.mp hq with rfl | hq
    · exact ⟨h.1, h.2.1, h.2.2.1⟩
    · have := sep_lo r (e + 1) h.2.2.2 q hq
      have h1 := h.1
      have h2 := h.2.1
      lia
theorem sep_before {n s0 e0 : Nat} : ∀ (init : List (Nat × Nat)) (lo : Nat), Sep n lo (init ++ [(s0, e0)]) → ∀ q ∈ init, q.2 < s0
  | (s, e) :: r, lo, h, q, hq => by
    rcases List.mem_cons.mp hq with rfl | hq
    · have := sep_lo _ _ h.2.2.2 (s0, e0) (by simp)
      dsimp only at this ⊢
      lia
    · exact sep_before r (e + 1) h.2.2.2 q hq
structure StOkay (ds : List Dd) (c p : Nat) (st : List (Nat × Nat)) : Prop where
  sep : Sep ds.length 0 st
  cov : ∀ i, i < ds.length → (cov st i ↔ ∃ j, j < p ∧ isChg ds j = true ∧ i ≤ j + c ∧ j ≤ i + c)
  lim : ∀ q ∈ st, q.1 ≤ p - c ∧ q.2 ≤ p + c
theorem st_step_ok {ds : List Dd} {c p : Nat} {st : List (Nat × Nat)} (hp : p < ds.length) (h : StOkay ds c p st) : StOkay ds c (p + 1) (stNext ds c p st) := by
  obtain ⟨h1, h2, h3⟩ := h
  unfold stNext
  rw [List.getElem?_eq_getElem hp]
  dsimp only
  have hchg : isChg ds p = decide ((ds[p]).1 ≠ .keep) := by unfold isChg; rw [List.getElem?_eq_getElem hp]
  by_cases hk : (ds[p]).1 = .keep
  · rw [if_pos hk]
    have hno : isChg ds p = false := by rw [hchg]; exact decide_eq_false fun q => q hk
    refine ⟨h1, fun i hi => (h2 i hi).trans ⟨fun ⟨j, a, b⟩ => ⟨j, by lia, b⟩, fun ⟨j, a, b, d⟩ => ⟨j, ?_, b, d⟩⟩, fun q hq => by have := h3 q hq; lia⟩
    rcases Nat.lt_or_eq_of_le (Nat.le_of_lt_succ a) with q | q
    · exact q
    · subst q; rw [hno] at b; cases b
  · rw [if_neg hk]
    have hyes : isChg ds p = true := by rw [hchg]; exact decide_eq_true hk
    have key : ∀ i, i < ds.length → ((∃ j, j < p + 1 ∧ isChg ds j = true ∧ i ≤ j + c ∧ j ≤ i + c) ↔ (cov st i ∨ (p - c ≤ i ∧ i < min ds.length (p + c + 1)))) := fun i hi => by
      rw [h2 i hi]
      constructor
      · rintro ⟨j, a, b, d1, d2⟩
        rcases Nat.lt_or_eq_of_le (Nat.le_of_lt_succ a) with q | q
        · exact .inl ⟨j, q, b, d1, d2⟩
        · subst q; exact .inr ⟨by lia, by lia⟩
      · rintro (⟨j, a, b⟩ | ⟨a, b⟩)
        · exact ⟨j, by lia, b⟩
        · exact ⟨p, by lia, hyes, by lia, by lia⟩
    unfold stepS
    have hse : p - c < min ds.length (p + c + 1) := by lia
    have happ : (∀ q ∈ st, q.2 < p - c) → StOkay ds c (p + 1) (st ++ [(p - c, min ds.length (p + c + 1))]) := fun hq => by
      refine ⟨sep_snoc hse (Nat.min_le_left _ _) st 0 h1 hq (Nat.zero_le _), fun i hi => ?_, fun q hq' => ?_⟩
      · rw [key i hi]
        constructor
        · rintro ⟨q, hq', r⟩
          rcases List.mem_append.mp hq' with hq' | hq'
          · exact .inl ⟨q, hq', r⟩
          · have : q = (p - c, min ds.length (p + c + 1)) := by simpa using hq'
            subst this; exact .inr r
        · rintro (⟨q, hq', r⟩ | r)
          · exact ⟨q, List.mem_append.mpr (.inl hq'), r⟩
          · exact ⟨(p - c, min ds.length (p + c + 1)), by simp, r⟩
      · rcases List.mem_append.mp hq' with hq' | hq'
        · have := h3 q hq'; lia
        · have : q = (p - c, min ds.length (p + c + 1)) := by simpa using hq'
          subst this; dsimp only; lia
    cases hgl : st.getLast? with
    | none =>
      have hnil : st = [] := List.getLast?_eq_none_iff.mp hgl
      subst hnil
      exact happ (by simp)
    | some se =>
      obtain ⟨s0, e0⟩ := se
      have hst : st = st.dropLast ++ [(s0, e0)] := by
        have hne : st ≠ [] := fun q => by rw [q] at hgl; cases hgl
        have := List.dropLast_concat_getLast hne
        rw [List.getLast?_eq_some_getLast hne] at hgl
        rw [Option.some.inj hgl] at this
        exact this.symm
      have hmem : (s0, e0) ∈ st := by rw [hst]; simp
      have hlim := h3 _ hmem
      have hlo := sep_lo _ _ h1 _ hmem
      dsimp only at hlim hlo ⊢
      by_cases hle : p - c ≤ e0
      · rw [if_pos hle]
        have hsep : Sep ds.length 0 (st.dropLast ++ [(s0, e0)]) := hst ▸ h1
        refine ⟨sep_replace (by lia) (Nat.min_le_left _ _) _ _ hsep, fun i hi => ?_, fun q hq' => ?_⟩
        · rw [key i hi]
          constructor
          · rintro ⟨q, hq', r⟩
            rcases List.mem_append.mp hq' with hq' | hq'
            · exact .inl ⟨q, by rw [hst]; exact List.mem_append.mpr (.inl hq'), r⟩
            · have : q = (s0, min ds.length (p + c + 1)) := by simpa using hq'
              subst this
              dsimp only at r
              by_cases hi' : i < e0
              · exact .inl ⟨(s0, e0), hmem, r.1, hi'⟩
              · exact .inr ⟨by lia, r.2⟩
          · rintro (⟨q, hq', r⟩ | r)
            · rw [hst] at hq'
              rcases List.mem_append.mp hq' with hq' | hq'
              · exact ⟨q, List.mem_append.mpr (.inl hq'), r⟩
              · have : q = (s0, e0) := by simpa using hq'
                subst this
                dsimp only at r
                exact ⟨(s0, min ds.length (p + c + 1)), by simp, r.1, by dsimp only; lia⟩
            · exact ⟨(s0, min ds.length (p + c + 1)), by simp, by dsimp only; lia, r.2⟩
        · rcases List.mem_append.mp hq' with hq' | hq'
          · have := h3 q (by rw [hst]; exact List.mem_append.mpr (.inl hq')); lia
          · have : q = (s0, min ds.length (p + c + 1)) := by simpa using hq'
            subst this; dsimp only; lia
      · rw [if_neg hle]
        refine happ fun q hq' => ?_
        rw [hst] at hq'
        rcases List.mem_append.mp hq' with hq' | hq'
        · have := sep_before _ _ (hst ▸ h1) q hq'; lia
        · have : q = (s0, e0) := by simpa using hq'
          subst this; dsimp only; lia
theorem stFrom_ok {ds : List Dd} {c : Nat} : ∀ (m p : Nat) (st : List (Nat × Nat)), p + m = ds.length → StOkay ds c p st → StOkay ds c ds.length (stFrom ds c (List.range' p m) st)
  | 0, p, st, e, h => by
    have : p = ds.length := by lia
    subst this; exact h
  | m + 1, p, st, e, h => by
    rw [List.range'_succ, stFrom]
    exact stFrom_ok m (p + 1) _ (by lia) (st_step_ok (by lia) h)
theorem stretches_ok (ds : List Dd) (c : Nat) : Sep ds.length 0 (stretches ds c) ∧ ∀ i, i < ds.length → (cov (stretches ds c) i ↔ nearB c (chg ds) i = true) := by
  have h0 : StOkay ds c 0 [] := ⟨trivial, fun i Z => ⟨fun ⟨p, hp, _⟩ => by simp at hp, fun ⟨j, hj, _⟩ => by lia⟩, by simp⟩
  have h := stFrom_ok ds.length 0 [] (by lia) h0
  rw [← List.range_eq_range'] at h
  refine ⟨h.sep, fun i hi => (h.cov i hi).trans ?_⟩
  unfold nearB chg
  rw [List.any_eq_true]
  constructor
  · rintro ⟨j, a, b, d⟩
    exact ⟨j, List.mem_filter.mpr ⟨List.mem_range.mpr a, b⟩, decide_eq_true d⟩
  · rintro ⟨j, a, b⟩
    refine ea_0_2 (List.mem_filter.mp a) fun a1 a2 => ?_
    exact ⟨j, List.mem_range.mp a1, a2, of_decide_eq_true b⟩
noncomputable def dText (d : Dd) : Str := sgn d ++ lineT d.2
noncomputable def bText (r : List Dd) : Str := concatStr (r.map dText)
noncomputable def nS (r : List Dd) : Nat := (srcs r).length
noncomputable def nT (r : List Dd) : Nat := (tgts r).length
theorem nS_cons (d : Dd) (r : List Dd) : nS (d :: r) = (if d.1 = .add then 0 else 1) + nS r := by
  unfold nS srcs
  rw [List.filter_cons]
  by_cases h : d.1 = .add
  · rw [if_neg (by simp [h]), if_pos h, Nat.zero_add]
  · rw [if_pos (by simp [h]), if_neg h, List.map_cons, List.length_cons, Nat.add_comm]
theorem nT_cons (d : Dd) (r : List Dd) : nT (d :: r) = (if d.1 = .del then 0 else 1) + nT r := by
  unfold nT tgts
  rw [List.filter_cons]
  by_cases h : d.1 = .del
  · rw [if_neg (by simp [h]), if_pos h, Nat.zero_add]
  · rw [if_pos (by simp [h]), if_neg h, List.map_cons, List.length_cons, Nat.add_comm]
theorem nS_app (a b : List Dd) : nS (a ++ b) = nS a + nS b := by unfold nS srcs; simp
theorem nT_app (a b : List Dd) : nT (a ++ b) = nT a + nT b := by unfold nT tgts; simp
theorem bText_cons (d : Dd) (r : List Dd) : bText (d :: r) = dText d ++ bText r := rfl
theorem ne_of_len {x : Str} (h : 0 < x.length) : x ≠ Str.ofString "" := fun q => by rw [q] at h; exact absurd h (by decide)
theorem dText_ne (d : Dd) : 0 < (dText d).length := by
  unfold dText sgn
  rw [len_app, len_app]
  have : (signK d.1).length = 1 := by cases d.1 <;> rfl
  lia
theorem far_run {c : Nat} {ch : List Nat} : ∀ (r1 r2 : List Dd) (i : Nat) (w : WS), w.body = Str.ofString "" → (∀ j, j < r1.length → nearB c ch (i + j) = false) →
    Wrun c ch i (r1 ++ r2) w = Wrun c ch (i + r1.length) r2 { w with s := w.s + nS r1, t := w.t + nT r1 }
  | [], r2, i, w, _, _ => rfl
  | d :: r1, r2, i, w, hb, h => by
    have h0 := h 0 (by simp)
    rw [Nat.add_zero] at h0
    have e : W1 false d w = { w with s := w.s + (if d.1 = .add then 0 else 1), t := w.t + (if d.1 = .del then 0 else 1) } := by
      unfold W1
      rw [if_neg Bool.false_ne_true]
      have : whunk w.body w.s0 w.s w.t0 w.t = Str.ofString "" := if_pos hb
      rw [this, show w.out ++ Str.ofString "" = w.out from str_empty_r _, ← hb]
    rw [List.cons_append, Wrun, h0, e, far_run r1 r2 (i + 1) { w with s := w.s + (if d.1 = .add then 0 else 1), t := w.t + (if d.1 = .del then 0 else 1) } hb (fun j hj => by
      have := h (j + 1) (by simp; lia)
      rwa [show i + (j + 1) = i + 1 + j by lia] at this), List.length_cons, show i + 1 + r1.length = i + (r1.length + 1) by lia, nS_cons, nT_cons]
    dsimp only
    rw [Nat.add_assoc, Nat.add_assoc]
theorem near_run {c : Nat} {ch : List Nat} : ∀ (r1 r2 : List Dd) (i : Nat) (w : WS), w.body ≠ Str.ofString "" → (∀ j, j < r1.length → nearB c ch (i + j) = true) →
    Wrun c ch i (r1 ++ r2) w = Wrun c ch (i + r1.length) r2 { w with body := w.body ++ bText r1, s := w.s + nS r1, t := w.t + nT r1 }
  | [], r2, i, w, _, _ => by
    rw [List.nil_append, show bText [] = Str.empty from rfl, str_empty_r]
    rfl
  | d :: r1, r2, i, w, hb, h => by
    have h0 := h 0 (by simp)
    rw [Nat.add_zero] at h0
    have e : W1 true d w = { w with body := w.body ++ dText d, s := w.s + (if d.1 = .add then 0 else 1), t := w.t + (if d.1 = .del then 0 else 1) } := by
      unfold W1 dText sgn lineT
      rw [if_pos rfl, if_neg hb, if_neg hb]
      by_cases q : endsNl d.2
      · rw [if_pos q, if_pos q, show signK d.1 ++ d.2 ++ Str.ofString "" = signK d.1 ++ d.2 from str_empty_r _, str_assoc]
      · rw [if_neg q, if_neg q]; simp only [str_assoc]
    have hb' : w.body ++ dText d ≠ Str.ofString "" := ne_of_len (by rw [len_app]; have := dText_ne d; lia)
    rw [List.cons_append, Wrun, h0, e, near_run r1 r2 (i + 1) _ hb' (fun j hj => by
      have := h (j + 1) (by simp; lia)
      rwa [show i + (j + 1) = i + 1 + j by lia] at this), List.length_cons, show i + 1 + r1.length = i + (r1.length + 1) by lia, nS_cons, nT_cons, bText_cons]
    dsimp only
    rw [Nat.add_assoc, Nat.add_assoc, str_assoc]
theorem near_start {c : Nat} {ch : List Nat} {d : Dd} {r1 r2 : List Dd} {i : Nat} {w : WS} (hb : w.body = Str.ofString "") (h : ∀ j, j < (d :: r1).length → nearB c ch (i + j) = true) :
    Wrun c ch i (d :: r1 ++ r2) w = Wrun c ch (i + (d :: r1).length) r2 ⟨w.out, bText (d :: r1), w.s + nS (d :: r1), w.t + nT (d :: r1), w.s, w.t⟩ := by
  have h0 := h 0 (by simp)
  rw [Nat.add_zero] at h0
  have e : W1 true d w = ⟨w.out, dText d, w.s + (if d.1 = .add then 0 else 1), w.t + (if d.1 = .del then 0 else 1), w.s, w.t⟩ := by
    unfold W1 dText sgn lineT
    rw [if_pos rfl, if_pos hb, if_pos hb, hb, show Str.ofString "" ++ signK d.1 = signK d.1 from str_empty_l _]
    by_cases q : endsNl d.2
    · rw [if_pos q, if_pos q, show signK d.1 ++ d.2 ++ Str.ofString "" = signK d.1 ++ d.2 from str_empty_r _]
    · rw [if_neg q, if_neg q]; simp only [str_assoc]
  rw [List.cons_append, Wrun, h0, e, near_run r1 r2 (i + 1) _ (ne_of_len (dText_ne d)) (fun j hj => by
    have := h (j + 1) (by simp; lia)
    rwa [show i + (j + 1) = i + 1 + j by lia] at this), List.length_cons, show i + 1 + r1.length = i + (r1.length + 1) by lia, nS_cons, nT_cons, bText_cons]
  dsimp only
  rw [Nat.add_assoc, Nat.add_assoc]
noncomputable def hunkS (h : Hk) : Str := hdrN h.1 (nS h.2.2) h.2.1 (nT h.2.2) ++ bText h.2.2
theorem hdr_nl (a b c d : Nat) : hdrN a b c d = hdr a b c d ++ nl := by
  unfold hdrN hdr
  simp only [concatStr, str_assoc]
  rfl
theorem hdr_head (a b c d : Nat) : isHead (hdr a b c d) := by
  unfold isHead hdr
  rw [concatStr, cps_app]
  rfl
theorem sgn_head (d : Dd) : ¬ isHead (sgn d) := by
  unfold isHead sgn
  rw [cps_app]
  cases d.1
  · intro h
    have h' : some 32 = some 64 := h
    exact absurd (Option.some.inj h') (by decide)
  · intro h
    have h' : some 45 = some 64 := h
    exact absurd (Option.some.inj h') (by decide)
  · intro h
    have h' : some 43 = some 64 := h
    exact absurd (Option.some.inj h') (by decide)
theorem sgn_ends (d : Dd) : endsNl (sgn d) ↔ endsNl d.2 := by
  unfold endsNl sgn
  rw [cps_app, List.getLast?_append]
  cases h : d.2.cps.toList.getLast? with
  | none =>
    have : (signK d.1).cps.toList.getLast? ≠ some 10 := by cases d.1 <;> decide
    exact ⟨fun q => absurd q this, fun q => by cases q⟩
  | some x => exact Iff.rfl
theorem pcl_hdr (a b c d : Nat) : pcl (hdr a b c d) = hdrN a b c d := by
  unfold pcl; rw [if_pos (hdr_head a b c d), hdr_nl]
theorem pcl_sgn (d : Dd) : pcl (sgn d) = dText d := by
  unfold pcl dText lineT
  rw [if_neg (sgn_head d)]
  by_cases h : endsNl d.2
  · rw [if_pos ((sgn_ends d).mpr h), if_pos h, show sgn d ++ Str.ofString "" = sgn d from str_empty_r _]
  · rw [if_neg fun q => h ((sgn_ends d).mp q), if_neg h, str_assoc]
theorem hunkL_text (h : Hk) : concatStr ((hunkL h).map pcl) = hunkS h := by
  have e : (h.2.2.map sgn).map pcl = h.2.2.map dText := by
    rw [List.map_map]
    exact List.map_congr_left fun d Z => pcl_sgn d
  unfold hunkL hunkS bText nS nT
  rw [List.map_cons, concatStr, pcl_hdr, e]
theorem patch_cons (h : Hk) (hs : List Hk) : patchOf (h :: hs) = hunkS h ++ patchOf hs := by
  unfold patchOf
  rw [List.flatMap_cons, List.map_append, concat_app, hunkL_text]
theorem slice_parts {α : Type} {ds : List α} {i s e : Nat} (h1 : i ≤ s) (h2 : s ≤ e) : ds.drop i = slN i s ds ++ (slN s e ds ++ ds.drop e) := by
  unfold slN
  have a : ds.drop s = (ds.take e).drop s ++ ds.drop e := by
    conv => lhs; rw [← List.take_append_drop e ds]
    rw [List.drop_append]
    by_cases h : e ≤ ds.length
    · rw [List.length_take, Nat.min_eq_left h, show s - e = 0 by lia, List.drop_zero]
    · rw [List.drop_of_length_le (l := ds) (i := e) (by lia), List.drop_nil]
  have b : ds.drop i = (ds.take s).drop i ++ ds.drop s := by
    conv => lhs; rw [← List.take_append_drop s ds]
    rw [List.drop_append]
    by_cases h : s ≤ ds.length
    · rw [List.length_take, Nat.min_eq_left h, show i - s = 0 by lia, List.drop_zero]
    · rw [List.drop_of_length_le (l := ds) (i := s) (by lia), List.drop_nil]
  rw [b, a]
theorem slN_length {α : Type} {ds : List α} {i s : Nat} (h : s ≤ ds.length) : (slN i s ds).length = s - i := by
  unfold slN; rw [List.length_drop, List.length_take, Nat.min_eq_left h]
theorem take_parts {α : Type} {ds : List α} {i s : Nat} (h : i ≤ s) : ds.take s = ds.take i ++ slN i s ds := by
  unfold slN
  conv => lhs; rw [← List.take_append_drop i (ds.take s)]
  rw [List.take_take, Nat.min_eq_left h]
theorem writer_runs {ds : List Dd} {c : Nat} {ch : List Nat} : ∀ (st : List (Nat × Nat)) (i : Nat) (w : WS), i ≤ ds.length → Sep ds.length i st → (∀ j, i ≤ j → j < ds.length → (cov st j ↔ nearB c ch j = true)) → w.body = Str.ofString "" → w.s = nS (ds.take i) → w.t = nT (ds.take i) →
    Wend (Wrun c ch i (ds.drop i) w) = w.out ++ patchOf (st.map (hunkAt ds))
  | [], i, w, hi, _, hc, hb, hs, ht => by
    have hf := far_run (c := c) (ch := ch) (ds.drop i) [] i w hb (fun j hj => by
      rw [List.length_drop] at hj
      have := hc (i + j) (by lia) (by lia)
      cases hn : nearB c ch (i + j) with
      | false => rfl
      | true => obtain ⟨p, hp, _⟩ := this.mpr hn; simp at hp)
    rw [List.append_nil] at hf
    rw [hf, Wrun]
    unfold Wend
    have : whunk w.body w.s0 (w.s + nS (ds.drop i)) w.t0 (w.t + nT (ds.drop i)) = Str.ofString "" := if_pos hb
    dsimp only
    rw [this, show patchOf (List.map (hunkAt ds) []) = Str.ofString "" from rfl]
  | (s, e) :: st, i, w, hi, hsep, hc, hb, hs, ht => by
    refine ea_0_4 (hsep) fun q1 q2 q3 q4 => ?_
    have hpart := slice_parts (ds := ds) q1 (Nat.le_of_lt q2)
    have l1 : (slN i s ds).length = s - i := slN_length (by lia)
    have l2 : (slN s e ds).length = e - s := slN_length q3
    have hrest : ∀ q ∈ st, e + 1 ≤ q.1 := fun q hq => (sep_lo st (e + 1) q4 q hq).1
    have hfar : ∀ j, j < (slN i s ds).length → nearB c ch (i + j) = false := fun j hj => by
      have := hc (i + j) (by lia) (by lia)
      cases hn : nearB c ch (i + j) with
      | false => rfl
      | true =>
        refine ea_1_3 (this.mpr hn) fun p hp a b => ?_
        rcases List.mem_cons.mp hp with rfl | hp
        · dsimp only at a; lia
        · have := hrest p hp; lia
    rw [hpart, far_run _ _ i w hb hfar, l1, show i + (s - i) = s by lia]
    have hnear : ∀ j, j < (slN s e ds).length → nearB c ch (s + j) = true := fun j hj => (hc (s + j) (by lia) (by lia)).mp ⟨(s, e), .head _, by dsimp only; lia, by dsimp only; lia⟩
    obtain ⟨d, r, hdr⟩ : ∃ d r, slN s e ds = d :: r := by
      cases h : slN s e ds with
      | nil => rw [h] at l2; simp at l2; lia
      | cons d r => exact ⟨d, r, rfl⟩
    have hns : nS (ds.take s) = nS (ds.take i) + nS (slN i s ds) := by rw [take_parts q1, nS_app]
    have hnt : nT (ds.take s) = nT (ds.take i) + nT (slN i s ds) := by rw [take_parts q1, nT_app]
    have hne : nS (ds.take e) = nS (ds.take s) + nS (slN s e ds) := by rw [take_parts (Nat.le_of_lt q2), nS_app]
    have hnf : nT (ds.take e) = nT (ds.take s) + nT (slN s e ds) := by rw [take_parts (Nat.le_of_lt q2), nT_app]
    have hst := near_start (c := c) (ch := ch) (d := d) (r1 := r) (r2 := ds.drop e) (i := s) (w := { w with s := w.s + nS (slN i s ds), t := w.t + nT (slN i s ds) }) hb (by rw [← hdr]; exact hnear)
    rw [← hdr, l2, show s + (e - s) = e by lia] at hst
    rw [hst]
    dsimp only
    rw [hs, ht, ← hns, ← hnt, ← hne, ← hnf]
    have hw : whunk (bText (slN s e ds)) (nS (ds.take s)) (nS (ds.take e)) (nT (ds.take s)) (nT (ds.take e)) = hunkS (hunkAt ds (s, e)) := by
      unfold whunk hunkS hunkAt
      rw [if_neg (ne_of_len (by rw [hdr, bText_cons, len_app]; have := dText_ne d; lia)), hne, hnf]
      dsimp only
      rw [Nat.add_sub_cancel_left, Nat.add_sub_cancel_left]
      unfold nS nT
      with_reducible rfl
    rw [List.map_cons, patch_cons]
    by_cases hend : e = ds.length
    · have hnil : st = [] := by
        cases st with
        | nil => rfl
        | cons q st => have := sep_lo _ _ q4 q (.head _); lia
      subst hnil
      rw [List.drop_of_length_le (by lia), Wrun]
      unfold Wend
      dsimp only
      rw [hw, show patchOf (List.map (hunkAt ds) []) = Str.empty from rfl, str_empty_r]
    · have hlt : e < ds.length := by lia
      have hen : nearB c ch e = false := by
        have := hc e (by lia) hlt
        cases hn : nearB c ch e with
        | false => rfl
        | true =>
          refine ea_1_3 (this.mpr hn) fun p hp a b => ?_
          rcases List.mem_cons.mp hp with rfl | hp
          · dsimp only at b; lia
          · have := hrest p hp; lia
      rw [List.drop_eq_getElem_cons hlt, Wrun, hen]
      unfold W1
      rw [if_neg Bool.false_ne_true]
      dsimp only
      rw [hw]
      have t1 : nS (ds.take (e + 1)) = nS (ds.take e) + (if (ds[e]).1 = .add then 0 else 1) := by
        rw [List.take_add_one, List.getElem?_eq_getElem hlt, nS_app]
        show _ + nS [ds[e]] = _
        rw [nS_cons]; rfl
      have t2 : nT (ds.take (e + 1)) = nT (ds.take e) + (if (ds[e]).1 = .del then 0 else 1) := by
        rw [List.take_add_one, List.getElem?_eq_getElem hlt, nT_app]
        show _ + nT [ds[e]] = _
        rw [nT_cons]; rfl
      rw [writer_runs st (e + 1) _ (by lia) q4 (fun j hj hj' => ?_) rfl t1.symm t2.symm]
      · dsimp only
        rw [str_assoc]
      · refine Iff.trans ?_ (hc j (by lia) hj')
        constructor
        · rintro ⟨p, hp, r⟩; exact ⟨p, .tail _ hp, r⟩
        · rintro ⟨p, hp, r⟩
          rcases List.mem_cons.mp hp with rfl | hp
          · dsimp only at r; lia
          · exact ⟨p, hp, r⟩
theorem patch_writer (ds : List Dd) (c : Nat) : writerOf ds c = patchOf (hunksOf ds c) := by
  refine ea_0_2 (stretches_ok ds c) fun h1 h2 => ?_
  have := writer_runs (ds := ds) (c := c) (ch := chg ds) (stretches ds c) 0 w0 (Nat.zero_le _) h1 (fun j Z hj => h2 j hj) rfl rfl rfl
  unfold writerOf hunksOf
  rw [List.drop_zero] at this
  rw [this]
  exact str_empty_l _
theorem inv_keep (k : Kd) : invK k = .keep ↔ k = .keep := by cases k <;> decide
theorem stNext_inv (ds : List Dd) (c p : Nat) (st : List (Nat × Nat)) : stNext (ds.map invD) c p st = stNext ds c p st := by
  unfold stNext
  rw [List.getElem?_map, List.length_map]
  cases ds[p]? with
  | none => rfl
  | some d =>
    show (if invK d.1 = .keep then st else _) = _
    by_cases h : d.1 = .keep
    · rw [if_pos ((inv_keep d.1).mpr h)]; exact (if_pos h).symm
    · rw [if_neg fun q => h ((inv_keep d.1).mp q)]; exact (if_neg h).symm
theorem stFrom_inv (ds : List Dd) (c : Nat) : ∀ (ps : List Nat) (st : List (Nat × Nat)), stFrom (ds.map invD) c ps st = stFrom ds c ps st
  | [], st => rfl
  | p :: r, st => by rw [stFrom, stFrom, stNext_inv, stFrom_inv ds c r]
theorem stretches_inv (ds : List Dd) (c : Nat) : stretches (ds.map invD) c = stretches ds c := by
  unfold stretches; rw [List.length_map, stFrom_inv]
theorem srcs_inv (ds : List Dd) : srcs (ds.map invD) = tgts ds := by
  unfold srcs tgts
  rw [List.filter_map, List.map_map, show ((fun d : Dd => decide (d.1 ≠ .add)) ∘ invD) = fun d : Dd => decide (d.1 ≠ .del) from funext fun d => by
    obtain ⟨k, l⟩ := d
    cases k <;> rfl]
  rfl
theorem tgts_inv (ds : List Dd) : tgts (ds.map invD) = srcs ds := by
  unfold srcs tgts
  rw [List.filter_map, List.map_map, show ((fun d : Dd => decide (d.1 ≠ .del)) ∘ invD) = fun d : Dd => decide (d.1 ≠ .add) from funext fun d => by
    obtain ⟨k, l⟩ := d
    cases k <;> rfl]
  rfl
theorem hunks_inv (ds : List Dd) (c : Nat) : (hunksOf ds c).map invH = hunksOf (ds.map invD) c := by
  unfold hunksOf
  rw [stretches_inv, List.map_map]
  apply List.map_congr_left
  intro p _
  show invH (hunkAt ds p) = hunkAt (ds.map invD) p
  unfold hunkAt invH
  rw [← List.map_take, srcs_inv, tgts_inv, slN_map]
theorem slN_mem {α : Type} {i p : Nat} {xs : List α} {x : α} (h : x ∈ slN i p xs) : x ∈ xs := List.mem_of_mem_take (List.mem_of_mem_drop h)
theorem hunks_okay {ds : List Dd} (c : Nat) (hn : ds.length ≤ 100) (hl : ∀ d ∈ ds, d.2.length ≤ 1000) : ∀ h ∈ hunksOf ds c, HkOk h := fun h hh => by
  refine ea_1_2 (List.mem_map.mp hh) fun p Z hrf2 => ?_
  subst hrf2
  have h1 := srcs_le (ds.take p.1)
  have h2 := tgts_le (ds.take p.1)
  have h3 := slN_len p.1 p.2 ds
  rw [List.length_take] at h1 h2
  exact ⟨by show (srcs (ds.take p.1)).length < 101; lia, by show (tgts (ds.take p.1)).length < 101; lia, by show (slN p.1 p.2 ds).length < 101; lia, fun d hd => hl d (slN_mem hd)⟩
theorem hunks_len (ds : List Dd) (c : Nat) : (hunksOf ds c).length ≤ ds.length := by
  unfold hunksOf stretches
  rw [List.length_map]
  have := stFrom_len ds c (List.range ds.length) []
  simpa using this
theorem patch_len {ds : List Dd} (c : Nat) (hn : ds.length ≤ 100) (hl : ∀ d ∈ ds, d.2.length ≤ 1000) : (patchOf (hunksOf ds c)).length ≤ lim := by
  have hlim : lim = 1000000 := rfl
  have ok0 : WOk w0 := ⟨Nat.le_refl _, Nat.le_refl _⟩
  obtain ⟨ok, hs, ht, hb⟩ := Wrun_end (c := c) (ch := chg ds) ds 0 w0 ok0 (by show 0 + _ < 101; lia) (by show 0 + _ < 101; lia) (by show 0 + 0 + 1200 * ds.length ≤ 400000; lia) hl
  rw [← patch_writer]
  unfold writerOf Wend
  rw [len_app]
  have := whunk_len ok hs ht
  lia
noncomputable def dspecD (a b : List Str) : Nat → Nat → List (Nat × Nat) → List Dd
  | _, _, [] => []
  | i, j, (p, q) :: r => (slN i p a).map (fun l => (Kd.del, l)) ++ (slN j q b).map (fun l => (Kd.add, l)) ++ (slN p (p + 1) a).map (fun l => (Kd.keep, l)) ++ dspecD a b (p + 1) (q + 1) r
theorem dspecD_ok (a b : List Str) : ∀ (ms : List (Nat × Nat)) (i j : Nat), (dspecD a b i j ms).map dueD = dspec a b i j ms
  | [], i, j => rfl
  | (p, q) :: r, i, j => by
    rw [dspecD, dspec, List.map_append, List.map_append, List.map_append, List.map_map, List.map_map, List.map_map, dspecD_ok a b r]
    rfl
noncomputable def diffDd (a b : List Str) : List Dd := dspecD a b 0 0 (walkL a 0 0 b ++ [(a.length, b.length)])
theorem diffDd_ok (a b : List Str) : (diffDd a b).map dueD = diffOf a b := dspecD_ok a b _ 0 0
noncomputable def mkAL (lo lt : Nat → Option Nat) (O T : List Str) : List Str → Nat → Nat → Nat → List Str → AL × Gap
  | [], _, o, t, g => ([], (g, O.drop o, T.drop t))
  | x :: b, i, o, t, g => match lo i, lt i with
    | some p, some q => let r := mkAL lo lt O T b (i + 1) (p + 1) (q + 1) []; (((g, slN o p O, slN t q T), x) :: r.1, r.2)
    | _, _ => mkAL lo lt O T b (i + 1) o t (g ++ [x])
noncomputable def alignOf (B O T : List Str) : AL × Gap := mkAL (look (walkL B 0 0 O)) (look (walkL B 0 0 T)) O T B 0 0 0 []
noncomputable def goodB (lo lt : Nat → Option Nat) : Nat → Nat → Nat → AL → Gap → Bool
  | i, _, _, [], f => (List.range f.1.length).all fun d => !((lo (i + d)).isSome && (lt (i + d)).isSome)
  | i, o, t, (g, _) :: r, f => ((List.range g.1.length).all fun d => !((lo (i + d)).isSome && (lt (i + d)).isSome)) && lo (i + g.1.length) == some (o + g.2.1.length) && lt (i + g.1.length) == some (t + g.2.2.length) &&
    goodB lo lt (i + g.1.length + 1) (o + g.2.1.length + 1) (t + g.2.2.length + 1) r f
theorem notBoth {lo lt : Nat → Option Nat} {i n : Nat} (h : ((List.range n).all fun d => !((lo (i + d)).isSome && (lt (i + d)).isSome)) = true) : ∀ e, i ≤ e → e < i + n → ¬ both lo lt e := fun e h1 h2 q => by
  have := List.all_eq_true.mp h (e - i) (List.mem_range.mpr (by lia))
  rw [show i + (e - i) = e by lia, q.1, q.2] at this
  cases this
theorem goodB_ok {lo lt : Nat → Option Nat} {f : Gap} : ∀ (al : AL) (i o t : Nat), goodB lo lt i o t al f = true → Good lo lt i o t al f
  | [], i, o, t, h => notBoth h
  | (g, x) :: r, i, o, t, h => by
    rw [goodB] at h
    simp only [Bool.and_eq_true, beq_iff_eq] at h
    exact ⟨notBoth h.1.1.1, h.1.1.2, h.1.2, goodB_ok r _ _ _ h.2⟩
noncomputable def strTab (k : Nat) : List (List Str) := match (glUsed[k]? : Option (Str × PyData)) with
  | some (_, PyData.tuple xs) => xs.map fun x => match x with
    | .tuple ys => (asStrs ys).getD []
    | _ => []
  | _ => []
noncomputable def slotTab : List (List Str) := strTab 3
noncomputable def tailTab : List (List Str) := strTab 4
noncomputable def sufTab : List Str := match (glUsed[2]? : Option (Str × PyData)) with
  | some (_, PyData.tuple xs) => (asStrs xs).getD []
  | _ => []
noncomputable def kAt (tab : List (List Str)) (i j : Nat) : Str := (tab.getD i []).getD j Str.empty
noncomputable def suf (j : Nat) : Str := sufTab.getD j Str.empty
noncomputable def evL (sy nu su : Str) : Option PV := callAt fns 11 23 [SV sy, SV nu, SV su]
noncomputable def evD (sy nu su : Str) : Option PV := callAt fns 11 24 [SV sy, SV nu, SV su]
noncomputable def asLs : Option PV → Option (List Str)
  | some (.d (.list xs)) => asStrs xs
  | _ => Option.none
noncomputable def kdOf (s : Str) : Option Kd := if s = Str.ofString " " then some .keep else if s = Str.ofString "-" then some .del else if s = Str.ofString "+" then some .add else Option.none
noncomputable def asDds : List PyData → Option (List Dd)
  | [] => some []
  | .tuple [.str s, .str l] :: r => match kdOf s, asDds r with
    | some k, some ds => some ((k, l) :: ds)
    | _, _ => Option.none
  | _ => Option.none
noncomputable def asDs : Option PV → Option (List Dd)
  | some (.d (.list xs)) => asDds xs
  | _ => Option.none
noncomputable def LL (sy nu su : Str) : List Str := (asLs (evL sy nu su)).getD []
noncomputable def DL (sy nu su : Str) : List Dd := (asDs (evD sy nu su)).getD []
noncomputable def lineOk (x : Str) : Bool := decide (x.cps.toList.getLast? = some 10) && !(x.cps.toList.dropLast).contains 10 && decide (x.length ≤ 20)
noncomputable def lastOk (x : Str) : Bool := lineOk x || (!x.cps.toList.contains 10 && decide (x ≠ Str.ofString "") && decide (x.length ≤ 20))
noncomputable def linesOk (tail : Bool) (xs : List Str) : Bool := if tail then xs.dropLast.all lineOk && xs.getLast?.all lastOk else xs.all lineOk
noncomputable def tagIs (cs : List Nat) (x : Str) : Bool := match x.cps[1]? with
  | some c => cs.contains c
  | Option.none => false
noncomputable def ltS : Str := Str.ofString "<"
noncomputable def hasLt (k : Str) : Bool := Txt.contains k ltS
noncomputable def rawOf (k : Str) (O T : List Str) (D : List Dd) : List Str := if hasLt k then [m7] ++ O ++ [e7] ++ T ++ [w7] else tgts D
noncomputable def chkP (tail : Bool) (nu : Nat) (k : Str) (B O T : List Str) (D : List Dd) : Bool :=
  let a := alignOf B O T
  decide (fB a.1 a.2 = B) && decide (fO a.1 a.2 = O) && decide (fT a.1 a.2 = T) && goodB (look (walkL B 0 0 O)) (look (walkL B 0 0 T)) 0 0 0 a.1 a.2
  && decide (linC (fine a.1 a.2) = rawOf k O T D) && decide (cntC (fine a.1 a.2) = if hasLt k then 1 else 0) && decide (conC (fine a.1 a.2) = concatStr (tgts D))
  && decide (diffDd O (tgts D) = D) && decide (lcs O (tgts D) = (D.filter fun d => decide (d.1 = .keep)).length)
  && linesOk tail B && linesOk tail O && linesOk tail T && linesOk tail (tgts D)
  && B.all (tagIs [nu]) && O.all (tagIs [nu]) && T.all (tagIs [nu]) && (tgts D).all (tagIs [nu, 60, 61, 62])
  && decide (B.length ≤ 10) && decide (O.length ≤ 10) && decide (T.length ≤ 10) && decide (D.length ≤ 12)
noncomputable def chkE (tab : List (List Str)) (tail : Bool) (nu : Str) (i j : Nat) : Bool :=
  (asLs (evL (kAt tab i 0) nu (suf j))).isSome && (asLs (evL (kAt tab i 1) nu (suf j))).isSome && (asLs (evL (kAt tab i 2) nu (suf j))).isSome && (asDs (evD (kAt tab i 3) nu (suf j))).isSome
  && chkP tail (nu.cps[0]?.getD 0) (kAt tab i 3) (LL (kAt tab i 0) nu (suf j)) (LL (kAt tab i 1) nu (suf j)) (LL (kAt tab i 2) nu (suf j)) (DL (kAt tab i 3) nu (suf j))
theorem chk_slots0 : ∀ i, i < 12 → ∀ j, j < 4 → chkE slotTab false (Str.ofString "0") i j = true := by decide +kernel
theorem chk_slots1 : ∀ i, i < 12 → ∀ j, j < 4 → chkE slotTab false (Str.ofString "1") i j = true := by decide +kernel
theorem chk_tails : ∀ i, i < 10 → ∀ j, j < 4 → chkE tailTab true (Str.ofString "2") i j = true := by decide +kernel
noncomputable def asTup : Option PV → Option (List Str)
  | some (.d (.tuple xs)) => asStrs xs
  | _ => Option.none
noncomputable def runK (sy : Str) (n : Nat) : List Str := (asTup (callAt fns 11 21 [SV sy, IV n])).getD []
noncomputable def chkR (sy line : Str) (n j : Nat) : Bool :=
  (asTup (callAt fns 11 21 [SV sy, IV n])).isSome && decide ((runK sy n).length = 4)
  && decide (asLs (evL ((runK sy n).getD 0 Str.empty) (Str.ofString "") (suf j)) = some (List.replicate n line))
  && decide (asLs (evL ((runK sy n).getD 1 Str.empty) (Str.ofString "") (suf j)) = some (List.replicate n line))
  && decide (asLs (evL ((runK sy n).getD 2 Str.empty) (Str.ofString "") (suf j)) = some (List.replicate n line))
  && decide (asDs (evD ((runK sy n).getD 3 Str.empty) (Str.ofString "") (suf j)) = some (List.replicate n (Kd.keep, line)))
  && !hasLt ((runK sy n).getD 3 Str.empty)
noncomputable def rL : Str := Str.ofString "\n"
noncomputable def sL : Str := Str.ofString "@@\n"
theorem chk_r : ∀ n, n < 4 → 0 < n → ∀ j, j < 4 → chkR (Str.ofString "r") rL n j = true := by decide +kernel
theorem chk_s : ∀ n, n < 4 → 0 < n → ∀ j, j < 4 → chkR (Str.ofString "s") sL n j = true := by decide +kernel
theorem asStrs_inv : ∀ {xs : List PyData} {l : List Str}, asStrs xs = some l → xs = l.map .str
  | [], l, h => by cases h; rfl
  | x :: xs, l, h => by
    cases x with
    | str s =>
      rw [asStrs] at h
      refine ea_1_2 (Option.map_eq_some_iff.mp h) fun l' h' hrf2 => ?_
      subst hrf2
      rw [asStrs_inv h']; rfl
    | _ => cases h
theorem asLs_inv {r : Option PV} {l : List Str} (h : asLs r = some l) : r = some (Ls l) := by
  unfold asLs at h
  split at h
  · rw [asStrs_inv h]; rfl
  · cases h
theorem kdOf_inv {s : Str} {k : Kd} (h : kdOf s = some k) : s = signK k := by
  unfold kdOf at h
  split at h
  · rename_i e; cases h; exact e
  · split at h
    · rename_i e; cases h; exact e
    · split at h
      · rename_i e; cases h; exact e
      · cases h
theorem asDds_inv : ∀ {xs : List PyData} {l : List Dd}, asDds xs = some l → xs = l.map deedS
  | [], l, h => by cases h; rfl
  | x :: xs, l, h => by
    unfold asDds at h
    split at h
    · rename_i q; cases q
    · rename_i s ln r q
      cases q
      split at h
      · rename_i k ds hk hd
        cases h
        rw [asDds_inv hd, kdOf_inv hk]; rfl
      · cases h
    · cases h
theorem asDs_inv {r : Option PV} {l : List Dd} (h : asDs r = some l) : r = some (SDV l) := by
  unfold asDs at h
  split at h
  · rw [asDds_inv h]; rfl
  · cases h
theorem asTup_inv {r : Option PV} {l : List Str} (h : asTup r = some l) : r = some (.d (.tuple (l.map .str))) := by
  unfold asTup at h
  split at h
  · rw [asStrs_inv h]
  · cases h
theorem getD_some {α : Type} {o : Option α} {d : α} (h : o.isSome = true) : o = some (o.getD d) := by
  cases o with
  | none => cases h
  | some x => rfl
structure PcOk (tail : Bool) (nu : Nat) (k : Str) (B O T : List Str) (D : List Dd) (al : AL) (f : Gap) : Prop where
  hB : B = fB al f
  hO : O = fO al f
  hT : T = fT al f
  good : Good (look (walkL (fB al f) 0 0 (fO al f))) (look (walkL (fB al f) 0 0 (fT al f))) 0 0 0 al f
  lin : linC (fine al f) = rawOf k O T D
  cnt : cntC (fine al f) = if hasLt k then 1 else 0
  con : conC (fine al f) = concatStr (tgts D)
  dif : diffDd O (tgts D) = D
  lcs : lcs O (tgts D) = (D.filter fun d => decide (d.1 = .keep)).length
  lB : linesOk tail B = true
  lO : linesOk tail O = true
  lT : linesOk tail T = true
  lN : linesOk tail (tgts D) = true
  tB : ∀ x ∈ B, tagIs [nu] x = true
  tO : ∀ x ∈ O, tagIs [nu] x = true
  tT : ∀ x ∈ T, tagIs [nu] x = true
  tN : ∀ x ∈ tgts D, tagIs [nu, 60, 61, 62] x = true
  nB : B.length ≤ 10
  nO : O.length ≤ 10
  nT : T.length ≤ 10
  nD : D.length ≤ 12
theorem chkP_ok {tail : Bool} {nu : Nat} {k : Str} {B O T : List Str} {D : List Dd} (h : chkP tail nu k B O T D = true) : ∃ al f, PcOk tail nu k B O T D al f := by
  unfold chkP at h
  simp only [Bool.and_eq_true, decide_eq_true_eq, List.all_eq_true] at h
  obtain ⟨⟨⟨⟨⟨⟨⟨⟨⟨⟨⟨⟨⟨⟨⟨⟨⟨⟨⟨⟨h1, h2⟩, h3⟩, h4⟩, h5⟩, h6⟩, h7⟩, h8⟩, h9⟩, h10⟩, h11⟩, h12⟩, h13⟩, h14⟩, h15⟩, h16⟩, h17⟩, h18⟩, h19⟩, h20⟩, h21⟩ := h
  refine ⟨_, _, h1.symm, h2.symm, h3.symm, ?_, h5, h6, h7, h8, h9, h10, h11, h12, h13, h14, h15, h16, h17, h18, h19, h20, h21⟩
  rw [h1, h2, h3]
  exact goodB_ok _ _ _ _ h4
noncomputable def tot {α : Type} (x0 : List α) (r : α) (k : Nat) (x1 : List α) (s : α) (l : Nat) (x2 : List α) : List α := x0 ++ (List.replicate (k + 1) r ++ (x1 ++ (List.replicate (l + 1) s ++ x2)))
theorem tag_off {cs ds : List Nat} {x : Str} (h : tagIs cs x = true) (hd : ∀ c ∈ cs, c ∉ ds) : tagIs ds x = false := by
  unfold tagIs at h ⊢
  split at h
  · rename_i c hc
    have := hd c (by simpa using h)
    simpa using this
  · cases h
theorem not_mem_tag {cs : List Nat} {x : Str} {xs : List Str} (h : ∀ y ∈ xs, tagIs cs y = true) (hx : tagIs cs x = false) : x ∉ xs := fun q => by rw [h x q] at hx; cases hx
theorem apart_tag {cs ds : List Nat} {xs ys : List Str} (h1 : ∀ x ∈ xs, tagIs cs x = true) (h2 : ∀ y ∈ ys, tagIs ds y = true) (hd : ∀ c ∈ ds, c ∉ cs) : ∀ z ∈ xs, z ∉ ys := fun z hz q => by
  have a := h1 z hz
  rw [tag_off (h2 z q) hd] at a; cases a
theorem rL_off (cs : List Nat) : tagIs cs rL = false := rfl
theorem sL_off {cs : List Nat} (h : 64 ∉ cs) : tagIs cs sL = false := by
  show cs.contains 64 = false
  simpa using h
theorem not_mem_run {x s : Str} {n : Nat} {xs ys : List Str} (h1 : x ∉ xs) (h2 : x ≠ s) (h3 : x ∉ ys) : x ∉ xs ++ (List.replicate n s ++ ys) := fun q => by
  rcases List.mem_append.mp q with q | q
  · exact h1 q
  · rcases List.mem_append.mp q with q | q
    · exact h2 (List.mem_replicate.mp q).2
    · exact h3 q
theorem linC_app (a b : List Ch) : linC (a ++ b) = linC a ++ linC b := by unfold linC; rw [List.flatMap_append]
theorem cntC_app (a b : List Ch) : cntC (a ++ b) = cntC a + cntC b := by unfold cntC; rw [List.filter_append, List.length_append]
theorem conC_app (a b : List Ch) : conC (a ++ b) = conC a ++ conC b := by unfold conC; rw [List.map_append, concat_app]
theorem run_same (n : Nat) (r : Str) : linC ((List.replicate n r).map same1) = List.replicate n r ∧ cntC ((List.replicate n r).map same1) = 0 ∧ conC ((List.replicate n r).map same1) = concatStr (List.replicate n r) := by
  refine ea_0_3 (same_run (List.replicate n r) (List.replicate n r) (List.replicate n r)) fun h1 h2 h3 => ?_
  refine ⟨h1.symm.trans ?_, h2.symm.trans rfl, h3.symm.trans ?_⟩
  · unfold linC; rw [List.flatMap_cons, List.flatMap_nil, List.append_nil, lin_same]
  · unfold conC; rw [List.map_cons, List.map_nil, con_same, concatStr, concatStr, str_empty_r]
section
variable {k0 k1 k2 : Str} {B0 O0 T0 B1 O1 T1 B2 O2 T2 : List Str} {D0 D1 D2 : List Dd} {al0 al1 al2 : AL} {f0 f1 f2 : Gap}
variable (p0 : PcOk false 48 k0 B0 O0 T0 D0 al0 f0) (p1 : PcOk false 49 k1 B1 O1 T1 D1 al1 f1) (p2 : PcOk true 50 k2 B2 O2 T2 D2 al2 f2)
include p0 p1 p2
theorem tot_chunks (k l : Nat) (hk : k < 3) (hl : l < 3) (n : Nat) : ∃ cs : List Ch, callAt fns (n + 3) 10 [Ls (tot B0 rL k B1 sL l B2), Ls (tot O0 rL k O1 sL l O2), Ls (tot T0 rL k T1 sL l T2)] = some (.d (.list (cs.map chD))) ∧
    linC cs = tot (rawOf k0 O0 T0 D0) rL k (rawOf k1 O1 T1 D1) sL l (rawOf k2 O2 T2 D2) ∧ cntC cs = (if hasLt k0 then 1 else 0) + ((if hasLt k1 then 1 else 0) + (if hasLt k2 then 1 else 0)) ∧
    conC cs = concatStr (tot (tgts D0) rL k (tgts D1) sL l (tgts D2)) ∧ cs.length ≤ 3000 ∧ ∀ c ∈ cs, c.2.1.length ≤ 1000 ∧ c.2.2.1.length ≤ 1000 ∧ c.2.2.2.length ≤ 1000 := by
  have g1 : Good (look (walkL (fB (glue al1 f1 sL l al2) f2) 0 0 (fO (glue al1 f1 sL l al2) f2))) (look (walkL (fB (glue al1 f1 sL l al2) f2) 0 0 (fT (glue al1 f1 sL l al2) f2))) 0 0 0 (glue al1 f1 sL l al2) f2 := by
    refine good_glue p1.good p2.good ?_ ?_ ?_ ?_ ?_ ?_ ?_ ?_ ?_ ?_
    · rw [← p1.hB]; exact not_mem_tag p1.tB (sL_off (by decide))
    · rw [← p1.hO]; exact not_mem_tag p1.tO (sL_off (by decide))
    · rw [← p1.hT]; exact not_mem_tag p1.tT (sL_off (by decide))
    · rw [← p2.hB]; exact not_mem_tag p2.tB (sL_off (by decide))
    · rw [← p2.hO]; exact not_mem_tag p2.tO (sL_off (by decide))
    · rw [← p2.hT]; exact not_mem_tag p2.tT (sL_off (by decide))
    · rw [← p1.hB, ← p2.hO]; exact apart_tag p1.tB p2.tO (by decide)
    · rw [← p1.hO, ← p2.hB]; exact apart_tag p1.tO p2.tB (by decide)
    · rw [← p1.hB, ← p2.hT]; exact apart_tag p1.tB p2.tT (by decide)
    · rw [← p1.hT, ← p2.hB]; exact apart_tag p1.tT p2.tB (by decide)
  have rs : rL ≠ sL := by decide
  have sB : fB (glue al1 f1 sL l al2) f2 = B1 ++ (List.replicate (l + 1) sL ++ B2) := by rw [fB_glue, ← p1.hB, ← p2.hB]
  have sO : fO (glue al1 f1 sL l al2) f2 = O1 ++ (List.replicate (l + 1) sL ++ O2) := by rw [fO_glue, ← p1.hO, ← p2.hO]
  have sT : fT (glue al1 f1 sL l al2) f2 = T1 ++ (List.replicate (l + 1) sL ++ T2) := by rw [fT_glue, ← p1.hT, ← p2.hT]
  have nm : ∀ {xs ys : List Str}, (∀ y ∈ xs, tagIs [49] y = true) → (∀ y ∈ ys, tagIs [50] y = true) → rL ∉ xs ++ (List.replicate (l + 1) sL ++ ys) := fun h1 h2 => not_mem_run (not_mem_tag h1 (rL_off _)) rs (not_mem_tag h2 (rL_off _))
  have ap : ∀ {zs xs ys : List Str}, (∀ y ∈ zs, tagIs [48] y = true) → (∀ y ∈ xs, tagIs [49] y = true) → (∀ y ∈ ys, tagIs [50] y = true) → ∀ z ∈ zs, z ∉ xs ++ (List.replicate (l + 1) sL ++ ys) := fun h0 h1 h2 z hz =>
    not_mem_run (apart_tag h0 h1 (by decide) z hz) (fun q => by have := h0 z hz; rw [q, sL_off (by decide)] at this; cases this) (apart_tag h0 h2 (by decide) z hz)
  have g0 : Good (look (walkL (fB (glue al0 f0 rL k (glue al1 f1 sL l al2)) f2) 0 0 (fO (glue al0 f0 rL k (glue al1 f1 sL l al2)) f2))) (look (walkL (fB (glue al0 f0 rL k (glue al1 f1 sL l al2)) f2) 0 0 (fT (glue al0 f0 rL k (glue al1 f1 sL l al2)) f2))) 0 0 0 (glue al0 f0 rL k (glue al1 f1 sL l al2)) f2 := by
    refine good_glue p0.good g1 ?_ ?_ ?_ ?_ ?_ ?_ ?_ ?_ ?_ ?_
    · rw [← p0.hB]; exact not_mem_tag p0.tB (rL_off _)
    · rw [← p0.hO]; exact not_mem_tag p0.tO (rL_off _)
    · rw [← p0.hT]; exact not_mem_tag p0.tT (rL_off _)
    · rw [sB]; exact nm p1.tB p2.tB
    · rw [sO]; exact nm p1.tO p2.tO
    · rw [sT]; exact nm p1.tT p2.tT
    · rw [← p0.hB, sO]; exact ap p0.tB p1.tO p2.tO
    · rw [← p0.hO, sB]; exact ap p0.tO p1.tB p2.tB
    · rw [← p0.hB, sT]; exact ap p0.tB p1.tT p2.tT
    · rw [← p0.hT, sB]; exact ap p0.tT p1.tB p2.tB
  have eB : tot B0 rL k B1 sL l B2 = fB (glue al0 f0 rL k (glue al1 f1 sL l al2)) f2 := by rw [fB_glue, sB, ← p0.hB]; rfl
  have eO : tot O0 rL k O1 sL l O2 = fO (glue al0 f0 rL k (glue al1 f1 sL l al2)) f2 := by rw [fO_glue, sO, ← p0.hO]; rfl
  have eT : tot T0 rL k T1 sL l T2 = fT (glue al0 f0 rL k (glue al1 f1 sL l al2)) f2 := by rw [fT_glue, sT, ← p0.hT]; rfl
  have tl : ∀ {x y z : List Str}, x.length ≤ 10 → y.length ≤ 10 → z.length ≤ 10 → (tot x rL k y sL l z).length ≤ 1000 := fun h1 h2 h3 => by unfold tot; simp; lia
  obtain ⟨cs, hc, hsame, hlen⟩ := call_chunks (B := tot B0 rL k B1 sL l B2) (O := tot O0 rL k O1 sL l O2) (T := tot T0 rL k T1 sL l T2) eB eO eT (by rw [eB, eO, eT]; exact g0) (tl p0.nB p1.nB p2.nB) (tl p0.nO p1.nO p2.nO) (tl p0.nT p1.nT p2.nT) n
  refine ea_0_3 (hsame) fun s1 s2 s3 => ?_
  refine ea_0_3 (run_same (k + 1) rL) fun a1 a2 a3 => ?_
  refine ea_0_3 (run_same (l + 1) sL) fun b1 b2 b3 => ?_
  refine ⟨cs, hc, ?_, ?_, ?_, hlen⟩
  · rw [s1, fine_glue, fine_glue, linC_app, linC_app, linC_app, linC_app, p0.lin, p1.lin, p2.lin, a1, b1]; rfl
  · rw [s2, fine_glue, fine_glue, cntC_app, cntC_app, cntC_app, cntC_app, p0.cnt, p1.cnt, p2.cnt, a2, b2, Nat.zero_add, Nat.zero_add]
  · rw [s3, fine_glue, fine_glue, conC_app, conC_app, conC_app, conC_app, p0.con, p1.con, p2.con, a3, b3]
    unfold tot
    rw [concat_app, concat_app, concat_app, concat_app]
theorem tot_diff (k l : Nat) : diffOf (tot O0 rL k O1 sL l O2) (tot (tgts D0) rL k (tgts D1) sL l (tgts D2)) = (tot D0 (.keep, rL) k D1 (.keep, sL) l D2).map dueD := by
  have rs : rL ≠ sL := by decide
  have e0 : diffOf O0 (tgts D0) = D0.map dueD := by rw [← diffDd_ok, p0.dif]
  have e1 : diffOf O1 (tgts D1) = D1.map dueD := by rw [← diffDd_ok, p1.dif]
  have e2 : diffOf O2 (tgts D2) = D2.map dueD := by rw [← diffDd_ok, p2.dif]
  unfold tot
  rw [diff_split, diff_split, e0, e1, e2]
  · simp only [List.map_append, List.map_replicate]; rfl
  · exact not_mem_tag p2.tO (sL_off (by decide))
  · exact not_mem_tag p2.tN (sL_off (by decide))
  · exact not_mem_tag p1.tO (sL_off (by decide))
  · exact not_mem_tag p1.tN (sL_off (by decide))
  · exact apart_tag p1.tO p2.tN (by decide)
  · exact fun z hz q => apart_tag p2.tO p1.tN (by decide) z q hz
  · exact not_mem_run (not_mem_tag p1.tO (rL_off _)) rs (not_mem_tag p2.tO (rL_off _))
  · exact not_mem_run (not_mem_tag p1.tN (rL_off _)) rs (not_mem_tag p2.tN (rL_off _))
  · exact not_mem_tag p0.tO (rL_off _)
  · exact not_mem_tag p0.tN (rL_off _)
  · exact fun z hz => not_mem_run (apart_tag p0.tO p1.tN (by decide) z hz) (fun q => by have := p0.tO z hz; rw [q, sL_off (by decide)] at this; cases this) (apart_tag p0.tO p2.tN (by decide) z hz)
  · exact fun z hz => not_mem_run (fun q => apart_tag p1.tO p0.tN (by decide) z q hz) (fun q => by have := p0.tN z hz; rw [q, sL_off (by decide)] at this; cases this) (fun q => apart_tag p2.tO p0.tN (by decide) z q hz)
theorem tot_lcs (k l : Nat) : lcs (tot O0 rL k O1 sL l O2) (tot (tgts D0) rL k (tgts D1) sL l (tgts D2)) = ((tot D0 (.keep, rL) k D1 (.keep, sL) l D2).filter fun d => decide (d.1 = .keep)).length := by
  have rs : rL ≠ sL := by decide
  have hr1 := not_mem_run (n := l + 1) (not_mem_tag p1.tO (rL_off _)) rs (not_mem_tag p2.tO (rL_off _))
  have hr2 := not_mem_run (n := l + 1) (not_mem_tag p1.tN (rL_off _)) rs (not_mem_tag p2.tN (rL_off _))
  have hs1 : sL ∉ O2 := not_mem_tag p2.tO (sL_off (by decide))
  have hs2 : sL ∉ tgts D2 := not_mem_tag p2.tN (sL_off (by decide))
  have u : ∀ {x s : Str} {n : Nat} {ys : List Str}, x ≠ s → x ∉ ys → x ∉ List.replicate n s ++ ys := fun h1 h2 q => by
    rcases List.mem_append.mp q with q | q
    · exact h1 (List.mem_replicate.mp q).2
    · exact h2 q
  have inner : lcs (O1 ++ (List.replicate (l + 1) sL ++ O2)) (tgts D1 ++ (List.replicate (l + 1) sL ++ tgts D2)) = lcs O1 (tgts D1) + (l + 1 + lcs O2 (tgts D2)) := by
    rw [lcs_split, lcs_run hs1 hs2, Nat.min_self]
    · exact fun z hz => u (fun q => by have := p1.tO z hz; rw [q, sL_off (by decide)] at this; cases this) (apart_tag p1.tO p2.tN (by decide) z hz)
    · exact fun z hz => u (fun q => by have := p1.tN z hz; rw [q, sL_off (by decide)] at this; cases this) (fun q => apart_tag p2.tO p1.tN (by decide) z q hz)
  unfold tot
  rw [lcs_split, lcs_run hr1 hr2, Nat.min_self, inner, p0.lcs, p1.lcs, p2.lcs]
  · simp only [List.filter_append, List.length_append, List.filter_replicate, decide_true, if_true, List.length_replicate]
  · exact fun z hz => u (fun q => by have := p0.tO z hz; rw [q, rL_off] at this; cases this) (not_mem_run (apart_tag p0.tO p1.tN (by decide) z hz) (fun q => by have := p0.tO z hz; rw [q, sL_off (by decide)] at this; cases this) (apart_tag p0.tO p2.tN (by decide) z hz))
  · exact fun z hz => u (fun q => by have := p0.tN z hz; rw [q, rL_off] at this; cases this) (not_mem_run (fun q => apart_tag p1.tO p0.tN (by decide) z q hz) (fun q => by have := p0.tN z hz; rw [q, sL_off (by decide)] at this; cases this) (fun q => apart_tag p2.tO p0.tN (by decide) z q hz))
end
theorem lineOk_inv {x : Str} (h : lineOk x = true) : ∃ p : Str, x = p ++ nl ∧ free p ∧ p.length ≤ 20 := by
  unfold lineOk at h
  simp only [Bool.and_eq_true, decide_eq_true_eq, Bool.not_eq_true'] at h
  obtain ⟨⟨h1, h2⟩, h3⟩ := h
  have hne : x.cps.toList ≠ [] := fun q => by rw [q] at h1; cases h1
  have hd := List.dropLast_concat_getLast hne
  rw [List.getLast?_eq_some_getLast hne] at h1
  rw [Option.some.inj h1] at hd
  refine ⟨⟨x.cps.toList.dropLast.toArray⟩, ?_, ?_, ?_⟩
  · apply str_ext
    rw [cps_app]
    show x.cps.toList = x.cps.toList.dropLast ++ [10]
    exact hd.symm
  · show 10 ∉ x.cps.toList.dropLast
    intro q
    rw [List.contains_iff_mem.mpr q] at h2; cases h2
  · show x.cps.toList.dropLast.toArray.size ≤ 20
    have : x.cps.size ≤ 20 := h3
    simp
    lia
theorem lines_inv : ∀ {xs : List Str}, (∀ x ∈ xs, lineOk x = true) → ∃ ps : List Str, xs = ps.map (· ++ nl) ∧ (∀ p ∈ ps, free p ∧ p.length ≤ 20)
  | [], _ => ⟨[], rfl, by simp⟩
  | x :: xs, h => by
    refine ea_1_3 (lineOk_inv (h x (.head _))) fun p e h1 h2 => ?_
    refine ea_1_2 (lines_inv (xs := xs) fun y hy => h y (.tail _ hy)) fun ps e' h' => ?_
    refine ⟨p :: ps, by rw [List.map_cons, ← e, ← e'], fun q hq => ?_⟩
    rcases List.mem_cons.mp hq with rfl | hq
    · exact ⟨h1, h2⟩
    · exact h' q hq
theorem from_inv {xs ys : List Str} (hx : ∀ x ∈ xs, lineOk x = true) (hy : linesOk true ys = true) : ∃ ps q, xs ++ ys = linesFrom ps q ∧ (∀ p ∈ ps, free p ∧ p.length ≤ 20) ∧ free q ∧ ps.length ≤ xs.length + ys.length := by
  refine ea_1_2 (lines_inv hx) fun ps e h => ?_
  have hpl : ps.length = xs.length := by rw [e, List.length_map]
  unfold linesOk at hy
  rw [if_pos rfl, Bool.and_eq_true, List.all_eq_true] at hy
  refine ea_0_2 (hy) fun h1 h2 => ?_
  have f0 : free (Str.ofString "") := by unfold free; decide
  cases hl : ys.getLast? with
  | none =>
    have : ys = [] := List.getLast?_eq_none_iff.mp hl
    subst this
    refine ⟨ps, Str.ofString "", ?_, h, f0, by lia⟩
    unfold linesFrom tailL
    rw [if_pos rfl, e]
  | some z =>
    have hne : ys ≠ [] := fun q => by rw [q] at hl; cases hl
    have hd := List.dropLast_concat_getLast hne
    rw [List.getLast?_eq_some_getLast hne] at hl
    rw [Option.some.inj hl] at hd
    rw [List.getLast?_eq_some_getLast hne, Option.some.inj hl] at h2
    refine ea_1_2 (lines_inv h1) fun ps' e' h' => ?_
    have hl' : ps'.length + 1 = ys.length := by rw [← hd, List.length_append, e', List.length_map]; rfl
    have hz : lastOk z = true := h2
    unfold lastOk at hz
    rw [Bool.or_eq_true] at hz
    have hall : ∀ p ∈ ps ++ ps', free p ∧ p.length ≤ 20 := fun p hp => by
      rcases List.mem_append.mp hp with hp | hp
      · exact h p hp
      · exact h' p hp
    rcases hz with hz | hz
    · refine ea_1_3 (lineOk_inv hz) fun p ep hp1 hp2 => ?_
      refine ⟨ps ++ ps' ++ [p], Str.ofString "", ?_, fun q hq => ?_, f0, by simp; lia⟩
      · unfold linesFrom tailL
        rw [if_pos rfl, List.append_nil, List.map_append, List.map_append, ← e, ← e', List.append_assoc]
        conv => lhs; rw [← hd]
        rw [ep]; rfl
      · rcases List.mem_append.mp hq with hq | hq
        · exact hall q hq
        · have : q = p := by simpa using hq
          subst this; exact ⟨hp1, hp2⟩
    · simp only [Bool.and_eq_true, Bool.not_eq_true', decide_eq_true_eq] at hz
      obtain ⟨⟨z1, z2⟩, z3⟩ := hz
      refine ⟨ps ++ ps', z, ?_, hall, ?_, by simp; lia⟩
      · unfold linesFrom tailL
        rw [if_neg z2, List.map_append, ← e, ← e', List.append_assoc]
        conv => lhs; rw [← hd]
      · intro q
        rw [List.contains_iff_mem.mpr q] at z1; cases z1
theorem all_ok {X0 X1 : List Str} {k l : Nat} (h0 : linesOk false X0 = true) (h1 : linesOk false X1 = true) : ∀ x ∈ X0 ++ (List.replicate (k + 1) rL ++ (X1 ++ List.replicate (l + 1) sL)), lineOk x = true := by
  unfold linesOk at h0 h1
  rw [if_neg Bool.false_ne_true, List.all_eq_true] at h0 h1
  intro x hx
  rcases List.mem_append.mp hx with hx | hx
  · exact h0 x hx
  · rcases List.mem_append.mp hx with hx | hx
    · rw [(List.mem_replicate.mp hx).2]; decide
    · rcases List.mem_append.mp hx with hx | hx
      · exact h1 x hx
      · rw [(List.mem_replicate.mp hx).2]; decide
theorem line_len {x : Str} (h : lineOk x = true) : x.length ≤ 20 := by
  unfold lineOk at h
  simp only [Bool.and_eq_true, decide_eq_true_eq] at h
  exact h.2
theorem last_len {x : Str} (h : lastOk x = true) : x.length ≤ 20 := by
  unfold lastOk at h
  rw [Bool.or_eq_true] at h
  rcases h with h | h
  · exact line_len h
  · simp only [Bool.and_eq_true, decide_eq_true_eq] at h; exact h.2
theorem lines_len {t : Bool} {xs : List Str} (h : linesOk t xs = true) : ∀ x ∈ xs, x.length ≤ 20 := by
  unfold linesOk at h
  split at h
  · rw [Bool.and_eq_true, List.all_eq_true] at h
    intro x hx
    cases hl : xs.getLast? with
    | none => rw [List.getLast?_eq_none_iff.mp hl] at hx; simp at hx
    | some z =>
      have hne : xs ≠ [] := fun q => by rw [q] at hl; cases hl
      have hd := List.dropLast_concat_getLast hne
      have hz := hl
      rw [List.getLast?_eq_some_getLast hne] at hz
      rw [Option.some.inj hz] at hd
      rw [← hd] at hx
      rcases List.mem_append.mp hx with hx | hx
      · exact line_len (h.1 x hx)
      · have : x = z := by simpa using hx
        subst this
        have h2 := h.2
        rw [hl] at h2
        exact last_len h2
  · rw [List.all_eq_true] at h
    exact fun x hx => line_len (h x hx)
theorem concat_bound : ∀ {xs : List Str}, (∀ x ∈ xs, x.length ≤ 20) → (concatStr xs).length ≤ 20 * xs.length
  | [], _ => Nat.le_refl _
  | x :: xs, h => by
    have := concat_bound (xs := xs) fun y hy => h y (.tail _ hy)
    have h0 := h x (.head _)
    rw [concatStr, len_app, List.length_cons]; lia
theorem tot_short {X0 X1 X2 : List Str} {k l : Nat} {t0 t1 t2 : Bool} (h0 : linesOk t0 X0 = true) (h1 : linesOk t1 X1 = true) (h2 : linesOk t2 X2 = true) : ∀ x ∈ tot X0 rL k X1 sL l X2, x.length ≤ 20 := fun x hx => by
  unfold tot at hx
  rcases List.mem_append.mp hx with hx | hx
  · exact lines_len h0 x hx
  · rcases List.mem_append.mp hx with hx | hx
    · rw [(List.mem_replicate.mp hx).2]; decide
    · rcases List.mem_append.mp hx with hx | hx
      · exact lines_len h1 x hx
      · rcases List.mem_append.mp hx with hx | hx
        · rw [(List.mem_replicate.mp hx).2]; decide
        · exact lines_len h2 x hx
theorem call_lines_tot {X0 X1 X2 : List Str} {k l : Nat} (hk : k < 3) (hl : l < 3) (h0 : linesOk false X0 = true) (h1 : linesOk false X1 = true) (h2 : linesOk true X2 = true) (n0 : X0.length ≤ 12) (n1 : X1.length ≤ 12) (n2 : X2.length ≤ 12) (n : Nat) :
    callAt fns (n + 1) 13 [SV (concatStr (tot X0 rL k X1 sL l X2))] = some (Ls (tot X0 rL k X1 sL l X2)) := by
  have hlen : (tot X0 rL k X1 sL l X2).length ≤ 42 := by unfold tot; simp; lia
  have hb := concat_bound (tot_short (k := k) (l := l) h0 h1 h2)
  refine ea_2_4 (from_inv (all_ok (k := k) (l := l) h0 h1) h2) fun ps q e hp hq hpl => ?_
  have e' : tot X0 rL k X1 sL l X2 = linesFrom ps q := by
    rw [← e]; unfold tot; simp only [List.append_assoc]
  rw [e'] at hb hlen ⊢
  refine call_linesOf (fun p hp' => (hp p hp').1) hq (by lia) ?_ (fun p hp' => by have := (hp p hp').2; lia) n
  refine Nat.le_trans hpl ?_
  simp
  lia
theorem eqvAll_refl {α : Type} {g : α → PyData} : ∀ {l : List α}, (∀ x ∈ l, PyData.eqv (g x) (g x) = true) → PyData.eqvAll (l.map g) (l.map g) = true
  | [], _ => by simp [PyData.eqvAll]
  | x :: l, h => by
    rw [List.map_cons, PyData.eqvAll, h x (.head _), eqvAll_refl fun y hy => h y (.tail _ hy)]; rfl
theorem depthAll_le {α : Type} {g : α → PyData} {n : Nat} : ∀ {l : List α}, (∀ x ∈ l, PyData.depth (g x) ≤ n) → PyData.depthAll (l.map g) ≤ n
  | [], _ => by simp [PyData.depthAll]
  | x :: l, h => by
    have h1 := h x (.head _)
    have h2 := depthAll_le (l := l) fun y hy => h y (.tail _ hy)
    rw [List.map_cons, PyData.depthAll]; lia
theorem strs_refl (a : List Str) : PyData.eqvAll (a.map .str) (a.map .str) = true := by rw [eqv_strs]; exact decide_eq_true rfl
theorem chD_refl (c : Ch) : PyData.eqv (chD c) (chD c) = true := by
  unfold chD
  simp only [PyData.eqv, PyData.eqvAll, strs_refl, beq_self_eq_true, Bool.and_self]
theorem chD_depth (c : Ch) : PyData.depth (chD c) ≤ 3 := by
  unfold chD
  have h1 := depth_strs c.2.1
  have h2 := depth_strs c.2.2.1
  have h3 := depth_strs c.2.2.2
  simp only [PyData.depth, PyData.depthAll]
  lia
theorem due_refl (d : Dd) : PyData.eqv (dueD d) (dueD d) = true := by
  unfold dueD deedD
  simp only [PyData.eqv, PyData.eqvAll, beq_self_eq_true, Bool.and_self]
theorem due_depth (d : Dd) : PyData.depth (dueD d) ≤ 1 := by
  unfold dueD deedD
  simp only [PyData.depth, PyData.depthAll]
  lia
theorem hunk_refl (h : Hk) : PyData.eqv (hunkD h) (hunkD h) = true := by
  unfold hunkD
  simp only [PyData.eqv, PyData.eqvAll, beq_self_eq_true, Bool.and_self, Bool.true_and, Bool.and_true]
  exact eqvAll_refl fun d Z => due_refl d
theorem hunk_depth (h : Hk) : PyData.depth (hunkD h) ≤ 3 := by
  have := depthAll_le (l := h.2.2) (n := 1) fun d Z => due_depth d
  unfold hunkD
  simp only [PyData.depth, PyData.depthAll]
  lia
theorem ne_self {xs : List PyData} (h1 : PyData.eqvAll xs xs = true) (h2 : PyData.depthAll xs ≤ 8) : cmpop .ne (.d (.list xs)) (.d (.list xs)) = some false := by
  simp only [cmpop]
  rw [if_pos h2, h1]; rfl
theorem ne_lines (a : List Str) : cmpop .ne (Ls a) (Ls a) = some false := ne_self (strs_refl a) (Nat.le_trans (depth_strs a) (by decide))
theorem ne_chunks (cs : List Ch) : cmpop .ne (.d (.list (cs.map chD))) (.d (.list (cs.map chD))) = some false := ne_self (eqvAll_refl fun c Z => chD_refl c) (Nat.le_trans (depthAll_le fun c Z => chD_depth c) (by decide))
theorem ne_deeds (ds : List Dd) : cmpop .ne (DV ds) (DV ds) = some false := ne_self (eqvAll_refl fun c Z => due_refl c) (Nat.le_trans (depthAll_le fun c Z => due_depth c) (by decide))
theorem ne_hunks (hs : List Hk) : cmpop .ne (HV hs) (HV hs) = some false := ne_self (eqvAll_refl fun c Z => hunk_refl c) (Nat.le_trans (depthAll_le fun c Z => hunk_depth c) (by decide))
theorem ne_text (a : Str) : cmpop .ne (SV a) (SV a) = some false := by rw [cmp_ne_str, decide_eq_true rfl]; rfl
theorem ne_int (a : Int) : cmpop .ne (IV a) (IV a) = some false := by
  show some (!decide (a = a)) = some false
  rw [decide_eq_true rfl]; rfl
theorem pe_list {C : Nat → List PV → Option PV} {e : PE} {σ : St} {xs : List PyData} (h : pe C e σ = some (.d (.list xs))) (hl : xs.length ≤ lim) : pe C (.list e) σ = some (.d (.list xs)) := by
  rw [peList, h]; dsimp only; rw [if_pos hl]
theorem comp_same {C : Nat → List PV → Option PV} {α : Type} {g : α → PyData} {elt it : PE} {σ : St} {l : List α} (h1 : pit C it σ = some (l.map g)) (hl : l.length ≤ lim) (h2 : ∀ x ∈ l, pe C elt (inner σ [] (g x)) = some (.d (g x))) : pe C (.comp [] elt it) σ = some (.d (.list (l.map g))) := by
  have := pe_comp (C := C) (caps := []) (elt := elt) (it := it) (σ := σ) (xs := l.map g) (fun x => x) h1 (by simpa using hl) (fun x hx => by
    refine ea_1_2 (List.mem_map.mp hx) fun y hy hrf2 => ?_
    subst hrf2
    exact h2 y hy)
  rwa [List.map_id'] at this
theorem comp_map {C : Nat → List PV → Option PV} {α : Type} {g g' : α → PyData} {elt it : PE} {σ : St} {l : List α} (h1 : pit C it σ = some (l.map g)) (hl : l.length ≤ lim) (h2 : ∀ x ∈ l, pe C elt (inner σ [] (g x)) = some (.d (g' x))) : pe C (.comp [] elt it) σ = some (.d (.list (l.map g'))) := by
  rw [peComp, h1]
  dsimp only
  rw [if_pos (by simpa using hl)]
  have go : ∀ (f : PyData → Option PyData), (∀ x ∈ l, f (g x) = some (g' x)) → mapO f (l.map g) = some (l.map g') := by
    intro f
    clear h1 h2 hl
    induction l with
    | nil => intro _; rfl
    | cons x l ih =>
      intro hf
      rw [List.map_cons, List.map_cons]
      exact mapO_step (hf x (.head _)) (ih fun y hy => hf y (.tail _ hy))
  rw [go _ (fun x hx => by rw [h2 x hx]; rfl)]
  rfl
theorem compIf_map {C : Nat → List PV → Option PV} {α : Type} {g g' : α → PyData} {p : α → Bool} {elt it cond : PE} {σ : St} {l : List α} (h1 : pit C it σ = some (l.map g)) (hl : l.length ≤ lim) (h2 : ∀ x ∈ l, pt C cond (inner σ [] (g x)) = some (p x)) (h3 : ∀ x ∈ l, pe C elt (inner σ [] (g x)) = some (.d (g' x))) :
    pe C (.compIf [] elt it cond) σ = some (.d (.list ((l.filter p).map g'))) := by
  rw [peCpIf, h1]
  dsimp only
  rw [if_pos (by simpa using hl)]
  have go : ∀ (t : PyData → Option Bool) (f : PyData → Option PyData), (∀ x ∈ l, t (g x) = some (p x)) → (∀ x ∈ l, f (g x) = some (g' x)) → filterMapO t f (l.map g) = some ((l.filter p).map g') := by
    intro t f
    clear h1 h2 h3 hl
    induction l with
    | nil => intro _ _; rfl
    | cons x l ih =>
      intro ht hf
      have := ih (fun y hy => ht y (.tail _ hy)) fun y hy => hf y (.tail _ hy)
      rw [List.map_cons, filterMapO, ht x (.head _)]
      cases hp : p x with
      | false => dsimp only; rw [this, List.filter_cons, hp]; rfl
      | true => dsimp only; rw [hf x (.head _)]; dsimp only; rw [this, List.filter_cons, hp]; rfl
  rw [go _ _ h2 (fun x hx => by rw [h3 x hx]; rfl)]
  rfl
theorem merged_ok {C : Nat → List PV → Option PV} {it : PE} {σ : St} {ds : List Dd} (h1 : pit C it σ = some (ds.map deedS)) (hl : ds.length ≤ lim) : pe C (.compIf [] (.idx (.var 0) (.int 1)) it (.cmp .ne (.idx (.var 0) (.int 0)) (.str (Str.ofString "-")))) σ = some (Ls (tgts ds)) := by
  have hc : ∀ d ∈ ds, pt C (.cmp .ne (.idx (.var 0) (.int 0)) (.str (Str.ofString "-"))) (inner σ [] (deedS d)) = some (decide (d.1 ≠ .del)) := fun d Z => by
    show some (!decide (signK d.1 = Str.ofString "-")) = _
    exact congrArg some (sign_del d.1)
  have he : ∀ d ∈ ds, pe C (.idx (.var 0) (.int 1)) (inner σ [] (deedS d)) = some (.d (.str d.2)) := fun d Z => rfl
  rw [compIf_map (g := deedS) (g' := fun d => .str d.2) (p := fun d => decide (d.1 ≠ .del)) h1 hl hc he]
  unfold Ls tgts
  rw [List.map_map]
  rfl
theorem call_names (k : Nat) : callAt fns (k + 1) 19 [] = some (.ds [((Str.ofString " "), (Str.ofString "keep")), ((Str.ofString "-"), (Str.ofString "del")), ((Str.ofString "+"), (Str.ofString "add"))]) := rfl
theorem call_turn (k : Nat) : callAt fns (k + 1) 20 [] = some (.ds [((Str.ofString " "), (Str.ofString " ")), ((Str.ofString "-"), (Str.ofString "+")), ((Str.ofString "+"), (Str.ofString "-"))]) := rfl
theorem due_ok {k : Nat} {it : PE} {σ : St} {ds : List Dd} (h1 : pit (callAt fns (k + 1)) it σ = some (ds.map deedS)) (hl : ds.length ≤ lim) :
    pe (callAt fns (k + 1)) (.comp [] (.tup (.cons (.idx (.call 19 (Str.ofString "_law_names") .nil) (.idx (.var 0) (.int 0))) (.cons (.idx (.var 0) (.int 1)) .nil))) it) σ = some (DV ds) := by
  refine comp_map (g := deedS) (g' := dueD) h1 hl fun d Z => ?_
  have hx := pe_idx (pe_call (n := Str.ofString "_law_names") (show pes (callAt fns (k + 1)) .nil (inner σ [] (deedS d)) = some [] from rfl) (call_names k)) (show pe (callAt fns (k + 1)) (.idx (.var 0) (.int 0)) (inner σ [] (deedS d)) = some (SV (signK d.1)) from rfl) (z := SV (nameK d.1)) (by obtain ⟨kd, ln⟩ := d; cases kd <;> rfl)
  rw [peTup, pes2 hx (show pe (callAt fns (k + 1)) (.idx (.var 0) (.int 1)) (inner σ [] (deedS d)) = some (SV d.2) from rfl)]
  rfl
theorem turned_ok {k : Nat} {it : PE} {σ : St} {ds : List Dd} (h1 : pit (callAt fns (k + 1)) it σ = some (ds.map deedS)) (hl : ds.length ≤ lim) :
    pe (callAt fns (k + 1)) (.comp [] (.tup (.cons (.idx (.call 20 (Str.ofString "_law_turn") .nil) (.idx (.var 0) (.int 0))) (.cons (.idx (.var 0) (.int 1)) .nil))) it) σ = some (SDV (ds.map invD)) := by
  unfold SDV
  rw [List.map_map]
  refine comp_map (g := deedS) (g' := deedS ∘ invD) h1 hl fun d Z => ?_
  have hx := pe_idx (pe_call (n := Str.ofString "_law_turn") (show pes (callAt fns (k + 1)) .nil (inner σ [] (deedS d)) = some [] from rfl) (call_turn k)) (show pe (callAt fns (k + 1)) (.idx (.var 0) (.int 0)) (inner σ [] (deedS d)) = some (SV (signK d.1)) from rfl) (z := SV (signK (invK d.1))) (by obtain ⟨kd, ln⟩ := d; cases kd <;> rfl)
  rw [peTup, pes2 hx (show pe (callAt fns (k + 1)) (.idx (.var 0) (.int 1)) (inner σ [] (deedS d)) = some (SV d.2) from rfl)]
  rfl
noncomputable def stE (E : Nat → Option PV) : St := ⟨(List.range 30).map E, Option.none⟩
noncomputable def upd (E : Nat → Option PV) (i : Nat) (p : PV) : Nat → Option PV := fun j => if j = i then some p else E j
theorem get_stE {E : Nat → Option PV} {j : Nat} (h : j < 30) : (stE E).get j = E j := by
  unfold stE St.get
  rw [List.getD_eq_getElem?_getD, List.getElem?_map, List.getElem?_range h]
  rfl
theorem set_stE {E : Nat → Option PV} {i : Nat} {p : PV} : (stE E).set i p = stE (upd E i p) := by
  unfold stE St.set upd
  congr 1
  apply List.ext_getElem?
  intro k
  rw [List.getElem?_set]
  simp only [List.getElem?_map, List.length_map, List.length_range]
  by_cases h : i = k
  · subst h
    by_cases hl : i < 30
    · simp [hl]
    · simp [hl]
  · have h' : k ≠ i := fun q => h q.symm
    rw [if_neg h]
    by_cases hl : k < 30
    · simp [hl, h']
    · simp [hl]
theorem varE {C : Nat → List PV → Option PV} {E : Nat → Option PV} {j : Nat} {p : PV} (h : E j = some p) (hj : j < 30) : pe C (.var j) (stE E) = some p := by rw [peVar, get_stE hj]; exact h
theorem asgE {C : Nat → List PV → Option PV} {E : Nat → Option PV} {i : Nat} {e : PE} {ss : PSs} {p : PV} (h : pe C e (stE E) = some p) : pss C (.cons (.asg i e) ss) (stE E) = pss C ss (stE (upd E i p)) := by
  rw [pe_asg h, set_stE]
theorem pitE {C : Nat → List PV → Option PV} {E : Nat → Option PV} {j : Nat} {xs : List PyData} (h : E j = some (.d (.list xs))) (hj : j < 30) : pit C (.var j) (stE E) = some xs := by rw [pitVar, get_stE hj, h]
theorem skip_f {C : Nat → List PV → Option PV} {c : PE} {a ss : PSs} {σ : St} (h : pt C c σ = some false) : pss C (.cons (.ite c a .nil) ss) σ = pss C ss σ := ite_f h rfl
theorem or_ff {C : Nat → List PV → Option PV} {a b : PE} {σ : St} (h1 : pt C a σ = some false) (h2 : pt C b σ = some false) : pt C (.orE (.cons a (.cons b .nil))) σ = some false := by
  rw [ptOr, pOrC, h1]; dsimp only; rw [pOrC, h2]; dsimp only; rw [pOrN]
theorem notInt {C : Nat → List PV → Option PV} {e : PE} {σ : St} {i : Int} (h : pe C e σ = some (IV i)) : pt C (.typeNotInt e) σ = some false := by rw [ptTni, h]; rfl
noncomputable def lTail : PSs :=
  (.cons (.asg 15 (.compIf [] (.idx (.var 0) (.int 1)) (.var 7) (.cmp .ne (.idx (.var 0) (.int 0)) (.str (Str.ofString "-")))))
  (.cons (.asg 16 (.comp [] (.tup (.cons (.idx (.call 19 (Str.ofString "_law_names") .nil) (.idx (.var 0) (.int 0))) (.cons (.idx (.var 0) (.int 1)) .nil))) (.var 7)))
  (.cons (.asg 17 (.comp [] (.tup (.cons (.idx (.call 20 (Str.ofString "_law_turn") .nil) (.idx (.var 0) (.int 0))) (.cons (.idx (.var 0) (.int 1)) .nil))) (.var 7)))
  (.cons (.asg 18 (.call 13 (Str.ofString "lines_of") (.cons (.join (.var 4)) .nil)))
  (.cons (.asg 19 (.call 13 (Str.ofString "lines_of") (.cons (.join (.var 5)) .nil)))
  (.cons (.asg 20 (.call 13 (Str.ofString "lines_of") (.cons (.join (.var 6)) .nil)))
  (.cons (.asg 21 (.call 10 (Str.ofString "chunks_of") (.cons (.var 18) (.cons (.var 19) (.cons (.var 20) .nil)))))
  (.cons (.asg 22 (.comp [] (.tup (.cons (.idx (.var 0) (.int 0)) (.cons (.list (.idx (.var 0) (.int 1))) (.cons (.list (.idx (.var 0) (.int 2))) (.cons (.list (.idx (.var 0) (.int 3))) .nil))))) (.var 21)))
  (.cons (.ite (.cmp .ne (.call 11 (Str.ofString "merged_of") (.cons (.var 21) .nil)) (.var 8))
    (.cons (.ret (.bool false))
    .nil)
    .nil)
  (.cons (.asg 23 (.call 12 (Str.ofString "conflicts_in") (.cons (.var 21) .nil)))
  (.cons (.ite (.orE (.cons (.typeNotInt (.var 23)) (.cons (.cmp .ne (.var 23) (.var 9)) .nil)))
    (.cons (.ret (.bool false))
    .nil)
    .nil)
  (.cons (.asg 24 (.call 17 (Str.ofString "merged_content") (.cons (.var 21) .nil)))
  (.cons (.ite (.orE (.cons (.cmp .ne (.var 24) (.join (.var 15))) (.cons (.cmp .ne (.var 21) (.var 22)) .nil)))
    (.cons (.ret (.bool false))
    .nil)
    .nil)
  (.cons (.asg 25 (.call 13 (Str.ofString "lines_of") (.cons (.var 24) .nil)))
  (.cons (.asg 26 (.call 1 (Str.ofString "lcs_length") (.cons (.var 19) (.cons (.var 25) .nil))))
  (.cons (.ite (.orE (.cons (.typeNotInt (.var 26)) (.cons (.cmp .ne (.var 26) (.len (.compIf [] (.var 0) (.var 7) (.cmp .eq (.idx (.var 0) (.int 0)) (.str (Str.ofString " ")))))) .nil)))
    (.cons (.ret (.bool false))
    .nil)
    .nil)
  (.cons (.asg 27 (.call 3 (Str.ofString "diff") (.cons (.var 19) (.cons (.var 25) .nil))))
  (.cons (.asg 28 (.call 7 (Str.ofString "hunks_of") (.cons (.var 27) (.cons (.var 1) .nil))))
  (.cons (.ite (.cmp .ne (.var 27) (.var 16))
    (.cons (.ret (.bool false))
    .nil)
    .nil)
  (.cons (.asg 29 (.comp [] (.tup (.cons (.idx (.var 0) (.int 0)) (.cons (.idx (.var 0) (.int 1)) (.cons (.list (.idx (.var 0) (.int 2))) .nil)))) (.var 28)))
  (.cons (.ite (.cmp .ne (.call 14 (Str.ofString "patch_content") (.cons (.var 28) .nil)) (.call 26 (Str.ofString "_law_writer") (.cons (.var 7) (.cons (.var 1) .nil))))
    (.cons (.ret (.bool false))
    .nil)
    .nil)
  (.cons (.ite (.cmp .ne (.call 14 (Str.ofString "patch_content") (.cons (.call 15 (Str.ofString "inverse_hunks") (.cons (.var 28) .nil)) .nil)) (.call 26 (Str.ofString "_law_writer") (.cons (.var 17) (.cons (.var 1) .nil))))
    (.cons (.ret (.bool false))
    .nil)
    .nil)
  (.cons (.ite (.cmp .ne (.var 28) (.var 29))
    (.cons (.ret (.bool false))
    .nil)
    .nil)
  (.cons (.ite (.orE (.cons (.cmp .ne (.var 18) (.var 4)) (.cons (.cmp .ne (.var 19) (.var 5)) (.cons (.cmp .ne (.var 20) (.var 6)) (.cons (.cmp .ne (.var 25) (.var 15)) .nil)))))
    (.cons (.ret (.bool false))
    .nil)
    .nil)
  (.cons (.ret (.bool true))
  .nil)))))))))))))))))))))))))
structure Whole (B O T N raw : List Str) (D : List Dd) (cl : Nat) (n : Nat) : Prop where
  linB : callAt fns n 13 [SV (concatStr B)] = some (Ls B)
  linO : callAt fns n 13 [SV (concatStr O)] = some (Ls O)
  linT : callAt fns n 13 [SV (concatStr T)] = some (Ls T)
  linN : callAt fns n 13 [SV (concatStr N)] = some (Ls N)
  lenB : (concatStr B).length ≤ lim
  lenO : (concatStr O).length ≤ lim
  lenT : (concatStr T).length ≤ lim
  lenN : (concatStr N).length ≤ lim
  chunks : ∃ cs : List Ch, callAt fns n 10 [Ls B, Ls O, Ls T] = some (.d (.list (cs.map chD))) ∧ cs.length ≤ 3000 ∧ (∀ c ∈ cs, c.2.1.length ≤ lim ∧ c.2.2.1.length ≤ lim ∧ c.2.2.2.length ≤ lim) ∧
    callAt fns n 11 [.d (.list (cs.map chD))] = some (Ls raw) ∧ callAt fns n 12 [.d (.list (cs.map chD))] = some (IV cl) ∧ callAt fns n 17 [.d (.list (cs.map chD))] = some (SV (concatStr N))
  tg : tgts D = N
  kept : callAt fns n 1 [Ls O, Ls N] = some (IV ((D.filter fun d => decide (d.1 = .keep)).length : Nat))
  work : callAt fns n 3 [Ls O, Ls N] = some (DV D)
  nD : D.length ≤ 100
  lD : ∀ d ∈ D, d.2.length ≤ 1000
theorem or_4 {C : Nat → List PV → Option PV} {a b c d : PE} {σ : St} (h1 : pt C a σ = some false) (h2 : pt C b σ = some false) (h3 : pt C c σ = some false) (h4 : pt C d σ = some false) : pt C (.orE (.cons a (.cons b (.cons c (.cons d .nil))))) σ = some false := by
  rw [ptOr, pOrC, h1]; dsimp only; rw [pOrC, h2]; dsimp only; rw [pOrC, h3]; dsimp only; rw [pOrC, h4]; dsimp only; rw [pOrN]
theorem pes3 {C : Nat → List PV → Option PV} {a b c : PE} {σ : St} {x y z : PV} (h1 : pe C a σ = some x) (h2 : pe C b σ = some y) (h3 : pe C c σ = some z) : pes C (.cons a (.cons b (.cons c .nil))) σ = some [x, y, z] := by
  rw [pesC, h1, pesC, h2, pesC, h3, pesN]
theorem tail_ok {m c cl : Nat} {B O T N raw : List Str} {D : List Dd} {E : Nat → Option PV} (W : Whole B O T N raw D cl (m + 3)) (e1 : E 1 = some (IV c)) (e4 : E 4 = some (Ls B)) (e5 : E 5 = some (Ls O)) (e6 : E 6 = some (Ls T)) (e7 : E 7 = some (SDV D)) (e8 : E 8 = some (Ls raw)) (e9 : E 9 = some (IV cl)) :
    ∃ σ', pss (callAt fns (m + 3)) lTail (stE E) = some (σ', some (.d (.bool true))) := by
  have hlim : lim = 1000000 := rfl
  have hnD := W.nD
  have hD : D.length ≤ lim := by lia
  refine ea_1_6 (W.chunks) fun cs hc hcl hcb h11 h12 h17 => ?_
  unfold lTail
  rw [asgE (merged_ok (pitE e7 (by decide)) hD), W.tg]
  rw [asgE (due_ok (k := m + 2) (pitE (show (upd E 15 (Ls N)) 7 = _ from e7) (by decide)) hD)]
  rw [asgE (turned_ok (k := m + 2) (pitE (show (upd (upd E 15 (Ls N)) 16 (DV D)) 7 = _ from e7) (by decide)) hD)]
  generalize hE1 : upd (upd (upd E 15 (Ls N)) 16 (DV D)) 17 (SDV (D.map invD)) = E1
  have a1 : E1 1 = some (IV c) := by rw [← hE1]; exact e1
  have a4 : E1 4 = some (Ls B) := by rw [← hE1]; exact e4
  have a5 : E1 5 = some (Ls O) := by rw [← hE1]; exact e5
  have a6 : E1 6 = some (Ls T) := by rw [← hE1]; exact e6
  have a7 : E1 7 = some (SDV D) := by rw [← hE1]; exact e7
  have a8 : E1 8 = some (Ls raw) := by rw [← hE1]; exact e8
  have a9 : E1 9 = some (IV cl) := by rw [← hE1]; exact e9
  have a15 : E1 15 = some (Ls N) := by rw [← hE1]; rfl
  have a16 : E1 16 = some (DV D) := by rw [← hE1]; rfl
  have a17 : E1 17 = some (SDV (D.map invD)) := by rw [← hE1]; rfl
  clear hE1 e1 e4 e5 e6 e7 e8 e9
  rw [asgE (pe_call (pes1 (pe_join (varE a4 (by decide)) W.lenB)) W.linB)]
  rw [asgE (pe_call (pes1 (pe_join (varE (show (upd E1 18 (Ls B)) 5 = _ from a5) (by decide)) W.lenO)) W.linO)]
  rw [asgE (pe_call (pes1 (pe_join (varE (show (upd (upd E1 18 (Ls B)) 19 (Ls O)) 6 = _ from a6) (by decide)) W.lenT)) W.linT)]
  generalize hE2 : upd (upd (upd E1 18 (Ls B)) 19 (Ls O)) 20 (Ls T) = E2
  have b1 : E2 1 = some (IV c) := by rw [← hE2]; exact a1
  have b4 : E2 4 = some (Ls B) := by rw [← hE2]; exact a4
  have b5 : E2 5 = some (Ls O) := by rw [← hE2]; exact a5
  have b6 : E2 6 = some (Ls T) := by rw [← hE2]; exact a6
  have b7 : E2 7 = some (SDV D) := by rw [← hE2]; exact a7
  have b8 : E2 8 = some (Ls raw) := by rw [← hE2]; exact a8
  have b9 : E2 9 = some (IV cl) := by rw [← hE2]; exact a9
  have b15 : E2 15 = some (Ls N) := by rw [← hE2]; exact a15
  have b16 : E2 16 = some (DV D) := by rw [← hE2]; exact a16
  have b17 : E2 17 = some (SDV (D.map invD)) := by rw [← hE2]; exact a17
  have b18 : E2 18 = some (Ls B) := by rw [← hE2]; rfl
  have b19 : E2 19 = some (Ls O) := by rw [← hE2]; rfl
  have b20 : E2 20 = some (Ls T) := by rw [← hE2]; rfl
  clear hE2 a1 a4 a5 a6 a7 a8 a9 a15 a16 a17
  rw [asgE (pe_call (pes3 (varE b18 (by decide)) (varE b19 (by decide)) (varE b20 (by decide))) hc)]
  have q21 : (upd E2 21 (.d (.list (cs.map chD)))) 21 = some (.d (.list (cs.map chD))) := rfl
  rw [asgE (p := .d (.list (cs.map chD))) (comp_same (g := chD) (pitE q21 (by decide)) (by lia) fun ch hch => ?_)]
  rotate_left
  · have hb := hcb ch hch
    exact pe_tup4 (x := .str ch.1) rfl (pe_list (xs := ch.2.1.map .str) rfl (by rw [List.length_map]; exact hb.1)) (pe_list (xs := ch.2.2.1.map .str) rfl (by rw [List.length_map]; exact hb.2.1)) (pe_list (xs := ch.2.2.2.map .str) rfl (by rw [List.length_map]; exact hb.2.2))
  generalize hE3 : upd (upd E2 21 (.d (.list (cs.map chD)))) 22 (.d (.list (cs.map chD))) = E3
  have c1 : E3 1 = some (IV c) := by rw [← hE3]; exact b1
  have c4 : E3 4 = some (Ls B) := by rw [← hE3]; exact b4
  have c5 : E3 5 = some (Ls O) := by rw [← hE3]; exact b5
  have c6 : E3 6 = some (Ls T) := by rw [← hE3]; exact b6
  have c7 : E3 7 = some (SDV D) := by rw [← hE3]; exact b7
  have c8 : E3 8 = some (Ls raw) := by rw [← hE3]; exact b8
  have c9 : E3 9 = some (IV cl) := by rw [← hE3]; exact b9
  have c15 : E3 15 = some (Ls N) := by rw [← hE3]; exact b15
  have c16 : E3 16 = some (DV D) := by rw [← hE3]; exact b16
  have c17 : E3 17 = some (SDV (D.map invD)) := by rw [← hE3]; exact b17
  have c18 : E3 18 = some (Ls B) := by rw [← hE3]; exact b18
  have c19 : E3 19 = some (Ls O) := by rw [← hE3]; exact b19
  have c20 : E3 20 = some (Ls T) := by rw [← hE3]; exact b20
  have c21 : E3 21 = some (.d (.list (cs.map chD))) := by rw [← hE3]; rfl
  have c22 : E3 22 = some (.d (.list (cs.map chD))) := by rw [← hE3]; rfl
  clear hE3 b1 b4 b5 b6 b7 b8 b9 b15 b16 b17 b18 b19 b20
  rw [skip_f (pt_cmp (pe_call (pes1 (varE c21 (by decide))) h11) (varE c8 (by decide)) (ne_lines raw))]
  rw [asgE (pe_call (pes1 (varE c21 (by decide))) h12)]
  have q23 : (upd E3 23 (IV cl)) 23 = some (IV cl) := rfl
  rw [skip_f (or_ff (notInt (varE q23 (by decide))) (pt_cmp (varE q23 (by decide)) (varE (show (upd E3 23 (IV cl)) 9 = _ from c9) (by decide)) (ne_int cl)))]
  rw [asgE (pe_call (pes1 (varE (show (upd E3 23 (IV cl)) 21 = _ from c21) (by decide))) h17)]
  generalize hE4 : upd (upd E3 23 (IV cl)) 24 (SV (concatStr N)) = E4
  have d1 : E4 1 = some (IV c) := by rw [← hE4]; exact c1
  have d4 : E4 4 = some (Ls B) := by rw [← hE4]; exact c4
  have d5 : E4 5 = some (Ls O) := by rw [← hE4]; exact c5
  have d6 : E4 6 = some (Ls T) := by rw [← hE4]; exact c6
  have d7 : E4 7 = some (SDV D) := by rw [← hE4]; exact c7
  have d15 : E4 15 = some (Ls N) := by rw [← hE4]; exact c15
  have d16 : E4 16 = some (DV D) := by rw [← hE4]; exact c16
  have d17 : E4 17 = some (SDV (D.map invD)) := by rw [← hE4]; exact c17
  have d18 : E4 18 = some (Ls B) := by rw [← hE4]; exact c18
  have d19 : E4 19 = some (Ls O) := by rw [← hE4]; exact c19
  have d20 : E4 20 = some (Ls T) := by rw [← hE4]; exact c20
  have d21 : E4 21 = some (.d (.list (cs.map chD))) := by rw [← hE4]; exact c21
  have d22 : E4 22 = some (.d (.list (cs.map chD))) := by rw [← hE4]; exact c22
  have d24 : E4 24 = some (SV (concatStr N)) := by rw [← hE4]; rfl
  clear hE4 c1 c4 c5 c6 c7 c8 c9 c15 c16 c17 c18 c19 c20 c21 c22 q23
  rw [skip_f (or_ff (pt_cmp (varE d24 (by decide)) (pe_join (varE d15 (by decide)) W.lenN) (ne_text _)) (pt_cmp (varE d21 (by decide)) (varE d22 (by decide)) (ne_chunks cs)))]
  rw [asgE (pe_call (pes1 (varE d24 (by decide))) W.linN)]
  rw [asgE (pe_call (pes2 (varE (show (upd E4 25 (Ls N)) 19 = _ from d19) (by decide)) (varE (show (upd E4 25 (Ls N)) 25 = _ from rfl) (by decide))) W.kept)]
  generalize hK : ((D.filter fun d => decide (d.1 = .keep)).length : Nat) = kp
  generalize hE5 : upd (upd E4 25 (Ls N)) 26 (IV kp) = E5
  have f1 : E5 1 = some (IV c) := by rw [← hE5]; exact d1
  have f4 : E5 4 = some (Ls B) := by rw [← hE5]; exact d4
  have f5 : E5 5 = some (Ls O) := by rw [← hE5]; exact d5
  have f6 : E5 6 = some (Ls T) := by rw [← hE5]; exact d6
  have f7 : E5 7 = some (SDV D) := by rw [← hE5]; exact d7
  have f15 : E5 15 = some (Ls N) := by rw [← hE5]; exact d15
  have f16 : E5 16 = some (DV D) := by rw [← hE5]; exact d16
  have f17 : E5 17 = some (SDV (D.map invD)) := by rw [← hE5]; exact d17
  have f18 : E5 18 = some (Ls B) := by rw [← hE5]; exact d18
  have f19 : E5 19 = some (Ls O) := by rw [← hE5]; exact d19
  have f20 : E5 20 = some (Ls T) := by rw [← hE5]; exact d20
  have f25 : E5 25 = some (Ls N) := by rw [← hE5]; rfl
  have f26 : E5 26 = some (IV kp) := by rw [← hE5]; rfl
  clear hE5 d1 d4 d5 d6 d7 d15 d16 d17 d18 d19 d20 d21 d22 d24
  have hcnt : pe (callAt fns (m + 3)) (.len (.compIf [] (.var 0) (.var 7) (.cmp .eq (.idx (.var 0) (.int 0)) (.str (Str.ofString " "))))) (stE E5) = some (IV kp) := by
    have hsk : ∀ kd : Kd, decide (signK kd = Str.ofString " ") = decide (kd = .keep) := by intro kd; cases kd <;> decide
    have hcc : ∀ d ∈ D, pt (callAt fns (m + 3)) (.cmp .eq (.idx (.var 0) (.int 0)) (.str (Str.ofString " "))) (inner (stE E5) [] (deedS d)) = some (decide (d.1 = .keep)) := fun d Z => by
      show some (decide (signK d.1 = Str.ofString " ")) = _
      exact congrArg some (hsk d.1)
    have hce : ∀ d ∈ D, pe (callAt fns (m + 3)) (.var 0) (inner (stE E5) [] (deedS d)) = some (.d (deedS d)) := fun d Z => rfl
    have := pe_len (compIf_map (g := deedS) (g' := deedS) (p := fun d => decide (d.1 = .keep)) (pitE f7 (by decide)) hD hcc hce)
    rw [List.length_map, hK] at this
    exact this
  rw [skip_f (or_ff (notInt (varE f26 (by decide))) (pt_cmp (varE f26 (by decide)) hcnt (ne_int kp)))]
  rw [asgE (pe_call (pes2 (varE f19 (by decide)) (varE f25 (by decide))) W.work)]
  have hhk := call_hunks (ds := D) c (by lia) (m + 1)
  rw [asgE (pe_call (pes2 (varE (show (upd E5 27 (DV D)) 27 = _ from rfl) (by decide)) (varE (show (upd E5 27 (DV D)) 1 = _ from f1) (by decide))) hhk)]
  generalize hE6 : upd (upd E5 27 (DV D)) 28 (HV (hunksOf D c)) = E6
  have g1 : E6 1 = some (IV c) := by rw [← hE6]; exact f1
  have g4 : E6 4 = some (Ls B) := by rw [← hE6]; exact f4
  have g5 : E6 5 = some (Ls O) := by rw [← hE6]; exact f5
  have g6 : E6 6 = some (Ls T) := by rw [← hE6]; exact f6
  have g7 : E6 7 = some (SDV D) := by rw [← hE6]; exact f7
  have g15 : E6 15 = some (Ls N) := by rw [← hE6]; exact f15
  have g16 : E6 16 = some (DV D) := by rw [← hE6]; exact f16
  have g17 : E6 17 = some (SDV (D.map invD)) := by rw [← hE6]; exact f17
  have g18 : E6 18 = some (Ls B) := by rw [← hE6]; exact f18
  have g19 : E6 19 = some (Ls O) := by rw [← hE6]; exact f19
  have g20 : E6 20 = some (Ls T) := by rw [← hE6]; exact f20
  have g25 : E6 25 = some (Ls N) := by rw [← hE6]; exact f25
  have g27 : E6 27 = some (DV D) := by rw [← hE6]; rfl
  have g28 : E6 28 = some (HV (hunksOf D c)) := by rw [← hE6]; rfl
  clear hE6 f1 f4 f5 f6 f7 f15 f16 f17 f18 f19 f20 f25 f26
  rw [skip_f (pt_cmp (varE g27 (by decide)) (varE g16 (by decide)) (ne_deeds D))]
  have hhl := hunks_len D c
  have hok := hunks_okay c hnD W.lD
  rw [asgE (p := HV (hunksOf D c)) (comp_same (g := hunkD) (pitE g28 (by decide)) (by lia) fun h hh => ?_)]
  rotate_left
  · have hb := (hok h hh).n
    exact pe_tup3 (x := .int h.1) (y := .int h.2.1) rfl rfl (pe_list (xs := h.2.2.map dueD) rfl (by rw [List.length_map]; lia))
  have hp1 := call_patch hok (by lia) (patch_len c hnD W.lD) m
  have hw1 := call_writer (ds := D) c hnD W.lD (m + 1)
  have hlI : (D.map invD).length ≤ 100 := by rw [List.length_map]; exact hnD
  have hlD : ∀ d ∈ D.map invD, d.2.length ≤ 1000 := fun d hd => by
    refine ea_1_2 (List.mem_map.mp hd) fun x hx hrf2 => ?_
    subst hrf2
    exact W.lD x hx
  have hokI := hunks_okay (ds := D.map invD) c hlI hlD
  have hp2 := call_patch hokI (by have := hunks_len (D.map invD) c; lia) (patch_len c hlI hlD) m
  have hw2 := call_writer (ds := D.map invD) c hlI hlD (m + 1)
  have hi2 := call_invHunks (hs := hunksOf D c) (by lia) (fun h hh => by have := (hok h hh).n; lia) (m + 1)
  rw [hunks_inv] at hi2
  generalize hE7 : upd E6 29 (HV (hunksOf D c)) = E7
  have i1 : E7 1 = some (IV c) := by rw [← hE7]; exact g1
  have i4 : E7 4 = some (Ls B) := by rw [← hE7]; exact g4
  have i5 : E7 5 = some (Ls O) := by rw [← hE7]; exact g5
  have i6 : E7 6 = some (Ls T) := by rw [← hE7]; exact g6
  have i7 : E7 7 = some (SDV D) := by rw [← hE7]; exact g7
  have i15 : E7 15 = some (Ls N) := by rw [← hE7]; exact g15
  have i17 : E7 17 = some (SDV (D.map invD)) := by rw [← hE7]; exact g17
  have i18 : E7 18 = some (Ls B) := by rw [← hE7]; exact g18
  have i19 : E7 19 = some (Ls O) := by rw [← hE7]; exact g19
  have i20 : E7 20 = some (Ls T) := by rw [← hE7]; exact g20
  have i25 : E7 25 = some (Ls N) := by rw [← hE7]; exact g25
  have i28 : E7 28 = some (HV (hunksOf D c)) := by rw [← hE7]; exact g28
  have i29 : E7 29 = some (HV (hunksOf D c)) := by rw [← hE7]; rfl
  clear hE7
  rw [skip_f (pt_cmp (pe_call (pes1 (varE i28 (by decide))) hp1) (pe_call (pes2 (varE i7 (by decide)) (varE i1 (by decide))) hw1) (by rw [patch_writer]; exact ne_text _))]
  rw [skip_f (pt_cmp (pe_call (pes1 (pe_call (pes1 (varE i28 (by decide))) hi2)) hp2) (pe_call (pes2 (varE i17 (by decide)) (varE i1 (by decide))) hw2) (by rw [patch_writer]; exact ne_text _))]
  rw [skip_f (pt_cmp (varE i28 (by decide)) (varE i29 (by decide)) (ne_hunks _))]
  rw [skip_f (or_4 (pt_cmp (varE i18 (by decide)) (varE i4 (by decide)) (ne_lines B)) (pt_cmp (varE i19 (by decide)) (varE i5 (by decide)) (ne_lines O)) (pt_cmp (varE i20 (by decide)) (varE i6 (by decide)) (ne_lines T)) (pt_cmp (varE i25 (by decide)) (varE i15 (by decide)) (ne_lines N)))]
  exact ⟨_, ret_ok rfl⟩
theorem tgts_tot (D0 D1 D2 : List Dd) (k l : Nat) : tgts (tot D0 (.keep, rL) k D1 (.keep, sL) l D2) = tot (tgts D0) rL k (tgts D1) sL l (tgts D2) := by
  have hr : ∀ n (x : Str), tgts (List.replicate n (Kd.keep, x)) = List.replicate n x := fun n x => by
    unfold tgts
    rw [List.filter_replicate, if_pos (show decide ((Kd.keep, x).1 ≠ Kd.del) = true from rfl), List.map_replicate]
  have ha : ∀ a b : List Dd, tgts (a ++ b) = tgts a ++ tgts b := fun a b => by unfold tgts; rw [List.filter_append, List.map_append]
  unfold tot
  rw [ha, ha, ha, ha, hr, hr]
section
variable {k0 k1 k2 : Str} {B0 O0 T0 B1 O1 T1 B2 O2 T2 : List Str} {D0 D1 D2 : List Dd} {al0 al1 al2 : AL} {f0 f1 f2 : Gap}
theorem whole (p0 : PcOk false 48 k0 B0 O0 T0 D0 al0 f0) (p1 : PcOk false 49 k1 B1 O1 T1 D1 al1 f1) (p2 : PcOk true 50 k2 B2 O2 T2 D2 al2 f2) (hD0 : ∀ d ∈ D0, d.2.length ≤ 1000) (hD1 : ∀ d ∈ D1, d.2.length ≤ 1000) (hD2 : ∀ d ∈ D2, d.2.length ≤ 1000) {k l : Nat} (hk : k < 3) (hl : l < 3) (m : Nat) :
    Whole (tot B0 rL k B1 sL l B2) (tot O0 rL k O1 sL l O2) (tot T0 rL k T1 sL l T2) (tot (tgts D0) rL k (tgts D1) sL l (tgts D2)) (tot (rawOf k0 O0 T0 D0) rL k (rawOf k1 O1 T1 D1) sL l (rawOf k2 O2 T2 D2))
      (tot D0 (.keep, rL) k D1 (.keep, sL) l D2) ((if hasLt k0 then 1 else 0) + ((if hasLt k1 then 1 else 0) + (if hasLt k2 then 1 else 0))) (m + 3) := by
  have hlim : lim = 1000000 := rfl
  have n0 := p0.nD
  have n1 := p1.nD
  have n2 := p2.nD
  have t0 := tgts_le D0
  have t1 := tgts_le D1
  have t2 := tgts_le D2
  have q1 := p0.nB; have q2 := p0.nO; have q3 := p0.nT
  have q4 := p1.nB; have q5 := p1.nO; have q6 := p1.nT
  have q7 := p2.nB; have q8 := p2.nO; have q9 := p2.nT
  have hlen : ∀ {x y z : List Str}, x.length ≤ 12 → y.length ≤ 12 → z.length ≤ 12 → (tot x rL k y sL l z).length ≤ 42 := fun h1 h2 h3 => by unfold tot; simp; lia
  have bnd : ∀ {x y z : List Str}, linesOk false x = true → linesOk false y = true → linesOk true z = true → x.length ≤ 12 → y.length ≤ 12 → z.length ≤ 12 → (concatStr (tot x rL k y sL l z)).length ≤ 840 := fun a b c h1 h2 h3 => by
    have := concat_bound (tot_short (k := k) (l := l) a b c)
    have := hlen h1 h2 h3
    lia
  refine ea_1_6 (tot_chunks p0 p1 p2 k l hk hl m) fun cs hc s1 s2 s3 hcl hcb => ?_
  have rl : ∀ {kk : Str} {O T : List Str} {D : List Dd}, O.length ≤ 10 → T.length ≤ 10 → (tgts D).length ≤ 12 → (rawOf kk O T D).length ≤ 30 := fun h1 h2 h3 => by
    unfold rawOf
    split
    · simp; lia
    · lia
  have hraw : (linC cs).length ≤ lim := by
    rw [s1]
    have a := rl (kk := k0) q2 q3 (by lia : (tgts D0).length ≤ 12)
    have b := rl (kk := k1) q5 q6 (by lia : (tgts D1).length ≤ 12)
    have c := rl (kk := k2) q8 q9 (by lia : (tgts D2).length ≤ 12)
    unfold tot
    simp only [List.length_append, List.length_replicate]
    lia
  have hcon : (conC cs).length + 1 ≤ lim := by
    rw [s3]
    have := bnd p0.lN p1.lN p2.lN (by lia) (by lia) (by lia)
    lia
  have hDl : (tot D0 (Kd.keep, rL) k D1 (Kd.keep, sL) l D2).length ≤ 42 := by unfold tot; simp; lia
  refine ⟨call_lines_tot hk hl p0.lB p1.lB p2.lB (by lia) (by lia) (by lia) (m + 2), call_lines_tot hk hl p0.lO p1.lO p2.lO (by lia) (by lia) (by lia) (m + 2), call_lines_tot hk hl p0.lT p1.lT p2.lT (by lia) (by lia) (by lia) (m + 2),
    call_lines_tot hk hl p0.lN p1.lN p2.lN (by lia) (by lia) (by lia) (m + 2), ?_, ?_, ?_, ?_, ⟨cs, hc, hcl, fun c hc' => by have := hcb c hc'; lia, ?_, ?_, ?_⟩, tgts_tot _ _ _ _ _, ?_, ?_, by lia, fun d hd => ?_⟩
  · have := bnd p0.lB p1.lB p2.lB (by lia) (by lia) (by lia); lia
  · have := bnd p0.lO p1.lO p2.lO (by lia) (by lia) (by lia); lia
  · have := bnd p0.lT p1.lT p2.lT (by lia) (by lia) (by lia); lia
  · have := bnd p0.lN p1.lN p2.lN (by lia) (by lia) (by lia); lia
  · rw [call_merged hraw (m + 2), s1]
  · rw [call_conflicts (by lia) (m + 2), s2]
  · rw [call_content hcl hcon hraw (m + 1), s3]
  · have a := hlen (x := O0) (y := O1) (z := O2) (by lia) (by lia) (by lia)
    have b := hlen (x := tgts D0) (y := tgts D1) (z := tgts D2) (by lia) (by lia) (by lia)
    rw [call_lcsLen (by lia) (by lia) (m + 1), tot_lcs p0 p1 p2]
  · have a := hlen (x := O0) (y := O1) (z := O2) (by lia) (by lia) (by lia)
    have b := hlen (x := tgts D0) (y := tgts D1) (z := tgts D2) (by lia) (by lia) (by lia)
    rw [call_diff (by lia) (by lia) m, tot_diff p0 p1 p2]
    rfl
  · unfold tot at hd
    rcases List.mem_append.mp hd with hd | hd
    · exact hD0 d hd
    · rcases List.mem_append.mp hd with hd | hd
      · rw [(List.mem_replicate.mp hd).2]; decide
      · rcases List.mem_append.mp hd with hd | hd
        · exact hD1 d hd
        · rcases List.mem_append.mp hd with hd | hd
          · rw [(List.mem_replicate.mp hd).2]; decide
          · exact hD2 d hd
end
noncomputable def lBody : PSs :=
    (.cons (.asg 12 (.call 23 (Str.ofString "_law_lines") (.cons (.idx (.var 10) (.int 1)) (.cons (.var 11) (.cons (.var 2) .nil)))))
    (.cons (.asg 13 (.call 23 (Str.ofString "_law_lines") (.cons (.idx (.var 10) (.int 2)) (.cons (.var 11) (.cons (.var 2) .nil)))))
    (.cons (.asg 14 (.call 24 (Str.ofString "_law_deeds") (.cons (.idx (.var 10) (.int 3)) (.cons (.var 11) (.cons (.var 2) .nil)))))
    (.cons (.asg 4 (.bin .add (.var 4) (.call 23 (Str.ofString "_law_lines") (.cons (.idx (.var 10) (.int 0)) (.cons (.var 11) (.cons (.var 2) .nil))))))
    (.cons (.asg 5 (.bin .add (.var 5) (.var 12)))
    (.cons (.asg 6 (.bin .add (.var 6) (.var 13)))
    (.cons (.asg 7 (.bin .add (.var 7) (.var 14)))
    (.cons (.ite (.cmp .isin (.str (Str.ofString "<")) (.idx (.var 10) (.int 3)))
      (.cons (.aug 9 (.int 1))
      (.cons (.asg 8 (.bin .add (.bin .add (.bin .add (.bin .add (.bin .add (.var 8) (.lst (.cons (.str (Str.ofString "<<<<<<<")) .nil))) (.var 12)) (.lst (.cons (.str (Str.ofString "=======")) .nil))) (.var 13)) (.lst (.cons (.str (Str.ofString ">>>>>>>")) .nil))))
      .nil))
      (.cons (.asg 8 (.bin .add (.var 8) (.compIf [] (.idx (.var 0) (.int 1)) (.var 14) (.cmp .ne (.idx (.var 0) (.int 0)) (.str (Str.ofString "-"))))))
      .nil))
    .nil))))))))
structure LInv (E : Nat → Option PV) (c : Nat) (su : Str) (B O T raw : List Str) (D : List Dd) (cl n : Nat) : Prop where
  e1 : E 1 = some (IV c)
  e2 : E 2 = some (SV su)
  e4 : E 4 = some (Ls B)
  e5 : E 5 = some (Ls O)
  e6 : E 6 = some (Ls T)
  e7 : E 7 = some (SDV D)
  e8 : E 8 = some (Ls raw)
  e9 : E 9 = some (IV cl)
  nB : B.length ≤ n
  nO : O.length ≤ n
  nT : T.length ≤ n
  nR : raw.length ≤ n
  nD : D.length ≤ n
theorem add_SD {a b : List Dd} (h : a.length + b.length ≤ lim) : binop .add (SDV a) (SDV b) = some (SDV (a ++ b)) := by
  unfold SDV
  rw [add_lists (by simpa using h), List.map_append]
theorem piece_step {C : Nat → List PV → Option PV} {E : Nat → Option PV} {c n cl : Nat} {su nu k0 k1 k2 k3 : Str} {B O T raw X0 X1 X2 : List Str} {D X3 : List Dd} (I : LInv E c su B O T raw D cl n) (hn : n ≤ 1000)
    (h0 : C 23 [SV k0, SV nu, SV su] = some (Ls X0)) (h1 : C 23 [SV k1, SV nu, SV su] = some (Ls X1)) (h2 : C 23 [SV k2, SV nu, SV su] = some (Ls X2)) (h3 : C 24 [SV k3, SV nu, SV su] = some (SDV X3))
    (n0 : X0.length ≤ 20) (n1 : X1.length ≤ 20) (n2 : X2.length ≤ 20) (n3 : X3.length ≤ 20) :
    ∃ E', pss C lBody (((stE E).set 10 (.d (.tuple [.str k0, .str k1, .str k2, .str k3]))).set 11 (.d (.str nu))) = some (stE E', Option.none) ∧
      LInv E' c su (B ++ X0) (O ++ X1) (T ++ X2) (raw ++ rawOf k3 X1 X2 X3) (D ++ X3) (cl + if hasLt k3 then 1 else 0) (n + 100) := by
  have hlim : lim = 1000000 := rfl
  obtain ⟨e1, e2, e4, e5, e6, ee7, e8, e9, nB, nO, nT, nR, nD⟩ := I
  rw [set_stE, set_stE]
  unfold lBody
  generalize hF : upd (upd E 10 (.d (.tuple [.str k0, .str k1, .str k2, .str k3]))) 11 (.d (.str nu)) = F
  have f1 : F 1 = some (IV c) := by rw [← hF]; exact e1
  have f2 : F 2 = some (SV su) := by rw [← hF]; exact e2
  have f4 : F 4 = some (Ls B) := by rw [← hF]; exact e4
  have f5 : F 5 = some (Ls O) := by rw [← hF]; exact e5
  have f6 : F 6 = some (Ls T) := by rw [← hF]; exact e6
  have f7 : F 7 = some (SDV D) := by rw [← hF]; exact ee7
  have f8 : F 8 = some (Ls raw) := by rw [← hF]; exact e8
  have f9 : F 9 = some (IV cl) := by rw [← hF]; exact e9
  have f10 : F 10 = some (.d (.tuple [.str k0, .str k1, .str k2, .str k3])) := by rw [← hF]; rfl
  have f11 : F 11 = some (SV nu) := by rw [← hF]; rfl
  clear hF
  rw [asgE (pe_call (pes3 (pe_idx (varE f10 (by decide)) rfl (z := SV k1) rfl) (varE f11 (by decide)) (varE f2 (by decide))) h1)]
  generalize hG : upd F 12 (Ls X1) = G
  have g1 : G 1 = some (IV c) := by rw [← hG]; exact f1
  have g2 : G 2 = some (SV su) := by rw [← hG]; exact f2
  have g4 : G 4 = some (Ls B) := by rw [← hG]; exact f4
  have g5 : G 5 = some (Ls O) := by rw [← hG]; exact f5
  have g6 : G 6 = some (Ls T) := by rw [← hG]; exact f6
  have g7 : G 7 = some (SDV D) := by rw [← hG]; exact f7
  have g8 : G 8 = some (Ls raw) := by rw [← hG]; exact f8
  have g9 : G 9 = some (IV cl) := by rw [← hG]; exact f9
  have g10 : G 10 = some (.d (.tuple [.str k0, .str k1, .str k2, .str k3])) := by rw [← hG]; exact f10
  have g11 : G 11 = some (SV nu) := by rw [← hG]; exact f11
  have g12 : G 12 = some (Ls X1) := by rw [← hG]; rfl
  clear hG f1 f2 f4 f5 f6 f7 f8 f9 f10 f11
  rw [asgE (pe_call (pes3 (pe_idx (varE g10 (by decide)) rfl (z := SV k2) rfl) (varE g11 (by decide)) (varE g2 (by decide))) h2)]
  generalize hH : upd G 13 (Ls X2) = H
  have f1 : H 1 = some (IV c) := by rw [← hH]; exact g1
  have f2 : H 2 = some (SV su) := by rw [← hH]; exact g2
  have f4 : H 4 = some (Ls B) := by rw [← hH]; exact g4
  have f5 : H 5 = some (Ls O) := by rw [← hH]; exact g5
  have f6 : H 6 = some (Ls T) := by rw [← hH]; exact g6
  have f7 : H 7 = some (SDV D) := by rw [← hH]; exact g7
  have f8 : H 8 = some (Ls raw) := by rw [← hH]; exact g8
  have f9 : H 9 = some (IV cl) := by rw [← hH]; exact g9
  have f10 : H 10 = some (.d (.tuple [.str k0, .str k1, .str k2, .str k3])) := by rw [← hH]; exact g10
  have f11 : H 11 = some (SV nu) := by rw [← hH]; exact g11
  have f12 : H 12 = some (Ls X1) := by rw [← hH]; exact g12
  have f13 : H 13 = some (Ls X2) := by rw [← hH]; rfl
  clear hH g1 g2 g4 g5 g6 g7 g8 g9 g10 g11 g12
  rw [asgE (pe_call (pes3 (pe_idx (varE f10 (by decide)) rfl (z := SV k3) rfl) (varE f11 (by decide)) (varE f2 (by decide))) h3)]
  generalize hG' : upd H 14 (SDV X3) = G'
  have g1 : G' 1 = some (IV c) := by rw [← hG']; exact f1
  have g2 : G' 2 = some (SV su) := by rw [← hG']; exact f2
  have g4 : G' 4 = some (Ls B) := by rw [← hG']; exact f4
  have g5 : G' 5 = some (Ls O) := by rw [← hG']; exact f5
  have g6 : G' 6 = some (Ls T) := by rw [← hG']; exact f6
  have g7 : G' 7 = some (SDV D) := by rw [← hG']; exact f7
  have g8 : G' 8 = some (Ls raw) := by rw [← hG']; exact f8
  have g9 : G' 9 = some (IV cl) := by rw [← hG']; exact f9
  have g10 : G' 10 = some (.d (.tuple [.str k0, .str k1, .str k2, .str k3])) := by rw [← hG']; exact f10
  have g11 : G' 11 = some (SV nu) := by rw [← hG']; exact f11
  have g12 : G' 12 = some (Ls X1) := by rw [← hG']; exact f12
  have g13 : G' 13 = some (Ls X2) := by rw [← hG']; exact f13
  have g14 : G' 14 = some (SDV X3) := by rw [← hG']; rfl
  clear hG' f1 f2 f4 f5 f6 f7 f8 f9 f10 f11 f12 f13
  rw [asgE (pe_bin (varE g4 (by decide)) (pe_call (pes3 (pe_idx (varE g10 (by decide)) rfl (z := SV k0) rfl) (varE g11 (by decide)) (varE g2 (by decide))) h0) (add_Ls (by lia)))]
  rw [asgE (pe_bin (varE (show upd G' 4 (Ls (B ++ X0)) 5 = _ from g5) (by decide)) (varE (show upd G' 4 (Ls (B ++ X0)) 12 = _ from g12) (by decide)) (add_Ls (by lia)))]
  rw [asgE (pe_bin (varE (show upd (upd G' 4 (Ls (B ++ X0))) 5 (Ls (O ++ X1)) 6 = _ from g6) (by decide)) (varE (show upd (upd G' 4 (Ls (B ++ X0))) 5 (Ls (O ++ X1)) 13 = _ from g13) (by decide)) (add_Ls (by lia)))]
  rw [asgE (pe_bin (varE (show upd (upd (upd G' 4 (Ls (B ++ X0))) 5 (Ls (O ++ X1))) 6 (Ls (T ++ X2)) 7 = _ from g7) (by decide)) (varE (show upd (upd (upd G' 4 (Ls (B ++ X0))) 5 (Ls (O ++ X1))) 6 (Ls (T ++ X2)) 14 = _ from g14) (by decide)) (add_SD (by lia)))]
  generalize hK : upd (upd (upd (upd G' 4 (Ls (B ++ X0))) 5 (Ls (O ++ X1))) 6 (Ls (T ++ X2))) 7 (SDV (D ++ X3)) = K
  have k1' : K 1 = some (IV c) := by rw [← hK]; exact g1
  have k2' : K 2 = some (SV su) := by rw [← hK]; exact g2
  have k4' : K 4 = some (Ls (B ++ X0)) := by rw [← hK]; rfl
  have k5' : K 5 = some (Ls (O ++ X1)) := by rw [← hK]; rfl
  have k6' : K 6 = some (Ls (T ++ X2)) := by rw [← hK]; rfl
  have k7' : K 7 = some (SDV (D ++ X3)) := by rw [← hK]; rfl
  have k8' : K 8 = some (Ls raw) := by rw [← hK]; exact g8
  have k9' : K 9 = some (IV cl) := by rw [← hK]; exact g9
  have k10' : K 10 = some (.d (.tuple [.str k0, .str k1, .str k2, .str k3])) := by rw [← hK]; exact g10
  have k12' : K 12 = some (Ls X1) := by rw [← hK]; exact g12
  have k13' : K 13 = some (Ls X2) := by rw [← hK]; exact g13
  have k14' : K 14 = some (SDV X3) := by rw [← hK]; exact g14
  clear hK g1 g2 g4 g5 g6 g7 g8 g9 g10 g11 g12 g13 g14
  have ht : pt C (.cmp .isin (.str (Str.ofString "<")) (.idx (.var 10) (.int 3))) (stE K) = some (hasLt k3) :=
    pt_cmp (u := SV (Str.ofString "<")) (v := SV k3) rfl (pe_idx (varE k10' (by decide)) rfl rfl) rfl
  have tl := tgts_le X3
  cases hk : hasLt k3 with
  | true =>
    rw [hk] at ht
    have ha : ps C (.aug 9 (.int 1)) (stE K) = some (stE (upd K 9 (IV ((cl + 1 : Nat) : Int))), Option.none) := by
      rw [psAug, get_stE (by decide), k9', peInt]
      dsimp only [IV]
      rw [set_stE]
      rfl
    have q8 : upd K 9 (IV ((cl + 1 : Nat) : Int)) 8 = some (Ls raw) := k8'
    have q12 : upd K 9 (IV ((cl + 1 : Nat) : Int)) 12 = some (Ls X1) := k12'
    have q13 : upd K 9 (IV ((cl + 1 : Nat) : Int)) 13 = some (Ls X2) := k13'
    have b1 := pe_bin (varE (C := C) q8 (by decide)) (show pe C (.lst (.cons (.str (Str.ofString "<<<<<<<")) .nil)) (stE (upd K 9 (IV ((cl + 1 : Nat) : Int)))) = some (Ls [m7]) from rfl) (add_Ls (by simp; lia))
    have b2 := pe_bin b1 (varE q12 (by decide)) (add_Ls (by simp; lia))
    have b3 := pe_bin b2 (show pe C (.lst (.cons (.str (Str.ofString "=======")) .nil)) (stE (upd K 9 (IV ((cl + 1 : Nat) : Int)))) = some (Ls [e7]) from rfl) (add_Ls (by simp; lia))
    have b4 := pe_bin b3 (varE q13 (by decide)) (add_Ls (by simp; lia))
    have b5 := pe_bin b4 (show pe C (.lst (.cons (.str (Str.ofString ">>>>>>>")) .nil)) (stE (upd K 9 (IV ((cl + 1 : Nat) : Int)))) = some (Ls [w7]) from rfl) (add_Ls (by simp; lia))
    have hraw : raw ++ [m7] ++ X1 ++ [e7] ++ X2 ++ [w7] = raw ++ rawOf k3 X1 X2 X3 := by
      unfold rawOf
      rw [hk, if_pos rfl]
      simp only [List.append_assoc]
    rw [hraw] at b5
    refine ⟨upd (upd K 9 (IV ((cl + 1 : Nat) : Int))) 8 (Ls (raw ++ rawOf k3 X1 X2 X3)), ?_, k1', k2', k4', k5', k6', k7', rfl, rfl, ?_, ?_, ?_, ?_, ?_⟩
    · rw [ite_t ht (σ' := stE (upd (upd K 9 (IV ((cl + 1 : Nat) : Int))) 8 (Ls (raw ++ rawOf k3 X1 X2 X3)))) (by rw [st_step ha, asgE b5, pssN]), pssN]
    · simp; lia
    · simp; lia
    · simp; lia
    · rw [← hraw]; simp; lia
    · simp; lia
  | false =>
    rw [hk] at ht
    have hraw : raw ++ tgts X3 = raw ++ rawOf k3 X1 X2 X3 := by
      unfold rawOf
      rw [hk, if_neg (by decide)]
    have b := pe_bin (varE (C := C) k8' (by decide)) (merged_ok (pitE (C := C) (show K 14 = some (.d (.list (X3.map deedS))) from k14') (by decide)) (by lia)) (add_Ls (by lia))
    rw [hraw] at b
    refine ⟨upd K 8 (Ls (raw ++ rawOf k3 X1 X2 X3)), ?_, k1', k2', k4', k5', k6', k7', rfl, k9', ?_, ?_, ?_, ?_, ?_⟩
    · rw [ite_f ht (σ' := stE (upd K 8 (Ls (raw ++ rawOf k3 X1 X2 X3)))) (by rw [asgE b, pssN]), pssN]
    · simp; lia
    · simp; lia
    · simp; lia
    · rw [← hraw]; simp; lia
    · simp; lia
noncomputable def chkL (tab : List (List Str)) (nu : Str) (i j : Nat) : Bool := (DL (kAt tab i 3) nu (suf j)).all fun d => decide (d.2.length ≤ 1000)
theorem len_slots0 : ∀ i, i < 12 → ∀ j, j < 4 → chkL slotTab (Str.ofString "0") i j = true := by decide +kernel
theorem len_slots1 : ∀ i, i < 12 → ∀ j, j < 4 → chkL slotTab (Str.ofString "1") i j = true := by decide +kernel
theorem len_tails : ∀ i, i < 10 → ∀ j, j < 4 → chkL tailTab (Str.ofString "2") i j = true := by decide +kernel
structure Gets (nu su k0 k1 k2 k3 : Str) (B O T : List Str) (D : List Dd) : Prop where
  h0 : callAt fns 11 23 [SV k0, SV nu, SV su] = some (Ls B)
  h1 : callAt fns 11 23 [SV k1, SV nu, SV su] = some (Ls O)
  h2 : callAt fns 11 23 [SV k2, SV nu, SV su] = some (Ls T)
  h3 : callAt fns 11 24 [SV k3, SV nu, SV su] = some (SDV D)
theorem gets_E {tab : List (List Str)} {tail : Bool} {nu : Str} {i j : Nat} (h : chkE tab tail nu i j = true) (hl : chkL tab nu i j = true) :
    ∃ B O T D al f, Gets nu (suf j) (kAt tab i 0) (kAt tab i 1) (kAt tab i 2) (kAt tab i 3) B O T D ∧ PcOk tail (nu.cps[0]?.getD 0) (kAt tab i 3) B O T D al f ∧ ∀ d ∈ D, d.2.length ≤ 1000 := by
  unfold chkE at h
  simp only [Bool.and_eq_true] at h
  obtain ⟨⟨⟨⟨h0, h1⟩, h2⟩, h3⟩, hp⟩ := h
  refine ea_2_1 (chkP_ok hp) fun al f ok => ?_
  refine ⟨_, _, _, _, al, f, ⟨asLs_inv (getD_some h0), asLs_inv (getD_some h1), asLs_inv (getD_some h2), asDs_inv (getD_some h3)⟩, ok, fun d hd => ?_⟩
  unfold chkL at hl
  exact of_decide_eq_true (List.all_eq_true.mp hl d hd)
theorem four {α : Type} {l : List α} (h : l.length = 4) : ∃ a b c d, l = [a, b, c, d] := by
  match l, h with
  | [a, b, c, d], _ => exact ⟨a, b, c, d, rfl⟩
theorem gets_R {sy line : Str} {n j : Nat} (h : chkR sy line n j = true) : ∃ k0 k1 k2 k3, callAt fns 11 21 [SV sy, IV n] = some (.d (.tuple [.str k0, .str k1, .str k2, .str k3])) ∧
    Gets (Str.ofString "") (suf j) k0 k1 k2 k3 (List.replicate n line) (List.replicate n line) (List.replicate n line) (List.replicate n (Kd.keep, line)) ∧ hasLt k3 = false := by
  unfold chkR at h
  simp only [Bool.and_eq_true, decide_eq_true_eq, Bool.not_eq_true'] at h
  obtain ⟨⟨⟨⟨⟨⟨h0, h1⟩, h2⟩, h3⟩, h4⟩, h5⟩, h6⟩ := h
  have hc : callAt fns 11 21 [SV sy, IV n] = some (.d (.tuple ((runK sy n).map .str))) := by
    unfold runK
    generalize callAt fns 11 21 [SV sy, IV n] = r at h0 ⊢
    exact asTup_inv (getD_some (d := []) h0)
  obtain ⟨l, hl⟩ : ∃ l, runK sy n = l := ⟨_, rfl⟩
  rw [hl] at hc h1 h2 h3 h4 h5 h6
  clear hl h0
  refine ea_4_1 (four h1) fun k0 k1 k2 k3 hrf4 => ?_
  subst hrf4
  exact ⟨k0, k1, k2, k3, hc, ⟨asLs_inv h2, asLs_inv h3, asLs_inv h4, asDs_inv h5⟩, h6⟩
theorem slot_at : ∀ i, i < 12 → ∀ C σ, idxop ((pe C (.glob 3) σ).getD (.d .none)) (IV (i : Nat)) = some (.d (.tuple [.str (kAt slotTab i 0), .str (kAt slotTab i 1), .str (kAt slotTab i 2), .str (kAt slotTab i 3)]))
  | 0, _, _, _ => rfl | 1, _, _, _ => rfl | 2, _, _, _ => rfl | 3, _, _, _ => rfl | 4, _, _, _ => rfl | 5, _, _, _ => rfl
  | 6, _, _, _ => rfl | 7, _, _, _ => rfl | 8, _, _, _ => rfl | 9, _, _, _ => rfl | 10, _, _, _ => rfl | 11, _, _, _ => rfl
  | n + 12, h, _, _ => absurd h (by lia)
theorem tail_at : ∀ i, i < 10 → ∀ C σ, idxop ((pe C (.glob 4) σ).getD (.d .none)) (IV (i : Nat)) = some (.d (.tuple [.str (kAt tailTab i 0), .str (kAt tailTab i 1), .str (kAt tailTab i 2), .str (kAt tailTab i 3)]))
  | 0, _, _, _ => rfl | 1, _, _, _ => rfl | 2, _, _, _ => rfl | 3, _, _, _ => rfl | 4, _, _, _ => rfl | 5, _, _, _ => rfl
  | 6, _, _, _ => rfl | 7, _, _, _ => rfl | 8, _, _, _ => rfl | 9, _, _, _ => rfl
  | n + 10, h, _, _ => absurd h (by lia)
theorem suf_at : ∀ i, i < 4 → ∀ C σ, idxop ((pe C (.glob 2) σ).getD (.d .none)) (IV (i : Nat)) = some (SV (suf i))
  | 0, _, _, _ => rfl | 1, _, _, _ => rfl | 2, _, _, _ => rfl | 3, _, _, _ => rfl
  | n + 4, h, _, _ => absurd h (by lia)
theorem glob_some {C : Nat → List PV → Option PV} {k : Nat} {σ : St} (h : k < 5) : pe C (.glob k) σ = some ((pe C (.glob k) σ).getD (.d .none)) := by
  match k, h with
  | 0, _ => rfl
  | 1, _ => rfl
  | 2, _ => rfl
  | 3, _ => rfl
  | 4, _ => rfl
theorem fmod_nat (x : Int) (n : Nat) (h : 0 < n) : ∃ i : Nat, i < n ∧ x.fmod (n : Int) = i := by
  have h1 := Int.fmod_nonneg_of_pos x (show (0 : Int) < n from by lia)
  have h2 := Int.fmod_lt_of_pos x (show (0 : Int) < n from by lia)
  exact ⟨(x.fmod n).toNat, by lia, by lia⟩
theorem mod_ok {C : Nat → List PV → Option PV} {e : PE} {σ : St} {x : Int} {n i : Nat} (hn : 0 < n) (h : pe C e σ = some (IV x)) (hi : x.fmod (n : Int) = i) : pe C (.bin .mod e (.int (n : Int))) σ = some (IV i) := by
  refine pe_bin h (y := IV n) rfl ?_
  show (if (n : Int) = 0 then Option.none else some (PV.d (.int (x.fmod n)))) = _
  rw [if_neg (by lia), hi]
  rfl
theorem pe_lst5 {C : Nat → List PV → Option PV} {a b c d e : PE} {σ : St} {x y z u v : PyData} (h1 : pe C a σ = some (.d x)) (h2 : pe C b σ = some (.d y)) (h3 : pe C c σ = some (.d z)) (h4 : pe C d σ = some (.d u)) (h5 : pe C e σ = some (.d v)) :
    pe C (.lst (.cons a (.cons b (.cons c (.cons d (.cons e .nil)))))) σ = some (.d (.list [x, y, z, u, v])) := by
  rw [peLst, pesC, h1, pesC, h2, pesC, h3, pesC, h4, pesC, h5, pesN]; rfl
theorem pe_tup2 {C : Nat → List PV → Option PV} {a b : PE} {σ : St} {x y : PyData} (h1 : pe C a σ = some (.d x)) (h2 : pe C b σ = some (.d y)) :
    pe C (.tup (.cons a (.cons b .nil))) σ = some (.d (.tuple [x, y])) := by
  rw [peTup, pesC, h1, pesC, h2, pesN]; rfl
theorem forO_cons {f : PyData → St → Option (St × Option PV)} {x : PyData} {r : List PyData} {σ σ' : St} (h : f x σ = some (σ', Option.none)) : forO f (x :: r) σ = forO f r σ' := by rw [forO, h]
theorem ctx_ok {C : Nat → List PV → Option PV} {E : Nat → Option PV} {x0 : Int} {r : List PyData} (e0 : E 0 = some (.d (.list (.int x0 :: r)))) : ∃ (E' : Nat → Option PV) (c : Nat), E' 0 = E 0 ∧ E' 1 = some (IV c) ∧
    ∀ ss, pss C (.cons (.asg 1 (.bin .mod (.idx (.var 0) (.int 0)) (.int 5))) (.cons (.ite (.cmp .eq (.var 1) (.int 4)) (.cons (.asg 1 (.abs (.idx (.var 0) (.int 0)))) .nil) .nil) ss)) (stE E) = pss C ss (stE E') := by
  refine ea_1_2 (fmod_nat x0 5 (by decide)) fun i hi hx => ?_
  have h1 : pe C (.bin .mod (.idx (.var 0) (.int 0)) (.int 5)) (stE E) = some (IV i) := mod_ok (n := 5) (by decide) (pe_idx (varE e0 (by decide)) rfl rfl) hx
  have f0 : upd E 1 (IV i) 0 = some (.d (.list (.int x0 :: r))) := e0
  have ht : pt C (.cmp .eq (.var 1) (.int 4)) (stE (upd E 1 (IV i))) = some (decide ((i : Int) = 4)) := pt_cmp (varE (show upd E 1 (IV i) 1 = some (IV i) from rfl) (by decide)) (v := IV 4) rfl rfl
  by_cases h : (i : Int) = 4
  · rw [decide_eq_true h] at ht
    have ha : pe C (.abs (.idx (.var 0) (.int 0))) (stE (upd E 1 (IV i))) = some (IV (x0.natAbs : Int)) := by
      rw [peAbs, pe_idx (varE f0 (by decide)) rfl (z := IV x0) rfl]
      show some (IV (if x0 < 0 then -x0 else x0)) = some (IV (x0.natAbs : Int))
      congr 2
      split <;> lia
    refine ⟨upd (upd E 1 (IV i)) 1 (IV (x0.natAbs : Int)), x0.natAbs, f0.trans e0.symm, rfl, fun ss => ?_⟩
    rw [asgE h1, ite_t ht (by rw [asgE ha, pssN])]
  · rw [decide_eq_false h] at ht
    exact ⟨upd E 1 (IV i), i, f0.trans e0.symm, rfl, fun ss => by rw [asgE h1, skip_f ht]⟩
theorem tot_assoc {α : Type} (x0 x1 x2 : List α) (r s : α) (k l : Nat) : [] ++ x0 ++ List.replicate (k + 1) r ++ x1 ++ List.replicate (l + 1) s ++ x2 = tot x0 r k x1 s l x2 := by
  unfold tot
  simp only [List.append_assoc, List.nil_append]
theorem raw_rep {k : Str} (h : hasLt k = false) (n : Nat) (x : Str) : rawOf k (List.replicate n x) (List.replicate n x) (List.replicate n (Kd.keep, x)) = List.replicate n x := by
  unfold rawOf
  rw [h, if_neg (by decide)]
  unfold tgts
  rw [List.filter_replicate, if_pos (show decide ((Kd.keep, x).1 ≠ Kd.del) = true from rfl), List.map_replicate]
noncomputable def turn2 : PyData → St → Option (St × Option PV) := fun x σ => match x with
  | .tuple [x, y] => pss (callAt fns 11) lBody ((σ.set 10 (.d x)).set 11 (.d y))
  | _ => Option.none
noncomputable def tuP (nu k0 k1 k2 k3 : Str) : PyData := .tuple [.tuple [.str k0, .str k1, .str k2, .str k3], .str nu]
theorem for2_eq {σ : St} {xs : List PyData} (h : pe (callAt fns 11) (.var 3) σ = some (.d (.list xs))) : ps (callAt fns 11) (.for2 10 11 (.var 3) lBody) σ = forO turn2 xs σ := by
  exact congrArg (mL (fun xs => forO turn2 xs σ)) h
structure Small (B O T : List Str) (D : List Dd) : Prop where
  b : B.length ≤ 20
  o : O.length ≤ 20
  t : T.length ≤ 20
  d : D.length ≤ 20
theorem go_step {E : Nat → Option PV} {c n cl : Nat} {su nu k0 k1 k2 k3 : Str} {B O T raw X0 X1 X2 : List Str} {D X3 : List Dd} (I : LInv E c su B O T raw D cl n) (hn : n ≤ 1000) (G : Gets nu su k0 k1 k2 k3 X0 X1 X2 X3) (S : Small X0 X1 X2 X3) :
    ∃ E', (∀ r, forO turn2 (tuP nu k0 k1 k2 k3 :: r) (stE E) = forO turn2 r (stE E')) ∧
      LInv E' c su (B ++ X0) (O ++ X1) (T ++ X2) (raw ++ rawOf k3 X1 X2 X3) (D ++ X3) (cl + if hasLt k3 then 1 else 0) (n + 100) := by
  refine ea_1_2 (piece_step I hn G.h0 G.h1 G.h2 G.h3 S.b S.o S.t S.d) fun E' h I' => ?_
  have h' : turn2 (tuP nu k0 k1 k2 k3) (stE E) = some (stE E', Option.none) := h
  exact ⟨E', fun r => forO_cons h', I'⟩
theorem small_rep (n : Nat) (hn : n ≤ 20) (x : Str) (d : Dd) : Small (List.replicate n x) (List.replicate n x) (List.replicate n x) (List.replicate n d) := by
  constructor <;> simpa using hn
theorem small_pc {tail : Bool} {nu : Nat} {k : Str} {B O T : List Str} {D : List Dd} {al : AL} {f : Gap} (p : PcOk tail nu k B O T D al f) : Small B O T D :=
  ⟨Nat.le_trans p.nB (by decide), Nat.le_trans p.nO (by decide), Nat.le_trans p.nT (by decide), Nat.le_trans p.nD (by decide)⟩
theorem law_body : b_law = .cons (.ite (.cmp .lt (.len (.var 0)) (.int 7)) (.cons (.ret (.bool true)) .nil) .nil)
  (.cons (.asg 1 (.bin .mod (.idx (.var 0) (.int 0)) (.int 5)))
  (.cons (.ite (.cmp .eq (.var 1) (.int 4)) (.cons (.asg 1 (.abs (.idx (.var 0) (.int 0)))) .nil) .nil)
  (.cons (.asg 2 (.idx (.glob 2) (.bin .mod (.idx (.var 0) (.int 1)) (.int 4))))
  (.cons (.asg 3 (.lst (.cons (.tup (.cons (.idx (.glob 3) (.bin .mod (.idx (.var 0) (.int 2)) (.int 12))) (.cons (.str (Str.ofString "0")) .nil))) (.cons (.tup (.cons (.call 21 (Str.ofString "_law_run") (.cons (.str (Str.ofString "r")) (.cons (.bin .add (.int 1) (.bin .mod (.idx (.var 0) (.int 3)) (.int 3))) .nil))) (.cons (.str (Str.ofString "")) .nil))) (.cons (.tup (.cons (.idx (.glob 3) (.bin .mod (.idx (.var 0) (.int 4)) (.int 12))) (.cons (.str (Str.ofString "1")) .nil))) (.cons (.tup (.cons (.call 21 (Str.ofString "_law_run") (.cons (.str (Str.ofString "s")) (.cons (.bin .add (.int 1) (.bin .mod (.idx (.var 0) (.int 5)) (.int 3))) .nil))) (.cons (.str (Str.ofString "")) .nil))) (.cons (.tup (.cons (.idx (.glob 4) (.bin .mod (.idx (.var 0) (.int 6)) (.int 10))) (.cons (.str (Str.ofString "2")) .nil))) .nil)))))))
  (.cons (.asg 4 (.lst .nil)) (.cons (.asg 5 (.lst .nil)) (.cons (.asg 6 (.lst .nil)) (.cons (.asg 7 (.lst .nil)) (.cons (.asg 8 (.lst .nil)) (.cons (.asg 9 (.int 0))
  (.cons (.for2 10 11 (.var 3) lBody) lTail))))))))))) := rfl
theorem long_ok (x0 x1 x2 x3 x4 x5 x6 : Int) (rest : List PyData) : ∃ σ', pss (callAt fns 11) b_law (stE (upd (fun Z => Option.none) 0 (.d (.list (.int x0 :: .int x1 :: .int x2 :: .int x3 :: .int x4 :: .int x5 :: .int x6 :: rest))))) = some (σ', some (.d (.bool true))) := by
  have hlim : lim = 1000000 := rfl
  generalize hE : upd (fun Z => Option.none) 0 (.d (.list (.int x0 :: .int x1 :: .int x2 :: .int x3 :: .int x4 :: .int x5 :: .int x6 :: rest))) = E
  have e0 : E 0 = some (.d (.list (.int x0 :: .int x1 :: .int x2 :: .int x3 :: .int x4 :: .int x5 :: .int x6 :: rest))) := by rw [← hE]; rfl
  clear hE
  rw [law_body]
  rw [skip_f (pt_cmp (pe_len (varE e0 (by decide))) (v := IV 7) rfl (r := false) (by
    show some (decide (((PyData.int x0 :: .int x1 :: .int x2 :: .int x3 :: .int x4 :: .int x5 :: .int x6 :: rest).length : Int) < 7)) = some false
    rw [decide_eq_false]
    simp only [List.length_cons]
    lia))]
  refine ea_2_3 (ctx_ok (C := callAt fns 11) e0) fun E1 c f0 f1 hs => ?_
  rw [hs]
  rw [e0] at f0
  clear hs e0
  refine ea_1_2 (fmod_nat x1 4 (by decide)) fun j hj hx1 => ?_
  have h2 : pe (callAt fns 11) (.idx (.glob 2) (.bin .mod (.idx (.var 0) (.int 1)) (.int 4))) (stE E1) = some (SV (suf j)) :=
    pe_idx (glob_some (by decide)) (mod_ok (n := 4) (by decide) (pe_idx (varE f0 (by decide)) rfl rfl) hx1) (suf_at j hj _ _)
  rw [asgE h2]
  generalize hE2 : upd E1 2 (SV (suf j)) = E2
  have g0 : E2 0 = some (.d (.list (.int x0 :: .int x1 :: .int x2 :: .int x3 :: .int x4 :: .int x5 :: .int x6 :: rest))) := by rw [← hE2]; exact f0
  have g1 : E2 1 = some (IV c) := by rw [← hE2]; exact f1
  have g2 : E2 2 = some (SV (suf j)) := by rw [← hE2]; rfl
  clear hE2 h2 f0 f1
  refine ea_1_2 (fmod_nat x2 12 (by decide)) fun i2 hi2 hx2 => ?_
  refine ea_1_2 (fmod_nat x3 3 (by decide)) fun k hk hx3 => ?_
  refine ea_1_2 (fmod_nat x4 12 (by decide)) fun i4 hi4 hx4 => ?_
  refine ea_1_2 (fmod_nat x5 3 (by decide)) fun l hl hx5 => ?_
  refine ea_1_2 (fmod_nat x6 10 (by decide)) fun i6 hi6 hx6 => ?_
  refine ea_6_3 (gets_E (chk_slots0 i2 hi2 j hj) (len_slots0 i2 hi2 j hj)) fun B0 O0 T0 D0 al0 fg0 G0 p0 l0 => ?_
  refine ea_6_3 (gets_E (chk_slots1 i4 hi4 j hj) (len_slots1 i4 hi4 j hj)) fun B1 O1 T1 D1 al1 fg1 G1 p1 l1 => ?_
  refine ea_6_3 (gets_E (chk_tails i6 hi6 j hj) (len_tails i6 hi6 j hj)) fun B2 O2 T2 D2 al2 fg2 G2 p2 l2 => ?_
  refine ea_4_3 (gets_R (chk_r (k + 1) (by lia) (by lia) j hj)) fun r0 r1 r2 r3 rc RG rlt => ?_
  refine ea_4_3 (gets_R (chk_s (l + 1) (by lia) (by lia) j hj)) fun s0 s1 s2 s3 sc SG slt => ?_
  have hv : ∀ {q : Nat} {z : PyData}, idxop (.d (.list (.int x0 :: .int x1 :: .int x2 :: .int x3 :: .int x4 :: .int x5 :: .int x6 :: rest))) (IV (q : Nat)) = some (.d z) → pe (callAt fns 11) (.idx (.var 0) (.int (q : Int))) (stE E2) = some (.d z) := fun {q z} h => pe_idx (y := IV (q : Int)) (varE g0 (by decide)) rfl h
  have q1 : pe (callAt fns 11) (.idx (.glob 3) (.bin .mod (.idx (.var 0) (.int 2)) (.int 12))) (stE E2) = _ := pe_idx (glob_some (by decide)) (mod_ok (n := 12) (x := x2) (by decide) (hv (q := 2) rfl) hx2) (slot_at i2 hi2 _ _)
  have q2 : pe (callAt fns 11) (.call 21 (Str.ofString "_law_run") (.cons (.str (Str.ofString "r")) (.cons (.bin .add (.int 1) (.bin .mod (.idx (.var 0) (.int 3)) (.int 3))) .nil))) (stE E2) = _ :=
    pe_call (pes2 (x := SV (Str.ofString "r")) rfl (pe_bin (x := IV 1) rfl (mod_ok (n := 3) (x := x3) (by decide) (hv (q := 3) rfl) hx3) (z := IV ((k + 1 : Nat) : Int)) (by show some (IV (1 + (k : Int))) = some (IV ((k + 1 : Nat) : Int)); rw [Int.add_comm]; rfl))) rc
  have q3 : pe (callAt fns 11) (.idx (.glob 3) (.bin .mod (.idx (.var 0) (.int 4)) (.int 12))) (stE E2) = _ := pe_idx (glob_some (by decide)) (mod_ok (n := 12) (x := x4) (by decide) (hv (q := 4) rfl) hx4) (slot_at i4 hi4 _ _)
  have q4 : pe (callAt fns 11) (.call 21 (Str.ofString "_law_run") (.cons (.str (Str.ofString "s")) (.cons (.bin .add (.int 1) (.bin .mod (.idx (.var 0) (.int 5)) (.int 3))) .nil))) (stE E2) = _ :=
    pe_call (pes2 (x := SV (Str.ofString "s")) rfl (pe_bin (x := IV 1) rfl (mod_ok (n := 3) (x := x5) (by decide) (hv (q := 5) rfl) hx5) (z := IV ((l + 1 : Nat) : Int)) (by show some (IV (1 + (l : Int))) = some (IV ((l + 1 : Nat) : Int)); rw [Int.add_comm]; rfl))) sc
  have q5 : pe (callAt fns 11) (.idx (.glob 4) (.bin .mod (.idx (.var 0) (.int 6)) (.int 10))) (stE E2) = _ := pe_idx (glob_some (by decide)) (mod_ok (n := 10) (x := x6) (by decide) (hv (q := 6) rfl) hx6) (tail_at i6 hi6 _ _)
  have sv : ∀ {t : Str}, pe (callAt fns 11) (.str t) (stE E2) = some (.d (.str t)) := rfl
  rw [asgE (pe_lst5 (pe_tup2 q1 sv) (pe_tup2 q2 sv) (pe_tup2 q3 sv) (pe_tup2 q4 sv) (pe_tup2 q5 sv))]
  clear q1 q2 q3 q4 q5 hv sv rc sc g0
  have nil : ∀ {F : Nat → Option PV}, pe (callAt fns 11) (.lst .nil) (stE F) = some (Ls []) := fun {F} => rfl
  rw [asgE nil, asgE nil, asgE nil, asgE nil, asgE nil, asgE (p := IV 0) rfl]
  generalize hE3 : upd (upd (upd (upd (upd (upd (upd E2 3 _) 4 (Ls [])) 5 (Ls [])) 6 (Ls [])) 7 (Ls [])) 8 (Ls [])) 9 (IV 0) = E3
  have I0 : LInv E3 c (suf j) [] [] [] [] [] 0 0 := by
    rw [← hE3]
    exact ⟨g1, g2, rfl, rfl, rfl, rfl, rfl, rfl, Nat.le_refl _, Nat.le_refl _, Nat.le_refl _, Nat.le_refl _, Nat.le_refl _⟩
  have i3 : E3 3 = some (.d (.list [tuP (Str.ofString "0") (kAt slotTab i2 0) (kAt slotTab i2 1) (kAt slotTab i2 2) (kAt slotTab i2 3), tuP (Str.ofString "") r0 r1 r2 r3,
      tuP (Str.ofString "1") (kAt slotTab i4 0) (kAt slotTab i4 1) (kAt slotTab i4 2) (kAt slotTab i4 3), tuP (Str.ofString "") s0 s1 s2 s3,
      tuP (Str.ofString "2") (kAt tailTab i6 0) (kAt tailTab i6 1) (kAt tailTab i6 2) (kAt tailTab i6 3)])) := by rw [← hE3]; rfl
  clear hE3 g1 g2
  have p0' : PcOk false 48 (kAt slotTab i2 3) B0 O0 T0 D0 al0 fg0 := p0
  have p1' : PcOk false 49 (kAt slotTab i4 3) B1 O1 T1 D1 al1 fg1 := p1
  have p2' : PcOk true 50 (kAt tailTab i6 3) B2 O2 T2 D2 al2 fg2 := p2
  clear p0 p1 p2
  refine ea_1_2 (go_step I0 (by decide) G0 (small_pc p0')) fun E4 w1 I1 => ?_
  refine ea_1_2 (go_step I1 (by decide) RG (small_rep (k + 1) (by lia) _ _)) fun E5 w2 I2 => ?_
  refine ea_1_2 (go_step I2 (by decide) G1 (small_pc p1')) fun E6 w3 I3 => ?_
  refine ea_1_2 (go_step I3 (by decide) SG (small_rep (l + 1) (by lia) _ _)) fun E7 w4 I4 => ?_
  refine ea_1_2 (go_step I4 (by decide) G2 (small_pc p2')) fun E8 w5 I5 => ?_
  rw [st_step (σ' := stE E8) (by rw [for2_eq (varE i3 (by decide)), w1, w2, w3, w4, w5, forO])]
  clear w1 w2 w3 w4 w5 I0 I1 I2 I3 I4 i3 G0 G1 G2 RG SG
  rw [raw_rep rlt, raw_rep slt, tot_assoc, tot_assoc, tot_assoc, tot_assoc, tot_assoc, rlt, slt] at I5
  have hcl : ∀ a b d : Nat, 0 + a + (if false = true then 1 else 0) + b + (if false = true then 1 else 0) + d = a + (b + d) := fun a b d => by
    rw [if_neg (by decide)]; lia
  rw [hcl] at I5
  exact tail_ok (m := 8) (whole p0' p1' p2' l0 l1 l2 hk hl 8) I5.e1 I5.e4 I5.e5 I5.e6 I5.e7 I5.e8 I5.e9
theorem short_ok (xs : List PyData) (h : xs.length < 7) : ∃ σ', pss (callAt fns 11) b_law (stE (upd (fun Z => Option.none) 0 (.d (.list xs)))) = some (σ', some (.d (.bool true))) := by
  generalize hE : upd (fun Z => Option.none) 0 (.d (.list xs)) = E
  have e0 : E 0 = some (.d (.list xs)) := by rw [← hE]; rfl
  clear hE
  rw [law_body]
  refine ⟨stE E, ite_tr (pt_cmp (pe_len (varE e0 (by decide))) (v := IV 7) rfl (r := true) (by
    show some (decide ((xs.length : Int) < 7)) = some true
    rw [decide_eq_true]
    lia)) (ret_ok rfl)⟩
theorem uncons {n : Nat} {l : List Int} (h : n + 1 ≤ l.length) : ∃ a r, l = a :: r ∧ n ≤ r.length := by
  cases l with
  | nil => exact absurd h (Nat.not_succ_le_zero n)
  | cons a r => exact ⟨a, r, rfl, Nat.le_of_succ_le_succ h⟩
theorem seven {l : List Int} (h : 7 ≤ l.length) : ∃ a b c d e f g r, l = a :: b :: c :: d :: e :: f :: g :: r := by
  refine ea_2_2 (uncons h) fun a l1 hrf2 h1 => ?_
  subst hrf2
  refine ea_2_2 (uncons h1) fun b l2 hrf2 h2 => ?_
  subst hrf2
  refine ea_2_2 (uncons h2) fun c l3 hrf2 h3 => ?_
  subst hrf2
  refine ea_2_2 (uncons h3) fun d l4 hrf2 h4 => ?_
  subst hrf2
  refine ea_2_2 (uncons h4) fun e l5 hrf2 h5 => ?_
  subst hrf2
  refine ea_2_2 (uncons h5) fun f l6 hrf2 h6 => ?_
  subst hrf2
  refine ea_2_2 (uncons h6) fun g l7 hrf2 h7 => ?_
  subst hrf2
  exact ⟨a, b, c, d, e, f, g, l7, rfl⟩
theorem law_state (p : PV) : (⟨[p].map some ++ List.replicate (f_law.names.length - f_law.arity) Option.none, Option.none⟩ : St) = stE (upd (fun Z => Option.none) 0 p) := rfl
theorem law_body_ok (script : List Int) : ∃ σ', pss (callAt fns 11) b_law (stE (upd (fun Z => Option.none) 0 (.d (.list (script.map .int))))) = some (σ', some (.d (.bool true))) := by
  by_cases hl : script.length < 7
  · exact short_ok _ (by rw [List.length_map]; exact hl)
  · refine ea_8_1 (seven (Nat.le_of_not_lt hl)) fun x0 x1 x2 x3 x4 x5 x6 r hrf8 => ?_
    subst hrf8
    simp only [List.map_cons]
    exact long_ok x0 x1 x2 x3 x4 x5 x6 _
theorem plain_law (script : List Int) : callAt fns 12 27 [.d (.list (script.map .int))] = some (.d (.bool true)) := by
  refine ea_1_1 (law_body_ok script) fun σ' h => ?_
  rw [← law_state] at h
  exact call_of (k := 11) (f := 27) (fn := f_law) rfl rfl h
end Mine
section PartVwHead
set_option Elab.async false
set_option maxRecDepth 100000
set_option maxHeartbeats 8000000
namespace Mine
open PySem PySem.W PyProof.Rows
noncomputable def repS (h : Heap) : Nat → PyData → Value → Bool
  | 0, _, _ => false
  | n + 1, d, v => match d with
    | .str x => (match v with
      | .str y _ => x == y && sOk x
      | _ => false)
    | .tuple xs => (match v with
      | .ref a => (match h.get? a with
        | some o => (match o.data with
          | .seq vs _ => decide (o.cls = .type "tuple") && decide (vs.size ≤ 1000) && decide (vs.toList.length = xs.length) && (xs.zip vs.toList).all fun p => repS h n p.1 p.2
          | _ => false)
        | Option.none => false)
      | _ => false)
    | _ => false
noncomputable def XF (h : Heap) (a : Addr) : Prop := ∃ o ps, h.get? a = some o ∧ o.data = .fields ps
theorem repS_ok {h : Heap} : ∀ (n : Nat) (d : PyData) (v : Value), repS h n d v = true → Rep h (XF h) v d
  | 0, _, _, e => ff e
  | n + 1, d, v, e => by
    cases d with
    | str x =>
      cases v with
      | str y t =>
        have e : (x == y && sOk x) = true := e
        obtain rfl := eq_of_beq (bb e).1
        exact .str _ _ (sOk_iff (bb e).2)
      | _ => exact ff e
    | tuple xs =>
      cases v with
      | ref a =>
        cases hg : h.get? a with
        | none => rw [repS, hg] at e; exact ff e
        | some o =>
          rw [repS, hg] at e
          obtain ⟨cls, dict, data, slots⟩ := o
          cases data with
          | seq vs k =>
            have e2 : (decide (cls = .type "tuple") && decide (vs.size ≤ 1000) && decide (vs.toList.length = xs.length) && (xs.zip vs.toList).all fun p => repS h n p.1 p.2) = true := e
            clear e
            have h1 : cls = .type "tuple" := of_decide_eq_true (bb (bb (bb e2).1).1).1
            have h2 : vs.size ≤ 1000 := of_decide_eq_true (bb (bb (bb e2).1).1).2
            have h3 : vs.toList.length = xs.length := of_decide_eq_true (bb (bb e2).1).2
            have h4 := (bb e2).2
            subst h1
            refine .tuple (vs := vs) (fun ⟨o', ps, q1, q2⟩ => by rw [hg] at q1; cases q1; cases q2) (by rw [sizeLine_eq]; lia) ⟨_, hg, rfl, k, rfl⟩ ?_
            generalize vs.toList = us at h3 h4
            clear e2 hg h2
            induction xs generalizing us with
            | nil => cases us with
              | nil => exact .nil
              | cons _ _ => exact absurd h3 (Nat.succ_ne_zero _)
            | cons x xs ih =>
              cases us with
              | nil => exact absurd h3.symm (Nat.succ_ne_zero _)
              | cons u us => exact .cons (repS_ok n x u (bb h4).1) (ih us (Nat.succ.inj h3) (bb h4).2)
          | _ => exact ff e
      | _ => exact ff e
    | _ => exact ff e
noncomputable def glSays (h : Heap) : Prop := ∃ mg, h.Ns mainGlobals mg ∧ (∀ (k : Nat) (x : Str) (d : PyData), glUsed[k]? = some (x, d) → ∃ v, mg x = some v ∧ Rep h (XF h) v d) ∧ ∀ x v, (x, v) ∈ biUsed → mg x = Option.none
noncomputable def glObs (h : Heap) : Bool := h.isNs mainGlobals && (glUsed.all fun y => match h.nsMap mainGlobals y.1 with | some v => repS h 4 y.2 v | Option.none => false) && biUsed.all fun y => (h.nsMap mainGlobals y.1).isNone
theorem gl_of (h : Heap) (e : glObs h = true) : glSays h := by
  refine ⟨h.nsMap mainGlobals, .of_isNs (bb (bb e).1).1, fun k x d hk => ?_, fun x v hx => Option.isNone_iff_eq_none.mp (List.all_eq_true.mp (bb e).2 _ hx)⟩
  have := List.all_eq_true.mp (bb (bb e).1).2 _ (List.mem_of_getElem? hk)
  dsimp only at this
  cases hv : h.nsMap mainGlobals x with
  | none => rw [hv] at this; exact ff this
  | some v => rw [hv] at this; exact ⟨v, rfl, repS_ok 4 d v this⟩
theorem gl_keeps (h h' : Heap) (x : glSays h) (hk : ∀ b o, h.get? b = some o → h'.get? b = some o) : glSays h' := by
  obtain ⟨mg, hn, h1, h2⟩ := x
  refine ⟨mg, hn.keeps hk, fun k x d q => ?_, h2⟩
  obtain ⟨v, hv, r⟩ := h1 k x d q
  refine ⟨v, hv, r.mono (fun b o Z e => hk b o e) fun a ⟨o, ho⟩ ⟨o', ps, e1, e2⟩ => ⟨o, ps, ho, ?_⟩⟩
  rw [hk a o ho] at e1; cases e1; exact e2
noncomputable def vq : Program := view Challenge.pw_sx_vweave_7o [1, 2, 3, 4, 5, 6, 7, 8, 9, 10, 11, 12, 13, 15, 16, 17, 18, 19, 20, 22, 23, 24, 25, 26, 27, 28, 29, 30, 31, 32, 33, 34, 35]
abbrev lawRow : OpenRow := Challenge.rw_sx_vweave_7o.row
theorem law_some : (defOf vq (Str.ofString "law")).isSome = true := by kernel_rfl
noncomputable def lawDK : DefRec × List (Str × Expr) := (defOf vq (Str.ofString "law")).get law_some
theorem law_name : lawDK.1.name = Str.ofString "law" := by kernel_rfl
theorem left : LeftO lawRow.prog vq [] (fun s => xlAt vq [] s && recOk lawRow.records s) (fun s => glObs s.heap) (fun Z => true) 2226 := fun w => by kernel_rfl
theorem law_def : defOf vq lawRow.name = some lawDK := (Option.some_get law_some).symm
theorem law_the : lawRow.prog.theDef lawRow.name = some (lawDK.1.params, lawDK.1.body, lawDK.1.scope) := by kernel_rfl
theorem law_kw : kwWritten? lawDK.1.params.kwonlyargs lawDK.1.params.kw_defaults = some lawDK.2 := by kernel_rfl
theorem law_said : Challenge.rw_sx_vweave_7o.wellSaid = true := by kernel_rfl
theorem law_looks : (chainsOk vq && opensWell lawRow.prog && (frees lawRow.toRowW && lawRow.within.isEmpty)) = true := by kernel_rfl
theorem law_promised : lawRow.toRowW.promised := by w_witness2
theorem hd (walk : WalkO vq [] (XL vq []) (fun Z h => glSays h) lawRow.toRowW lawDK.1 lawDK.2 fun f vs => PySem.call f vs) : Challenge.rw_sx_vweave_7o.Holds :=
  holds_law law_said fun said => holds_open (r := lawRow) (d := lawDK.1) (kwd := lawDK.2) left (fun Z s e => gl_of s.heap e) (fun Z h h' => gl_keeps h h') (fun s e => xl_of s (bb e).1) XL.keeps law_def law_the law_kw (fun s e => recFacts_of (bb e).2) rfl said law_looks ⟨rfl, rfl, rfl, rfl, rfl, by decide +kernel⟩ law_promised walk
end Mine
end PartVwHead
section PartVwGo
open PySem PySem.W PyProof.Rows
set_option Elab.async false
set_option maxRecDepth 100000
set_option maxHeartbeats 8000000
namespace Mine
noncomputable def fnOk (p : Program) : Bool := fns.all fun fn => (recsOf p).any fun d => d.name == fn.name && chkFn fn d.params d.body d.scope
theorem fn_ok : fnOk vq = true := by kernel_rfl
noncomputable def holed (h : Heap) (Pt : Addr) : Heap := h.update Pt fun o => { o with data := .freed }
theorem holed_none (h : Heap) (Pt : Addr) : (holed h Pt).get? Pt = Option.none := by
  unfold holed Heap.update Heap.get?
  simp only [Array.getElem?_modify]
  cases h.objs[Pt]? <;> simp
theorem holed_other (h : Heap) (Pt b : Addr) (hb : b ≠ Pt) : (holed h Pt).get? b = h.get? b := (Heap.SameBut.update (h := h) (a := Pt) _).2 b hb
theorem holed_sub {h : Heap} {Pt b : Addr} {o : Obj} (e : (holed h Pt).get? b = some o) : h.get? b = some o := by
  by_cases q : b = Pt
  · subst q; rw [holed_none] at e; cases e
  · rw [holed_other h Pt b q] at e; exact e
theorem intsRep {h : Heap} {X : Addr → Prop} : ∀ {vs : List Value} {ns : List Int}, IntsAre vs ns → RepL h X vs (ns.map .int)
  | _, _, .nil => .nil
  | _, _, .cons n t r => .cons (.int n t) (intsRep r)
theorem fin : PySem.Challenge.rw_sx_vweave_7o.Holds := by
  refine hd ?_
  intro w s₀ s₁ mg mb G Y fa o pm cd doc dV kV ho hd hcd hD hmg hg args vals as hpre hlay hrd hwl hlo
  rw [law_name] at hmg
  refine ea_1_3 (Y) fun mg' hn hgl hbi => ?_
  clear hd hcd hD ho
  obtain ⟨T, B, D, TE, TD, TW, X, _⟩ := G
  obtain rfl : mg = mg' := T.g.eq_nsMap.trans hn.eq_nsMap.symm
  clear hn
  wrow_args hpre hlay hrd hwl hlo
  rename_i script _ _ _ _ _ _ _ l items _ hL _ _ _ hI _ hlen _
  have hlen : script.length ≤ 63 := by lia
  have hrec : ∀ (i : Nat) (fn : Fn), fns[i]? = some fn → ∃ d ∈ recsOf vq, d.name = fn.name ∧ chkFn fn d.params d.body d.scope = true := fun i fn hfn => by
    have := List.all_eq_true.mp fn_ok fn (List.mem_of_getElem? hfn)
    refine ea_1_2 (List.any_eq_true.mp this) fun d hd' hc => ?_
    simp only [Bool.and_eq_true, beq_iff_eq] at hc
    exact ⟨d, hd', hc.1, hc.2⟩
  refine ea_1_3 (hrec 26 f_law_writer rfl) fun dw hdw hdwn Z => ?_
  refine ea_5_6 (T.tab dw hdw) fun aw ow fdw c Pt hmw how hdw' hcw hic htab => ?_
  rw [hdwn] at hmw
  have hPt := htab.2
  have hne : ∀ (b : Addr) (ob : Obj), s₁.heap.get? b = some ob → (∀ ps, ob.data ≠ .fields ps) → b ≠ Pt := fun b ob e hd q => by
    subst q; rw [hPt] at e; cases e; exact hd _ rfl
  have hns : ∀ (b : Addr) (m : Str → Option Value), s₁.heap.Ns b m → b ≠ Pt := fun b m ⟨ob, es, ep, e, hd, _⟩ => hne b ob e fun ps q => by rw [hd] at q; cases q
  have hto : ∀ b ob, b ≠ Pt → s₁.heap.get? b = some ob → (holed s₁.heap Pt).get? b = some ob := fun b ob hb e => (holed_other _ _ _ hb).trans e
  have hnsH : ∀ (b : Addr) (m : Str → Option Value), s₁.heap.Ns b m → (holed s₁.heap Pt).Ns b m := fun b m q => q.at' fun ob e => hto b ob (hns b m q) e
  have hcP : c ≠ Pt := by
    obtain ⟨⟨o1, v1, a1, a2, a3, a4⟩, _⟩ := htab
    intro q; subst q
    rw [hPt] at a1; cases a1; cases a3; simp at a4
  have hcb : Al (holed s₁.heap Pt) c := by
    obtain ⟨⟨o1, v1, a1, a2, a3, a4⟩, _⟩ := htab
    exact ⟨o1, hto c o1 hcP a1⟩
  have Gd' : Gd mg mb (holed s₁.heap Pt) := by
    refine ⟨hnsH _ _ T.g, hnsH _ _ T.b, ?_, fun x v hx => ?_, fun i fn hfn => ?_, fun k x d hk => ?_⟩
    · refine ea_1_2 (T.nolimit) fun mc h1 h2 => ?_
      exact ⟨mc, hnsH _ _ h1, h2⟩
    · refine ⟨?_, ?_⟩
      · exact hbi x v hx
      · have hb : ∀ y ∈ biUsed, y.1 ≠ Str.ofString "__name__" ∧ bootBuiltins y.1 = some y.2 := by
          intro y hy
          simp only [biUsed, List.mem_cons, List.not_mem_nil, or_false] at hy
          rcases hy with rfl | rfl | rfl | rfl | rfl | rfl | rfl | rfl | rfl <;> exact ⟨by decide, by kernel_rfl⟩
        exact (T.builtins x (hb _ hx).1).trans (hb _ hx).2
    · refine ea_1_3 (hrec i fn hfn) fun d hd' hdn hdc => ?_
      refine ea_5_4 (T.fn d hd') fun a ob pm' code doc' h1 h2 h3 h4 => ?_
      rw [hdn] at h1 h3 h4
      refine ⟨a, ob, d.params, d.body, d.scope, pm', code, doc', h1, hto a ob (hne a ob h2 fun ps q => by rw [h3] at q; cases q) h2, h3, ?_, hdc, fun vals hv => ?_⟩
      · refine ea_4_4 (h4) fun c' oc vs t e1 e2 e3 e4 => ?_
        refine ⟨c', oc, vs, t, e1, hto c' oc (fun q => ?_) e2, e3, e4⟩
        subst q
        rw [hPt] at e2; cases e2; cases e3; simp at e4
      · unfold chkFn at hdc
        simp only [Bool.and_eq_true, decide_eq_true_eq, beq_iff_eq, List.isEmpty_iff, Option.isNone_iff_eq_none] at hdc
        obtain ⟨⟨⟨⟨⟨⟨⟨⟨⟨⟨⟨⟨⟨⟨⟨q1, q2⟩, q3⟩, q4⟩, q5⟩, q6⟩, q7⟩, q8⟩, q9⟩, _⟩, _⟩, _⟩, _⟩, _⟩, _⟩, _⟩ := hdc
        refine bind_plain q1 q3 q2 q5 q7 (List.Nodup.sublist (List.take_sublist _ _) q9) ?_
        rw [← q7, List.length_map, q8]; exact hv
    · refine ea_1_2 (hgl k x d hk) fun v hv r => ?_
      exact ⟨v, hv, r.mono (fun b ob hb' e => hto b ob (fun q => hb' ⟨ob, _, e, by rw [q, hPt] at e; cases e; rfl⟩) e) fun Z Z q => q.elim⟩
  refine ea_2_6 (T.bmain) fun bm ob m1 m2 m3 m4 m5 m6 => ?_
  have M : BMod (holed s₁.heap Pt) mainGlobals mg bm ob := ⟨hnsH _ _ T.g, m1, m2, hto bm ob (hne bm ob m3 fun ps q => by rw [m6] at q; cases q) m3, m4, m5, m6⟩
  have hcw' : ∀ fn a o fd, fns[26]? = some fn → mg fn.name = some (.ref a) → (holed s₁.heap Pt).get? a = some o → o.data = .func fd → fd.code = .ref c := by
    intro fn a o' fd h1 h2 h3 h4
    cases h1
    have h2' : mg (f_law_writer).name = some (.ref a) := h2
    rw [hmw] at h2'; cases h2'
    have h3' := holed_sub h3
    rw [how] at h3'; cases h3'
    rw [hdw'] at h4; cases h4
    exact hcw
  obtain ⟨ol, hol, hcl, kl, hdl⟩ := hL
  have hlP : l ≠ Pt := hne l ol hol fun ps q => by rw [hdl] at q; cases q
  have hsz : items.length = script.length := by
    have := (intsRep (h := s₁.heap) (X := fun Z => False) hI).length
    simpa using this
  have hr : RepVs Challenge.rw_sx_vweave_7o.row.prog w s₁.heap (fun a => a = Pt) [.ref l] [.d (.list (script.map .int))] :=
    .cons (Rep.list hlP (by rw [sizeLine_eq]; simp only [List.size_toArray]; lia) ⟨ol, hol, hcl, kl, hdl⟩ (intsRep hI)) .nil
  refine wpAny_mono (callL (n := 12) (A := callerA) (X := fun a => a = Pt) Gd' M hcb hcw' (fn := f_law) rfl (plain_law script) ⟨rfl, by decide, by decide⟩ (fun b o' e => holed_sub e) (AllBare.of_eq hg) (fun a q => ?_) rfl ⟨#[], hic, htab⟩ hr hmg) (fun v s' ⟨kp, hT', rv⟩ => ?_) fun Z Z q => q.elim
  · subst q
    exact ⟨⟨_, hPt⟩, fun ⟨o', e⟩ => by rw [holed_none] at e; cases e⟩
  · cases rv
    refine ea_1_2 (hT') fun ps hc' ht' => ?_
    have hold : OldK s₁.heap s'.heap := (OldK.refl s₁.heap).step_table (ps := #[]) (more := ps) htab htab (by simpa using ht') (fun b o' hb' e => kp.keep b o' hb' e) (fun q => hns _ _ T.nolimit.choose_spec.1 q.symm)
    refine ⟨.inl ⟨.bool true, .bool true, [], rfl, ?_, .bool true, ?_, fun Z => ⟨.nil, by simp⟩⟩, hold, kp.os, kp.gens (AllBare.of_eq hg)⟩
    · intro cls; rfl
    · wrow_post
end Mine
end PartVwGo

theorem PySem.Challenge.cw_sx_vweave_7o_holds : PySem.Challenge.rw_sx_vweave_7o.Holds :=
  Mine.fin
