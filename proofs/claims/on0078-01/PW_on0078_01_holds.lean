import PyProof.Rows.All
import Wide.All
import OpenK.AllK
import Wide.FinOn
import Lean
import PySem.Challenge.RW_on0078_01
set_option Elab.async false
set_option maxRecDepth 100000
set_option maxHeartbeats 0
set_option linter.all false
section
namespace Mine
theorem Zk {α : Type} {a : α} {C : Prop} (h : none = some a) : C := nomatch h
theorem Wh {α : Type} {a : α} {C : Prop} (h : some a = none) : C := nomatch h
theorem Yb {C : Prop} (h : false = true) : C := nomatch h
theorem Xf {C : Prop} (h : true = false) : C := nomatch h
theorem sI {α : Type} {a b : α} (h : some a = some b) : a = b := Option.some.inj h
theorem Zg {P1 P2 : Prop} {C : Prop} (h : P1 /\ P2) (k : P1 -> P2 -> C) : C := by obtain ⟨h1, h2⟩ := h; exact k h1 h2
theorem Xg {α1 : Type} {P1 : α1 -> Prop} {C : Prop} (h : ∃ a1, P1 a1) (k : ∀ a1, P1 a1 -> C) : C := by obtain ⟨a1, h1⟩ := h; exact k a1 h1
theorem Xo {P1 P2 P3 : Prop} {C : Prop} (h : P1 /\ P2 /\ P3) (k : P1 -> P2 -> P3 -> C) : C := by obtain ⟨h1, h2, h3⟩ := h; exact k h1 h2 h3
theorem Zb {α1 : Type} {P1 P2 : α1 -> Prop} {C : Prop} (h : ∃ a1, P1 a1 /\ P2 a1) (k : ∀ a1, P1 a1 -> P2 a1 -> C) : C := by obtain ⟨a1, h1, h2⟩ := h; exact k a1 h1 h2
theorem Ks {α1 α2 : Type} {P1 : α1 -> α2 -> Prop} {C : Prop} (h : ∃ a1 a2, P1 a1 a2) (k : ∀ a1 a2, P1 a1 a2 -> C) : C := by obtain ⟨a1, a2, h1⟩ := h; exact k a1 a2 h1
theorem Xs {P1 P2 P3 P4 : Prop} {C : Prop} (h : P1 /\ P2 /\ P3 /\ P4) (k : P1 -> P2 -> P3 -> P4 -> C) : C := by obtain ⟨h1, h2, h3, h4⟩ := h; exact k h1 h2 h3 h4
theorem Yg {α1 : Type} {P1 P2 P3 : α1 -> Prop} {C : Prop} (h : ∃ a1, P1 a1 /\ P2 a1 /\ P3 a1) (k : ∀ a1, P1 a1 -> P2 a1 -> P3 a1 -> C) : C := by obtain ⟨a1, h1, h2, h3⟩ := h; exact k a1 h1 h2 h3
theorem Zx {α1 α2 : Type} {P1 P2 : α1 -> α2 -> Prop} {C : Prop} (h : ∃ a1 a2, P1 a1 a2 /\ P2 a1 a2) (k : ∀ a1 a2, P1 a1 a2 -> P2 a1 a2 -> C) : C := by obtain ⟨a1, a2, h1, h2⟩ := h; exact k a1 a2 h1 h2
theorem Znf {α1 α2 α3 : Type} {P1 : α1 -> α2 -> α3 -> Prop} {C : Prop} (h : ∃ a1 a2 a3, P1 a1 a2 a3) (k : ∀ a1 a2 a3, P1 a1 a2 a3 -> C) : C := by obtain ⟨a1, a2, a3, h1⟩ := h; exact k a1 a2 a3 h1
theorem Vt {P1 P2 P3 P4 P5 : Prop} {C : Prop} (h : P1 /\ P2 /\ P3 /\ P4 /\ P5) (k : P1 -> P2 -> P3 -> P4 -> P5 -> C) : C := by obtain ⟨h1, h2, h3, h4, h5⟩ := h; exact k h1 h2 h3 h4 h5
theorem Vu {α1 : Type} {P1 P2 P3 P4 : α1 -> Prop} {C : Prop} (h : ∃ a1, P1 a1 /\ P2 a1 /\ P3 a1 /\ P4 a1) (k : ∀ a1, P1 a1 -> P2 a1 -> P3 a1 -> P4 a1 -> C) : C := by obtain ⟨a1, h1, h2, h3, h4⟩ := h; exact k a1 h1 h2 h3 h4
theorem Xp {α1 α2 : Type} {P1 P2 P3 : α1 -> α2 -> Prop} {C : Prop} (h : ∃ a1 a2, P1 a1 a2 /\ P2 a1 a2 /\ P3 a1 a2) (k : ∀ a1 a2, P1 a1 a2 -> P2 a1 a2 -> P3 a1 a2 -> C) : C := by obtain ⟨a1, a2, h1, h2, h3⟩ := h; exact k a1 a2 h1 h2 h3
theorem Hv {α1 α2 α3 : Type} {P1 P2 : α1 -> α2 -> α3 -> Prop} {C : Prop} (h : ∃ a1 a2 a3, P1 a1 a2 a3 /\ P2 a1 a2 a3) (k : ∀ a1 a2 a3, P1 a1 a2 a3 -> P2 a1 a2 a3 -> C) : C := by obtain ⟨a1, a2, a3, h1, h2⟩ := h; exact k a1 a2 a3 h1 h2
theorem Zed {α1 : Type} {P1 P2 P3 P4 P5 : α1 -> Prop} {C : Prop} (h : ∃ a1, P1 a1 /\ P2 a1 /\ P3 a1 /\ P4 a1 /\ P5 a1) (k : ∀ a1, P1 a1 -> P2 a1 -> P3 a1 -> P4 a1 -> P5 a1 -> C) : C := by obtain ⟨a1, h1, h2, h3, h4, h5⟩ := h; exact k a1 h1 h2 h3 h4 h5
theorem Hw {α1 α2 : Type} {P1 P2 P3 P4 : α1 -> α2 -> Prop} {C : Prop} (h : ∃ a1 a2, P1 a1 a2 /\ P2 a1 a2 /\ P3 a1 a2 /\ P4 a1 a2) (k : ∀ a1 a2, P1 a1 a2 -> P2 a1 a2 -> P3 a1 a2 -> P4 a1 a2 -> C) : C := by obtain ⟨a1, a2, h1, h2, h3, h4⟩ := h; exact k a1 a2 h1 h2 h3 h4
theorem Ox {α1 α2 α3 : Type} {P1 P2 P3 : α1 -> α2 -> α3 -> Prop} {C : Prop} (h : ∃ a1 a2 a3, P1 a1 a2 a3 /\ P2 a1 a2 a3 /\ P3 a1 a2 a3) (k : ∀ a1 a2 a3, P1 a1 a2 a3 -> P2 a1 a2 a3 -> P3 a1 a2 a3 -> C) : C := by obtain ⟨a1, a2, a3, h1, h2, h3⟩ := h; exact k a1 a2 a3 h1 h2 h3
theorem Rl {α1 α2 α3 α4 : Type} {P1 P2 : α1 -> α2 -> α3 -> α4 -> Prop} {C : Prop} (h : ∃ a1 a2 a3 a4, P1 a1 a2 a3 a4 /\ P2 a1 a2 a3 a4) (k : ∀ a1 a2 a3 a4, P1 a1 a2 a3 a4 -> P2 a1 a2 a3 a4 -> C) : C := by obtain ⟨a1, a2, a3, a4, h1, h2⟩ := h; exact k a1 a2 a3 a4 h1 h2
theorem Zee {α1 α2 : Type} {P1 P2 P3 P4 P5 : α1 -> α2 -> Prop} {C : Prop} (h : ∃ a1 a2, P1 a1 a2 /\ P2 a1 a2 /\ P3 a1 a2 /\ P4 a1 a2 /\ P5 a1 a2) (k : ∀ a1 a2, P1 a1 a2 -> P2 a1 a2 -> P3 a1 a2 -> P4 a1 a2 -> P5 a1 a2 -> C) : C := by obtain ⟨a1, a2, h1, h2, h3, h4, h5⟩ := h; exact k a1 a2 h1 h2 h3 h4 h5
theorem Zef {α1 α2 α3 : Type} {P1 P2 P3 P4 : α1 -> α2 -> α3 -> Prop} {C : Prop} (h : ∃ a1 a2 a3, P1 a1 a2 a3 /\ P2 a1 a2 a3 /\ P3 a1 a2 a3 /\ P4 a1 a2 a3) (k : ∀ a1 a2 a3, P1 a1 a2 a3 -> P2 a1 a2 a3 -> P3 a1 a2 a3 -> P4 a1 a2 a3 -> C) : C := by obtain ⟨a1, a2, a3, h1, h2, h3, h4⟩ := h; exact k a1 a2 a3 h1 h2 h3 h4
theorem Zeg {α1 α2 : Type} {P1 P2 P3 P4 P5 P6 P7 : α1 -> α2 -> Prop} {C : Prop} (h : ∃ a1 a2, P1 a1 a2 /\ P2 a1 a2 /\ P3 a1 a2 /\ P4 a1 a2 /\ P5 a1 a2 /\ P6 a1 a2 /\ P7 a1 a2) (k : ∀ a1 a2, P1 a1 a2 -> P2 a1 a2 -> P3 a1 a2 -> P4 a1 a2 -> P5 a1 a2 -> P6 a1 a2 -> P7 a1 a2 -> C) : C := by obtain ⟨a1, a2, h1, h2, h3, h4, h5, h6, h7⟩ := h; exact k a1 a2 h1 h2 h3 h4 h5 h6 h7
theorem Zbi {α1 α2 α3 : Type} {P1 P2 P3 P4 P5 P6 : α1 -> α2 -> α3 -> Prop} {C : Prop} (h : ∃ a1 a2 a3, P1 a1 a2 a3 /\ P2 a1 a2 a3 /\ P3 a1 a2 a3 /\ P4 a1 a2 a3 /\ P5 a1 a2 a3 /\ P6 a1 a2 a3) (k : ∀ a1 a2 a3, P1 a1 a2 a3 -> P2 a1 a2 a3 -> P3 a1 a2 a3 -> P4 a1 a2 a3 -> P5 a1 a2 a3 -> P6 a1 a2 a3 -> C) : C := by obtain ⟨a1, a2, a3, h1, h2, h3, h4, h5, h6⟩ := h; exact k a1 a2 a3 h1 h2 h3 h4 h5 h6
theorem Zeh {α1 α2 α3 α4 α5 α6 α7 α8 : Type} {P1 : α1 -> α2 -> α3 -> α4 -> α5 -> α6 -> α7 -> α8 -> Prop} {C : Prop} (h : ∃ a1 a2 a3 a4 a5 a6 a7 a8, P1 a1 a2 a3 a4 a5 a6 a7 a8) (k : ∀ a1 a2 a3 a4 a5 a6 a7 a8, P1 a1 a2 a3 a4 a5 a6 a7 a8 -> C) : C := by obtain ⟨a1, a2, a3, a4, a5, a6, a7, a8, h1⟩ := h; exact k a1 a2 a3 a4 a5 a6 a7 a8 h1
theorem Zei {α1 α2 : Type} {P1 P2 P3 P4 P5 P6 P7 P8 : α1 -> α2 -> Prop} {C : Prop} (h : ∃ a1 a2, P1 a1 a2 /\ P2 a1 a2 /\ P3 a1 a2 /\ P4 a1 a2 /\ P5 a1 a2 /\ P6 a1 a2 /\ P7 a1 a2 /\ P8 a1 a2) (k : ∀ a1 a2, P1 a1 a2 -> P2 a1 a2 -> P3 a1 a2 -> P4 a1 a2 -> P5 a1 a2 -> P6 a1 a2 -> P7 a1 a2 -> P8 a1 a2 -> C) : C := by obtain ⟨a1, a2, h1, h2, h3, h4, h5, h6, h7, h8⟩ := h; exact k a1 a2 h1 h2 h3 h4 h5 h6 h7 h8
theorem Zej {α1 α2 α3 : Type} {P1 P2 P3 P4 P5 P6 P7 : α1 -> α2 -> α3 -> Prop} {C : Prop} (h : ∃ a1 a2 a3, P1 a1 a2 a3 /\ P2 a1 a2 a3 /\ P3 a1 a2 a3 /\ P4 a1 a2 a3 /\ P5 a1 a2 a3 /\ P6 a1 a2 a3 /\ P7 a1 a2 a3) (k : ∀ a1 a2 a3, P1 a1 a2 a3 -> P2 a1 a2 a3 -> P3 a1 a2 a3 -> P4 a1 a2 a3 -> P5 a1 a2 a3 -> P6 a1 a2 a3 -> P7 a1 a2 a3 -> C) : C := by obtain ⟨a1, a2, a3, h1, h2, h3, h4, h5, h6, h7⟩ := h; exact k a1 a2 a3 h1 h2 h3 h4 h5 h6 h7
theorem Zng {α1 α2 α3 α4 : Type} {P1 P2 P3 P4 P5 P6 : α1 -> α2 -> α3 -> α4 -> Prop} {C : Prop} (h : ∃ a1 a2 a3 a4, P1 a1 a2 a3 a4 /\ P2 a1 a2 a3 a4 /\ P3 a1 a2 a3 a4 /\ P4 a1 a2 a3 a4 /\ P5 a1 a2 a3 a4 /\ P6 a1 a2 a3 a4) (k : ∀ a1 a2 a3 a4, P1 a1 a2 a3 a4 -> P2 a1 a2 a3 a4 -> P3 a1 a2 a3 a4 -> P4 a1 a2 a3 a4 -> P5 a1 a2 a3 a4 -> P6 a1 a2 a3 a4 -> C) : C := by obtain ⟨a1, a2, a3, a4, h1, h2, h3, h4, h5, h6⟩ := h; exact k a1 a2 a3 a4 h1 h2 h3 h4 h5 h6
theorem Zek {α1 α2 α3 α4 α5 α6 α7 α8 α9 : Type} {P1 : α1 -> α2 -> α3 -> α4 -> α5 -> α6 -> α7 -> α8 -> α9 -> Prop} {C : Prop} (h : ∃ a1 a2 a3 a4 a5 a6 a7 a8 a9, P1 a1 a2 a3 a4 a5 a6 a7 a8 a9) (k : ∀ a1 a2 a3 a4 a5 a6 a7 a8 a9, P1 a1 a2 a3 a4 a5 a6 a7 a8 a9 -> C) : C := by obtain ⟨a1, a2, a3, a4, a5, a6, a7, a8, a9, h1⟩ := h; exact k a1 a2 a3 a4 a5 a6 a7 a8 a9 h1
theorem Zbj {α1 α2 α3 α4 : Type} {P1 P2 P3 P4 P5 P6 P7 : α1 -> α2 -> α3 -> α4 -> Prop} {C : Prop} (h : ∃ a1 a2 a3 a4, P1 a1 a2 a3 a4 /\ P2 a1 a2 a3 a4 /\ P3 a1 a2 a3 a4 /\ P4 a1 a2 a3 a4 /\ P5 a1 a2 a3 a4 /\ P6 a1 a2 a3 a4 /\ P7 a1 a2 a3 a4) (k : ∀ a1 a2 a3 a4, P1 a1 a2 a3 a4 -> P2 a1 a2 a3 a4 -> P3 a1 a2 a3 a4 -> P4 a1 a2 a3 a4 -> P5 a1 a2 a3 a4 -> P6 a1 a2 a3 a4 -> P7 a1 a2 a3 a4 -> C) : C := by obtain ⟨a1, a2, a3, a4, h1, h2, h3, h4, h5, h6, h7⟩ := h; exact k a1 a2 a3 a4 h1 h2 h3 h4 h5 h6 h7
end Mine
namespace Mine
theorem Qm {α : Type} {l : List α} {n : Nat} (h : l.length = n + 1) : ∃ a r, l = a :: r /\ r.length = n := by
 cases l with
 | nil => cases h
 | cons a r => exact ⟨a, r, rfl, Nat.succ.inj h⟩
theorem Rm {α : Type} {l : List α} (h : l.length = 0) : l = [] := List.length_eq_zero_iff.mp h
theorem aE {a b : Bool} {C : Prop} (h : (a && b) = true) (k : a = true -> b = true -> C) : C := k (Bool.and_eq_true_iff.mp h).1 (Bool.and_eq_true_iff.mp h).2
theorem Xx {P1 P2 P3 : Prop}  (h1 : P1) (h2 : P2) (h3 : P3) : P1 /\ P2 /\ P3 := ⟨h1, h2, h3⟩
theorem Zp {α1 : Type} {P1 P2 : α1 -> Prop} (a1 : α1) (h1 : P1 a1) (h2 : P2 a1) : ∃ a1, P1 a1 /\ P2 a1 := ⟨a1, h1, h2⟩
theorem Hx {α1 α2 : Type} {P1 : α1 -> α2 -> Prop} (a1 : α1) (a2 : α2) (h1 : P1 a1 a2) : ∃ a1 a2, P1 a1 a2 := ⟨a1, a2, h1⟩
theorem Zel {P1 P2 P3 P4 : Prop}  (h1 : P1) (h2 : P2) (h3 : P3) (h4 : P4) : P1 /\ P2 /\ P3 /\ P4 := ⟨h1, h2, h3, h4⟩
theorem Yi {α1 : Type} {P1 P2 P3 : α1 -> Prop} (a1 : α1) (h1 : P1 a1) (h2 : P2 a1) (h3 : P3 a1) : ∃ a1, P1 a1 /\ P2 a1 /\ P3 a1 := ⟨a1, h1, h2, h3⟩
theorem Om {α1 α2 : Type} {P1 P2 : α1 -> α2 -> Prop} (a1 : α1) (a2 : α2) (h1 : P1 a1 a2) (h2 : P2 a1 a2) : ∃ a1 a2, P1 a1 a2 /\ P2 a1 a2 := ⟨a1, a2, h1, h2⟩
theorem Znh {P1 P2 P3 P4 P5 : Prop}  (h1 : P1) (h2 : P2) (h3 : P3) (h4 : P4) (h5 : P5) : P1 /\ P2 /\ P3 /\ P4 /\ P5 := ⟨h1, h2, h3, h4, h5⟩
theorem Vv {α1 : Type} {P1 P2 P3 P4 : α1 -> Prop} (a1 : α1) (h1 : P1 a1) (h2 : P2 a1) (h3 : P3 a1) (h4 : P4 a1) : ∃ a1, P1 a1 /\ P2 a1 /\ P3 a1 /\ P4 a1 := ⟨a1, h1, h2, h3, h4⟩
theorem Qn {α1 α2 : Type} {P1 P2 P3 : α1 -> α2 -> Prop} (a1 : α1) (a2 : α2) (h1 : P1 a1 a2) (h2 : P2 a1 a2) (h3 : P3 a1 a2) : ∃ a1 a2, P1 a1 a2 /\ P2 a1 a2 /\ P3 a1 a2 := ⟨a1, a2, h1, h2, h3⟩
theorem Zem {α1 α2 α3 : Type} {P1 P2 : α1 -> α2 -> α3 -> Prop} (a1 : α1) (a2 : α2) (a3 : α3) (h1 : P1 a1 a2 a3) (h2 : P2 a1 a2 a3) : ∃ a1 a2 a3, P1 a1 a2 a3 /\ P2 a1 a2 a3 := ⟨a1, a2, a3, h1, h2⟩
theorem Zen {P1 P2 P3 P4 P5 P6 : Prop}  (h1 : P1) (h2 : P2) (h3 : P3) (h4 : P4) (h5 : P5) (h6 : P6) : P1 /\ P2 /\ P3 /\ P4 /\ P5 /\ P6 := ⟨h1, h2, h3, h4, h5, h6⟩
theorem Vw {α1 α2 : Type} {P1 P2 P3 P4 : α1 -> α2 -> Prop} (a1 : α1) (a2 : α2) (h1 : P1 a1 a2) (h2 : P2 a1 a2) (h3 : P3 a1 a2) (h4 : P4 a1 a2) : ∃ a1 a2, P1 a1 a2 /\ P2 a1 a2 /\ P3 a1 a2 /\ P4 a1 a2 := ⟨a1, a2, h1, h2, h3, h4⟩
theorem Zeo {α1 α2 α3 α4 : Type} {P1 P2 : α1 -> α2 -> α3 -> α4 -> Prop} (a1 : α1) (a2 : α2) (a3 : α3) (a4 : α4) (h1 : P1 a1 a2 a3 a4) (h2 : P2 a1 a2 a3 a4) : ∃ a1 a2 a3 a4, P1 a1 a2 a3 a4 /\ P2 a1 a2 a3 a4 := ⟨a1, a2, a3, a4, h1, h2⟩
theorem Zni {α1 α2 : Type} {P1 P2 P3 P4 P5 : α1 -> α2 -> Prop} (a1 : α1) (a2 : α2) (h1 : P1 a1 a2) (h2 : P2 a1 a2) (h3 : P3 a1 a2) (h4 : P4 a1 a2) (h5 : P5 a1 a2) : ∃ a1 a2, P1 a1 a2 /\ P2 a1 a2 /\ P3 a1 a2 /\ P4 a1 a2 /\ P5 a1 a2 := ⟨a1, a2, h1, h2, h3, h4, h5⟩
theorem Znj {α1 α2 α3 : Type} {P1 P2 P3 P4 : α1 -> α2 -> α3 -> Prop} (a1 : α1) (a2 : α2) (a3 : α3) (h1 : P1 a1 a2 a3) (h2 : P2 a1 a2 a3) (h3 : P3 a1 a2 a3) (h4 : P4 a1 a2 a3) : ∃ a1 a2 a3, P1 a1 a2 a3 /\ P2 a1 a2 a3 /\ P3 a1 a2 a3 /\ P4 a1 a2 a3 := ⟨a1, a2, a3, h1, h2, h3, h4⟩
theorem Znk {α1 α2 α3 : Type} {P1 P2 P3 P4 P5 : α1 -> α2 -> α3 -> Prop} (a1 : α1) (a2 : α2) (a3 : α3) (h1 : P1 a1 a2 a3) (h2 : P2 a1 a2 a3) (h3 : P3 a1 a2 a3) (h4 : P4 a1 a2 a3) (h5 : P5 a1 a2 a3) : ∃ a1 a2 a3, P1 a1 a2 a3 /\ P2 a1 a2 a3 /\ P3 a1 a2 a3 /\ P4 a1 a2 a3 /\ P5 a1 a2 a3 := ⟨a1, a2, a3, h1, h2, h3, h4, h5⟩
theorem Znl {P1 P2 P3 P4 P5 P6 P7 P8 P9 : Prop}  (h1 : P1) (h2 : P2) (h3 : P3) (h4 : P4) (h5 : P5) (h6 : P6) (h7 : P7) (h8 : P8) (h9 : P9) : P1 /\ P2 /\ P3 /\ P4 /\ P5 /\ P6 /\ P7 /\ P8 /\ P9 := ⟨h1, h2, h3, h4, h5, h6, h7, h8, h9⟩
theorem Znm {α1 α2 : Type} {P1 P2 P3 P4 P5 P6 P7 : α1 -> α2 -> Prop} (a1 : α1) (a2 : α2) (h1 : P1 a1 a2) (h2 : P2 a1 a2) (h3 : P3 a1 a2) (h4 : P4 a1 a2) (h5 : P5 a1 a2) (h6 : P6 a1 a2) (h7 : P7 a1 a2) : ∃ a1 a2, P1 a1 a2 /\ P2 a1 a2 /\ P3 a1 a2 /\ P4 a1 a2 /\ P5 a1 a2 /\ P6 a1 a2 /\ P7 a1 a2 := ⟨a1, a2, h1, h2, h3, h4, h5, h6, h7⟩
theorem Znn {α1 α2 α3 : Type} {P1 P2 P3 P4 P5 P6 : α1 -> α2 -> α3 -> Prop} (a1 : α1) (a2 : α2) (a3 : α3) (h1 : P1 a1 a2 a3) (h2 : P2 a1 a2 a3) (h3 : P3 a1 a2 a3) (h4 : P4 a1 a2 a3) (h5 : P5 a1 a2 a3) (h6 : P6 a1 a2 a3) : ∃ a1 a2 a3, P1 a1 a2 a3 /\ P2 a1 a2 a3 /\ P3 a1 a2 a3 /\ P4 a1 a2 a3 /\ P5 a1 a2 a3 /\ P6 a1 a2 a3 := ⟨a1, a2, a3, h1, h2, h3, h4, h5, h6⟩
theorem Zno {α1 α2 : Type} {P1 P2 P3 P4 P5 P6 P7 P8 : α1 -> α2 -> Prop} (a1 : α1) (a2 : α2) (h1 : P1 a1 a2) (h2 : P2 a1 a2) (h3 : P3 a1 a2) (h4 : P4 a1 a2) (h5 : P5 a1 a2) (h6 : P6 a1 a2) (h7 : P7 a1 a2) (h8 : P8 a1 a2) : ∃ a1 a2, P1 a1 a2 /\ P2 a1 a2 /\ P3 a1 a2 /\ P4 a1 a2 /\ P5 a1 a2 /\ P6 a1 a2 /\ P7 a1 a2 /\ P8 a1 a2 := ⟨a1, a2, h1, h2, h3, h4, h5, h6, h7, h8⟩
theorem Zep {α1 α2 α3 : Type} {P1 P2 P3 P4 P5 P6 P7 : α1 -> α2 -> α3 -> Prop} (a1 : α1) (a2 : α2) (a3 : α3) (h1 : P1 a1 a2 a3) (h2 : P2 a1 a2 a3) (h3 : P3 a1 a2 a3) (h4 : P4 a1 a2 a3) (h5 : P5 a1 a2 a3) (h6 : P6 a1 a2 a3) (h7 : P7 a1 a2 a3) : ∃ a1 a2 a3, P1 a1 a2 a3 /\ P2 a1 a2 a3 /\ P3 a1 a2 a3 /\ P4 a1 a2 a3 /\ P5 a1 a2 a3 /\ P6 a1 a2 a3 /\ P7 a1 a2 a3 := ⟨a1, a2, a3, h1, h2, h3, h4, h5, h6, h7⟩
theorem Znp {α1 α2 α3 : Type} {P1 P2 P3 P4 P5 : α1 -> α2 -> α3 -> Prop} {C : Prop} (h : ∃ a1 a2 a3, P1 a1 a2 a3 /\ P2 a1 a2 a3 /\ P3 a1 a2 a3 /\ P4 a1 a2 a3 /\ P5 a1 a2 a3) (k : ∀ a1 a2 a3, P1 a1 a2 a3 -> P2 a1 a2 a3 -> P3 a1 a2 a3 -> P4 a1 a2 a3 -> P5 a1 a2 a3 -> C) : C := by obtain ⟨a1, a2, a3, h1, h2, h3, h4, h5⟩ := h; exact k a1 a2 a3 h1 h2 h3 h4 h5
theorem Zeq {α1 α2 α3 α4 : Type} {P1 P2 P3 P4 : α1 -> α2 -> α3 -> α4 -> Prop} {C : Prop} (h : ∃ a1 a2 a3 a4, P1 a1 a2 a3 a4 /\ P2 a1 a2 a3 a4 /\ P3 a1 a2 a3 a4 /\ P4 a1 a2 a3 a4) (k : ∀ a1 a2 a3 a4, P1 a1 a2 a3 a4 -> P2 a1 a2 a3 a4 -> P3 a1 a2 a3 a4 -> P4 a1 a2 a3 a4 -> C) : C := by obtain ⟨a1, a2, a3, a4, h1, h2, h3, h4⟩ := h; exact k a1 a2 a3 a4 h1 h2 h3 h4
end Mine
set_option genSizeOfSpec false
set_option genInjectivity false
namespace Mine
inductive X where
 | n (i : Nat) | v (i : Nat) | k (c : Int) | a (x y : X) | s (x y : X) | m (c : Int) (x : X)
noncomputable section
abbrev X.den (N : Nat -> Nat) (V : Nat -> Int) (x : X) : Int := X.rec (fun i => ((N i : Nat) : Int)) V (fun c => c) (fun _ _ p q => p + q) (fun _ _ p q => p - q) (fun c _ p => c * p) x
def Jn (s t : Int) (p : List Int) : List Int -> List Int := List.rec (fun q => q.map (t * ·)) (fun a _ ih q => List.rec (s * a :: ih []) (fun b q _ => (s * a + t * b) :: ih q) q) p
structure LF where
 c : Int
 n : List Int
 v : List Int
def LF.op (s t : Int) (p q : LF) : LF := ⟨s * p.c + t * q.c, Jn s t p.n q.n, Jn s t p.v q.v⟩
def Hy (i : Nat) : List Int := Nat.rec [1] (fun _ l => 0 :: l) i
def X.lf (x : X) : LF := X.rec (fun i => ⟨0, Hy i, []⟩) (fun i => ⟨0, [], Hy i⟩) (fun c => ⟨c, [], []⟩) (fun _ _ p q => p.op 1 1 q) (fun _ _ p q => p.op 1 (-1) q) (fun c _ p => p.op c 0 p) x
def Wa (f : Nat -> Int) (l : List Int) : Nat -> Int := List.rec (fun _ => 0) (fun a _ ih i => a * f i + ih (i + 1)) l
theorem Znq {f : Nat -> Int} {t : Int} {l : List Int} : ∀ i, Wa f (l.map (t * ·)) i = t * Wa f l i := by
 induction l with
 | nil => intro i; exact (Int.mul_zero t).symm
 | cons a r ih => intro i; show t * a * f i + Wa f (r.map (t * ·)) (i + 1) = t * (a * f i + Wa f r (i + 1)); rw [ih, Int.mul_add, Int.mul_assoc]
theorem Zer {f : Nat -> Int} {s t : Int} {p : List Int} : ∀ q i, Wa f (Jn s t p q) i = s * Wa f p i + t * Wa f q i := by
 induction p with
 | nil => intro q i; show Wa f (q.map (t * ·)) i = s * 0 + _; rw [Znq, Int.mul_zero, Int.zero_add]
 | cons a r ih =>
  intro q i
  cases q with
  | nil => show s * a * f i + Wa f (Jn s t r []) (i + 1) = s * (a * f i + Wa f r (i + 1)) + t * 0; rw [ih]; show _ + (_ + t * 0) = _; grind
  | cons b q => show (s * a + t * b) * f i + Wa f (Jn s t r q) (i + 1) = s * (a * f i + Wa f r (i + 1)) + t * (b * f i + Wa f q (i + 1)); rw [ih]; grind
theorem Zes {f : Nat -> Int} {i : Nat} : ∀ j, Wa f (Hy i) j = f (i + j) := by
 induction i with
 | zero => intro j; show 1 * f j + 0 = _; rw [Nat.zero_add]; omega
 | succ i ih => intro j; show 0 * f j + Wa f (Hy i) (j + 1) = _; rw [ih, Int.zero_mul, Int.zero_add, Nat.add_assoc, Nat.add_comm 1]
def LF.ev (N : Nat -> Nat) (V : Nat -> Int) (p : LF) : Int := p.c + Wa (fun i => ((N i : Nat) : Int)) p.n 0 + Wa V p.v 0
variable {N : Nat -> Nat} {V : Nat -> Int}
theorem Hz {s t : Int} {p q : LF} : (p.op s t q).ev N V = s * p.ev N V + t * q.ev N V := by
 show s * p.c + t * q.c + Wa _ (Jn s t p.n q.n) 0 + Wa _ (Jn s t p.v q.v) 0 = _
 rw [Zer, Zer]; show _ = s * (p.c + _ + _) + t * (q.c + _ + _); grind
theorem Rn {x : X} : x.lf.ev N V = x.den N V := by
 induction x with
 | n i => show 0 + Wa _ (Hy i) 0 + 0 = _; rw [Zes, Int.zero_add, Int.add_zero]; rfl
 | v i => show 0 + 0 + Wa _ (Hy i) 0 = _; rw [Zes, Int.zero_add, Int.zero_add]; rfl
 | k c => show c + 0 + 0 = c; rw [Int.add_zero, Int.add_zero]
 | a x y h1 h2 => show (x.lf.op 1 1 y.lf).ev N V = _; rw [Hz, h1, h2, Int.one_mul, Int.one_mul]
 | s x y h1 h2 => show (x.lf.op 1 (-1) y.lf).ev N V = _; rw [Hz, h1, h2, Int.one_mul]; show _ = x.den N V - y.den N V; grind
 | m c x h1 => show (x.lf.op c 0 x.lf).ev N V = _; rw [Hz, h1, Int.zero_mul, Int.add_zero]
def nn (c : Int) : Bool := Int.rec (fun _ => true) (fun _ => false) c
def iz (c : Int) : Bool := Int.rec (fun n => Nat.beq n 0) (fun _ => false) c
theorem Znr {l : List Int} : ∀ i, l.all nn = true -> 0 <= Wa (fun i => ((N i : Nat) : Int)) l i := by
 induction l with
 | nil => intro i _; exact Int.le_refl 0
 | cons a r ih =>
  intro i h
  obtain ⟨h1, h2⟩ := Bool.and_eq_true_iff.mp h
  cases a with
  | ofNat n => exact Int.add_nonneg (Int.mul_nonneg (Int.natCast_nonneg n) (Int.natCast_nonneg _)) (ih _ h2)
  | negSucc n => cases h1
theorem Zet {a : Int} (h : iz a = true) : a = 0 := by
 cases a with
 | ofNat n => exact congrArg Int.ofNat (Nat.eq_of_beq_eq_true h)
 | negSucc n => cases h
theorem Zbk {f : Nat -> Int} {l : List Int} : ∀ i, l.all iz = true -> Wa f l i = 0 := by
 induction l with
 | nil => intro i _; rfl
 | cons a r ih =>
  intro i h
  obtain ⟨h1, h2⟩ := Bool.and_eq_true_iff.mp h
  show a * f i + Wa f r (i + 1) = 0
  rw [ih _ h2, Zet h1, Int.zero_mul]; rfl
def Wz (a b : X) (hs : List (Int × X × X)) : LF := List.rec (b.lf.op 1 (-1) a.lf) (fun h _ p => p.op 1 (-h.1) (h.2.2.lf.op 1 (-1) h.2.1.lf)) hs
def Kd (hs : List (Int × X × X)) (a b : X) : Bool := nn (Wz a b hs).c && (Wz a b hs).n.all nn && (Wz a b hs).v.all iz && hs.all fun h => nn h.1
def Ga (hs : List (Int × X × X)) (a b : X) : Bool := iz (Wz a b hs).c && (Wz a b hs).n.all iz && (Wz a b hs).v.all iz
inductive Hle (N : Nat -> Nat) (V : Nat -> Int) : List (Int × X × X) -> Prop
 | nil : Hle N V []
 | cons {k a b hs} (h : a.den N V <= b.den N V) (r : Hle N V hs) : Hle N V ((k, a, b) :: hs)
inductive Heq (N : Nat -> Nat) (V : Nat -> Int) : List (Int × X × X) -> Prop
 | nil : Heq N V []
 | cons {k a b hs} (h : a.den N V = b.den N V) (r : Heq N V hs) : Heq N V ((k, a, b) :: hs)
theorem Zeu {a b : X} : (Wz a b []).ev N V = b.den N V - a.den N V := by
 show (b.lf.op 1 (-1) a.lf).ev N V = _; rw [Hz, Rn, Rn]; grind
theorem Zev {a b x y : X} {k : Int} {hs : List (Int × X × X)} : (Wz a b ((k, x, y) :: hs)).ev N V = (Wz a b hs).ev N V - k * (y.den N V - x.den N V) := by
 show ((Wz a b hs).op 1 (-k) (y.lf.op 1 (-1) x.lf)).ev N V = _; rw [Hz, Hz, Rn, Rn]; grind
theorem Zns {a b : X} {hs : List (Int × X × X)} (H : Hle N V hs) : (hs.all fun h => nn h.1) = true -> (Wz a b hs).ev N V <= b.den N V - a.den N V := by
 induction H with
 | nil => intro _; rw [Zeu]; exact Int.le_refl _
 | @cons k x y hs h r ih =>
  intro e
  obtain ⟨h1, h2⟩ := Bool.and_eq_true_iff.mp e
  rw [Zev]
  have := ih h2
  have z : 0 <= k * (y.den N V - x.den N V) := by
   cases k with
   | ofNat n => exact Int.mul_nonneg (Int.natCast_nonneg n) (Int.sub_nonneg_of_le h)
   | negSucc n => cases h1
  omega
theorem Znt {a b : X} {hs : List (Int × X × X)} (H : Heq N V hs) : (Wz a b hs).ev N V = b.den N V - a.den N V := by
 induction H with
 | nil => rw [Zeu]
 | @cons k x y hs h r ih => rw [Zev, ih, h, Int.sub_self, Int.mul_zero, Int.sub_zero]
theorem Kt {a b : X} {hs : List (Int × X × X)} (H : Hle N V hs) (e : Kd hs a b = true) : a.den N V <= b.den N V := by
 obtain ⟨e, e4⟩ := Bool.and_eq_true_iff.mp e
 obtain ⟨e, e3⟩ := Bool.and_eq_true_iff.mp e
 obtain ⟨e1, e2⟩ := Bool.and_eq_true_iff.mp e
 have h := Zns (a := a) (b := b) H e4
 have h1 := Znr (N := N) 0 e2
 have h2 := Zbk (f := V) 0 e3
 have h3 : 0 <= (Wz a b hs).c := by
  cases z : (Wz a b hs).c with
  | ofNat n => exact Int.natCast_nonneg n
  | negSucc n => rw [z] at e1; cases e1
 have h4 : (Wz a b hs).ev N V = (Wz a b hs).c + Wa (fun i => ((N i : Nat) : Int)) (Wz a b hs).n 0 + Wa V (Wz a b hs).v 0 := rfl
 omega
theorem Vx {a b : X} {hs : List (Int × X × X)} (H : Heq N V hs) (e : Ga hs a b = true) : a.den N V = b.den N V := by
 obtain ⟨e, e3⟩ := Bool.and_eq_true_iff.mp e
 obtain ⟨e1, e2⟩ := Bool.and_eq_true_iff.mp e
 have h := Znt (a := a) (b := b) H
 have h1 := Zbk (f := fun i => ((N i : Nat) : Int)) 0 e2
 have h2 := Zbk (f := V) 0 e3
 have h3 := Zet e1
 have h4 : (Wz a b hs).ev N V = (Wz a b hs).c + Wa (fun i => ((N i : Nat) : Int)) (Wz a b hs).n 0 + Wa V (Wz a b hs).v 0 := rfl
 omega
abbrev N0 : Nat -> Nat := fun _ => 0
abbrev Nc (a : Nat) (r : Nat -> Nat) (i : Nat) : Nat := Nat.rec a (fun i _ => r i) i
abbrev V0 : Nat -> Int := fun _ => 0
abbrev Vc (a : Int) (r : Nat -> Int) (i : Nat) : Int := Nat.rec a (fun i _ => r i) i
abbrev N1 (x0 : Nat) : Nat -> Nat := (Nc x0 N0)
abbrev N2 (x0 x1 : Nat) : Nat -> Nat := (Nc x0 (Nc x1 N0))
abbrev N3 (x0 x1 x2 : Nat) : Nat -> Nat := (Nc x0 (Nc x1 (Nc x2 N0)))
abbrev N4 (x0 x1 x2 x3 : Nat) : Nat -> Nat := (Nc x0 (Nc x1 (Nc x2 (Nc x3 N0))))
abbrev N5 (x0 x1 x2 x3 x4 : Nat) : Nat -> Nat := (Nc x0 (Nc x1 (Nc x2 (Nc x3 (Nc x4 N0)))))
abbrev N6 (x0 x1 x2 x3 x4 x5 : Nat) : Nat -> Nat := (Nc x0 (Nc x1 (Nc x2 (Nc x3 (Nc x4 (Nc x5 N0))))))
abbrev N7 (x0 x1 x2 x3 x4 x5 x6 : Nat) : Nat -> Nat := (Nc x0 (Nc x1 (Nc x2 (Nc x3 (Nc x4 (Nc x5 (Nc x6 N0)))))))
abbrev V1 (x0 : Int) : Nat -> Int := (Vc x0 V0)
abbrev V2 (x0 x1 : Int) : Nat -> Int := (Vc x0 (Vc x1 V0))
abbrev V3 (x0 x1 x2 : Int) : Nat -> Int := (Vc x0 (Vc x1 (Vc x2 V0)))
abbrev V4 (x0 x1 x2 x3 : Int) : Nat -> Int := (Vc x0 (Vc x1 (Vc x2 (Vc x3 V0))))
abbrev V5 (x0 x1 x2 x3 x4 : Int) : Nat -> Int := (Vc x0 (Vc x1 (Vc x2 (Vc x3 (Vc x4 V0)))))
abbrev V6 (x0 x1 x2 x3 x4 x5 : Int) : Nat -> Int := (Vc x0 (Vc x1 (Vc x2 (Vc x3 (Vc x4 (Vc x5 V0))))))
variable {a b : X}
theorem L0 (N : Nat -> Nat) (V : Nat -> Int)  (a b : X) (e : Kd [] a b = true) : a.den N V <= b.den N V := Kt (.nil) e
theorem M0 (N : Nat -> Nat) (V : Nat -> Int)  (a b : X) (e : Ga [] a b = true) : a.den N V = b.den N V := Vx (.nil) e
theorem L1 (N : Nat -> Nat) (V : Nat -> Int) (k0 : Int) (a0 b0 : X) (h0 : a0.den N V <= b0.den N V) (a b : X) (e : Kd [(k0, a0, b0)] a b = true) : a.den N V <= b.den N V := Kt (.cons h0 .nil) e
theorem M1 (N : Nat -> Nat) (V : Nat -> Int) (k0 : Int) (a0 b0 : X) (h0 : a0.den N V = b0.den N V) (a b : X) (e : Ga [(k0, a0, b0)] a b = true) : a.den N V = b.den N V := Vx (.cons h0 .nil) e
theorem L2 (N : Nat -> Nat) (V : Nat -> Int) (k0 : Int) (a0 b0 : X) (h0 : a0.den N V <= b0.den N V) (k1 : Int) (a1 b1 : X) (h1 : a1.den N V <= b1.den N V) (a b : X) (e : Kd [(k0, a0, b0), (k1, a1, b1)] a b = true) : a.den N V <= b.den N V := Kt (.cons h0 (.cons h1 .nil)) e
theorem M2 (N : Nat -> Nat) (V : Nat -> Int) (k0 : Int) (a0 b0 : X) (h0 : a0.den N V = b0.den N V) (k1 : Int) (a1 b1 : X) (h1 : a1.den N V = b1.den N V) (a b : X) (e : Ga [(k0, a0, b0), (k1, a1, b1)] a b = true) : a.den N V = b.den N V := Vx (.cons h0 (.cons h1 .nil)) e
theorem L3 (N : Nat -> Nat) (V : Nat -> Int) (k0 : Int) (a0 b0 : X) (h0 : a0.den N V <= b0.den N V) (k1 : Int) (a1 b1 : X) (h1 : a1.den N V <= b1.den N V) (k2 : Int) (a2 b2 : X) (h2 : a2.den N V <= b2.den N V) (a b : X) (e : Kd [(k0, a0, b0), (k1, a1, b1), (k2, a2, b2)] a b = true) : a.den N V <= b.den N V := Kt (.cons h0 (.cons h1 (.cons h2 .nil))) e
theorem M3 (N : Nat -> Nat) (V : Nat -> Int) (k0 : Int) (a0 b0 : X) (h0 : a0.den N V = b0.den N V) (k1 : Int) (a1 b1 : X) (h1 : a1.den N V = b1.den N V) (k2 : Int) (a2 b2 : X) (h2 : a2.den N V = b2.den N V) (a b : X) (e : Ga [(k0, a0, b0), (k1, a1, b1), (k2, a2, b2)] a b = true) : a.den N V = b.den N V := Vx (.cons h0 (.cons h1 (.cons h2 .nil))) e
theorem L4 (N : Nat -> Nat) (V : Nat -> Int) (k0 : Int) (a0 b0 : X) (h0 : a0.den N V <= b0.den N V) (k1 : Int) (a1 b1 : X) (h1 : a1.den N V <= b1.den N V) (k2 : Int) (a2 b2 : X) (h2 : a2.den N V <= b2.den N V) (k3 : Int) (a3 b3 : X) (h3 : a3.den N V <= b3.den N V) (a b : X) (e : Kd [(k0, a0, b0), (k1, a1, b1), (k2, a2, b2), (k3, a3, b3)] a b = true) : a.den N V <= b.den N V := Kt (.cons h0 (.cons h1 (.cons h2 (.cons h3 .nil)))) e
theorem M4 (N : Nat -> Nat) (V : Nat -> Int) (k0 : Int) (a0 b0 : X) (h0 : a0.den N V = b0.den N V) (k1 : Int) (a1 b1 : X) (h1 : a1.den N V = b1.den N V) (k2 : Int) (a2 b2 : X) (h2 : a2.den N V = b2.den N V) (k3 : Int) (a3 b3 : X) (h3 : a3.den N V = b3.den N V) (a b : X) (e : Ga [(k0, a0, b0), (k1, a1, b1), (k2, a2, b2), (k3, a3, b3)] a b = true) : a.den N V = b.den N V := Vx (.cons h0 (.cons h1 (.cons h2 (.cons h3 .nil)))) e
theorem L5 (N : Nat -> Nat) (V : Nat -> Int) (k0 : Int) (a0 b0 : X) (h0 : a0.den N V <= b0.den N V) (k1 : Int) (a1 b1 : X) (h1 : a1.den N V <= b1.den N V) (k2 : Int) (a2 b2 : X) (h2 : a2.den N V <= b2.den N V) (k3 : Int) (a3 b3 : X) (h3 : a3.den N V <= b3.den N V) (k4 : Int) (a4 b4 : X) (h4 : a4.den N V <= b4.den N V) (a b : X) (e : Kd [(k0, a0, b0), (k1, a1, b1), (k2, a2, b2), (k3, a3, b3), (k4, a4, b4)] a b = true) : a.den N V <= b.den N V := Kt (.cons h0 (.cons h1 (.cons h2 (.cons h3 (.cons h4 .nil))))) e
theorem L6 (N : Nat -> Nat) (V : Nat -> Int) (k0 : Int) (a0 b0 : X) (h0 : a0.den N V <= b0.den N V) (k1 : Int) (a1 b1 : X) (h1 : a1.den N V <= b1.den N V) (k2 : Int) (a2 b2 : X) (h2 : a2.den N V <= b2.den N V) (k3 : Int) (a3 b3 : X) (h3 : a3.den N V <= b3.den N V) (k4 : Int) (a4 b4 : X) (h4 : a4.den N V <= b4.den N V) (k5 : Int) (a5 b5 : X) (h5 : a5.den N V <= b5.den N V) (a b : X) (e : Kd [(k0, a0, b0), (k1, a1, b1), (k2, a2, b2), (k3, a3, b3), (k4, a4, b4), (k5, a5, b5)] a b = true) : a.den N V <= b.den N V := Kt (.cons h0 (.cons h1 (.cons h2 (.cons h3 (.cons h4 (.cons h5 .nil)))))) e
theorem L7 (N : Nat -> Nat) (V : Nat -> Int) (k0 : Int) (a0 b0 : X) (h0 : a0.den N V <= b0.den N V) (k1 : Int) (a1 b1 : X) (h1 : a1.den N V <= b1.den N V) (k2 : Int) (a2 b2 : X) (h2 : a2.den N V <= b2.den N V) (k3 : Int) (a3 b3 : X) (h3 : a3.den N V <= b3.den N V) (k4 : Int) (a4 b4 : X) (h4 : a4.den N V <= b4.den N V) (k5 : Int) (a5 b5 : X) (h5 : a5.den N V <= b5.den N V) (k6 : Int) (a6 b6 : X) (h6 : a6.den N V <= b6.den N V) (a b : X) (e : Kd [(k0, a0, b0), (k1, a1, b1), (k2, a2, b2), (k3, a3, b3), (k4, a4, b4), (k5, a5, b5), (k6, a6, b6)] a b = true) : a.den N V <= b.den N V := Kt (.cons h0 (.cons h1 (.cons h2 (.cons h3 (.cons h4 (.cons h5 (.cons h6 .nil))))))) e
abbrev nA := X.n 0
abbrev nB := X.n 1
abbrev nC := X.n 2
abbrev nD := X.n 3
abbrev nE := X.n 4
abbrev nF := X.n 5
abbrev nG := X.n 6
abbrev vA := X.v 0
abbrev vB := X.v 1
abbrev vC := X.v 2
abbrev vD := X.v 3
abbrev vE := X.v 4
abbrev vF := X.v 5
abbrev kI := X.k 1
abbrev kZ := X.k 0
theorem nc {a b : Int} (h : b + 1 <= a -> (1 : Int) <= 0) : a <= b := Int.not_lt.mp fun z => absurd (h z) (by decide)
theorem nl {a b : Nat} (h : a <= b) : (a : Int) <= (b : Int) := Int.ofNat_le.mpr h
theorem nq {a b : Nat} (h : a = b) : (a : Int) = (b : Int) := congrArg _ h
theorem gl {a b : Nat} (h : (a : Int) <= (b : Int)) : a <= b := Int.ofNat_le.mp h
theorem gq {a b : Nat} (h : (a : Int) = (b : Int)) : a = b := Int.ofNat.inj h
theorem il {a b : Int} (h : a + 1 <= b) : a < b := h
theorem gf {C : Prop} (h : (1 : Int) <= 0) : C := absurd h (by decide)
theorem nt {a : Int} {n : Nat} (h : a = n) : a.toNat = n := by subst h; rfl
theorem li {a b : Int} (h : a < b) : a + 1 <= b := h
theorem Wi {a b : Nat} (h : a < b) : (a : Int) + 1 <= b := nl h
theorem Qo {a b : Nat} (h : (a : Int) + 1 <= b) : a < b := gl h
theorem Zj {a b : Int} (h : a = b) : a <= b := Int.le_of_eq h
theorem Zl {a b : Int} (h : a = b) : b <= a := Int.le_of_eq h.symm
theorem Wv {a b : Nat} (h : a = b) : (a : Int) <= b := Int.le_of_eq (nq h)
theorem Yq {a b : Nat} (h : a = b) : (b : Int) <= a := Int.le_of_eq (nq h.symm)
theorem Wb {a b : Nat} (h : b <= a) : ((a - b : Nat) : Int) + b = a := nq (Nat.sub_add_cancel h)
theorem sn2 (a b : Nat) : ((a - b : Nat) : Int) <= a := nl (Nat.sub_le a b)
end
end Mine
end
section
open PySem PySem.W PyProof.Rows
noncomputable section
namespace Mine
noncomputable abbrev pw : Program := PySem.Challenge.pw_on0078_01
noncomputable def Zh (i : Nat) : Stmt := (pw.main.body[i]?).getD (.Pass default)
noncomputable def Zr (i j : Nat) : Stmt := match Zh i with
 | .ClassDef _ _ _ b _ _ _ _ _ _ _ => (b[j]?).getD (.Pass default)
 | s => s
noncomputable def Xy : Stmt -> Arguments
 | .FunctionDef _ a _ _ _ _ _ _ _ _ => a
 | _ => ⟨[], [], none, [], [], none, []⟩
noncomputable def Yl : Stmt -> List Stmt
 | .FunctionDef _ _ b _ _ _ _ _ _ _ => b
 | _ => []
noncomputable def Zi : Stmt -> Scope
 | .FunctionDef _ _ _ _ _ _ s _ _ _ => s
 | _ => default
noncomputable abbrev en (P : Params) (x : Str) (t : Tok) (v : Value) : DictEntry := ⟨PyData.keyHash P x, .str x t, v⟩
noncomputable abbrev fo (n q : Str) (st : Stmt) (dV : Value) (pm : Str) (t : Tok) (cd : Addr) : Obj :=
 { cls := .type "function", data := .func (fnX n q (Xy st) (Yl st) (Zi st) [] dV .none .none (.str pm t) none (.ref cd) .none) }
noncomputable abbrev rf (P : Params) (x : Str) (t : Tok) (a : Addr) : DictEntry := en P x t (.ref a)
noncomputable abbrev dc (P : Params) (t : Tok) : DictEntry := en P "__doc__" t .none
noncomputable abbrev di (es : Array DictEntry) (k : Nat) : Obj := { cls := .type "dict", data := .dict es k }
noncomputable abbrev gA (a : Addr) (n : Str) (i : Nat) (pm : Str) (t : Tok) : Addr × Obj := (a, fo n n (Zh i) .none pm t (a - 1))
noncomputable abbrev gB (a : Addr) (n q : Str) (i j : Nat) (pm : Str) (t : Tok) : Addr × Obj := (a, fo n q (Zr i j) .none pm t (a - 1))
noncomputable abbrev gC (a ns : Addr) (n : Str) (t u : Tok) : Addr × Obj := (a, { cls := .type "type", data := .cls { name := n, bases := [.type "object"], mro := [.ref a, .type "object"], ns := ns, qualname := n, subclasses := [] }, slots := #[none, none, some (.str n t), some (.str n u), some (.builtin "object.__new__"), some (.bool true)] })
noncomputable abbrev cq (a : Addr) (q : Str) : Addr × Str := (a, q)
noncomputable def K (P : Params) : Frag :=
 [
  (2, { cls := .none, data := .dict #[en P "type.__subclasses__.Exception.0" 338 (.int 125 0), en P "type.__subclasses__.Exception.n" 339 (.int 1 0)] 2 })
 , (3, di #[en P "__name__" 165 (.str "law_on0078_01" 1865), dc P 166, en P "__package__" 167 (.none), en P "__loader__" 168 (.builtin "__main__.__loader__#opaque"), en P "__spec__" 169 (.none), rf P "__annotations__" 170 6, rf P "__builtins__" 171 4, en P "__file__" 173 (.str "/claim/cut.py" 172), en P "__cached__" 174 (.none), rf P "_wall" 193 21, rf P "downcase" 202 28, rf P "upcase" 209 35, rf P "fold" 216 42, rf P "is_upper" 223 49, rf P "is_lower" 230 56, rf P "upcased" 236 61, rf P "has_upper" 242 66, rf P "initials_upcased" 253 73, rf P "Literal" 308 104, rf P "LispSignal" 341 125, rf P "standard_messages" 347 135, rf P "message_with" 353 140, rf P "message_of" 362 147, rf P "Shape" 410 171, rf P "case_of" 419 182, rf P "cased" 428 189, rf P "cased_like" 437 196, rf P "Cased" 480 220, rf P "need_writable" 489 231, rf P "reached" 500 238, rf P "tell_ahead" 510 245, rf P "tell_behind" 521 252, rf P "text_out" 531 259, rf P "text_in" 540 266, rf P "hung_out" 549 273, rf P "hung_in" 559 280, rf P "put_in" 570 287, rf P "insert_at" 580 295, rf P "insert" 589 303, rf P "delete" 601 310, rf P "replace" 615 317, en P "ASKING" 619 (.str "asking" 618), en P "DONE" 621 (.str "done" 620), rf P "Plain" 660 341, rf P "Step" 695 362, rf P "Replacing" 816 446, rf P "replaced_all" 828 457, en P "WHITESPACE" 832 (.str " " 831), en P "WORD" 834 (.str "w" 833), en P "PUNCTUATION" 836 (.str "." 835), en P "INHERITS" 838 (.str "@" 837), en P "KINDS" 840 (.str " w_.()'\"\\/$<>@!|" 839), en P "FLAGS" 842 (.str "1234bcnp" 841), rf P "Syntax" 904 502, rf P "sorted_flags" 910 511, rf P "read_syntax" 916 516, rf P "SyntaxTable" 1010 583, rf P "letters" 1016 594, rf P "standard_table" 1025 601, rf P "text_codes" 1033 606, rf P "syntax_of" 1043 613, rf P "pair_of" 1053 620, rf P "told_many" 1061 627, rf P "replace_from_point" 1070 634, rf P "do_replace_string" 1078 641, rf P "GapText" 1198 728, rf P "Opaque" 1242 763, rf P "Markers" 1342 833, rf P "Buffer" 1481 939, rf P "BufferTable" 1620 1043, rf P "Amalgam" 1651 1064, rf P "Editor" 1864 1218, rf P "_law_deck" 1872 1227, rf P "_law_draw" 1882 1234, rf P "_law_text" 1888 1239, rf P "_law_units" 1894 1244, rf P "_law_shaped" 1900 1249, rf P "_law_done" 1915 1256, rf P "law" 1921 1261] 79)
 , gA 28 "downcase" 2 "emacs.casefold" 194
 , gA 35 "upcase" 3 "emacs.casefold" 194
 , gA 42 "fold" 4 "emacs.casefold" 194
 , gA 49 "is_upper" 5 "emacs.casefold" 194
 , gA 56 "is_lower" 6 "emacs.casefold" 194
 , gA 61 "upcased" 7 "emacs.casefold" 194
 , gA 66 "has_upper" 8 "emacs.casefold" 194
 , gA 73 "initials_upcased" 9 "emacs.casefold" 194
 , gB 87 "__init__" "Literal.__init__" 11 0 "emacs.countlines" 254
 , gB 94 "fits" "Literal.fits" 11 1 "emacs.countlines" 254
 , gB 101 "next" "Literal.next" 11 2 "emacs.countlines" 254
 , (103, di #[en P "__module__" 263 (.str "emacs.countlines" 254), en P "__firstlineno__" 267 (.int 30 266), rf P "__init__" 276 87, rf P "fits" 287 94, rf P "next" 298 101, rf P "__static_attributes__" 301 102, rf P "__dict__" 303 105, rf P "__weakref__" 305 106, dc P 306] 4)
 , gC 104 103 "Literal" 256 264
 , gB 122 "__init__" "LispSignal.__init__" 13 0 "emacs.errors" 309
 , (124, di #[en P "__module__" 318 (.str "emacs.errors" 309), en P "__firstlineno__" 322 (.int 49 321), rf P "__init__" 331 122, rf P "__static_attributes__" 334 123, rf P "__weakref__" 336 126, dc P 337] 3)
 , (125, { cls := .type "type", data := .cls { name := "LispSignal", bases := [.type "Exception"], mro := [.ref 125, .type "Exception", .type "BaseException", .type "object"], ns := 124, qualname := "LispSignal", subclasses := [] }, slots := #[some (.ref 109), none, some (.str "LispSignal" 311), some (.str "LispSignal" 319), some (.builtin "Exception.__new__"), some (.bool true)] })
 , gB 161 "__init__" "Shape.__init__" 18 0 "emacs.replacing" 363
 , gB 168 "see" "Shape.see" 18 1 "emacs.replacing" 363
 , (170, di #[en P "__module__" 372 (.str "emacs.replacing" 363), en P "__firstlineno__" 376 (.int 66 375), rf P "__init__" 388 161, rf P "see" 398 168, rf P "__static_attributes__" 403 169, rf P "__dict__" 405 172, rf P "__weakref__" 407 173, dc P 408] 4)
 , gC 171 170 "Shape" 365 373
 , gA 182 "case_of" 19 "emacs.replacing" 363
 , gA 189 "cased" 20 "emacs.replacing" 363
 , gA 196 "cased_like" 21 "emacs.replacing" 363
 , gB 210 "__init__" "Cased.__init__" 23 0 "emacs.makers" 438
 , gB 217 "made" "Cased.made" 23 1 "emacs.makers" 438
 , (219, di #[en P "__module__" 447 (.str "emacs.makers" 438), en P "__firstlineno__" 451 (.int 101 450), rf P "__init__" 460 210, rf P "made" 470 217, rf P "__static_attributes__" 473 218, rf P "__dict__" 475 221, rf P "__weakref__" 477 222, dc P 478] 4)
 , gC 220 219 "Cased" 440 448
 , gA 231 "need_writable" 25 "emacs.editing" 481
 , gA 238 "reached" 26 "emacs.editing" 481
 , gA 245 "tell_ahead" 27 "emacs.editing" 481
 , gA 252 "tell_behind" 28 "emacs.editing" 481
 , gA 259 "text_out" 29 "emacs.editing" 481
 , gA 266 "text_in" 30 "emacs.editing" 481
 , gA 273 "hung_out" 31 "emacs.editing" 481
 , gA 280 "hung_in" 32 "emacs.editing" 481
 , gA 287 "put_in" 33 "emacs.editing" 481
 , (288, { cls := .type "tuple", data := .seq #[.bool false] 0 })
 , (295, fo "insert_at" "insert_at" (Zh 34) (.ref 288) "emacs.editing" 481 294)
 , (296, { cls := .type "tuple", data := .seq #[.bool false] 0 })
 , (303, fo "insert" "insert" (Zh 35) (.ref 296) "emacs.editing" 481 302)
 , gA 310 "delete" 36 "emacs.editing" 481
 , gA 317 "replace" 37 "emacs.editing" 481
 , gB 331 "__init__" "Plain.__init__" 41 0 "emacs.queryreplace" 616
 , gB 338 "made" "Plain.made" 41 1 "emacs.queryreplace" 616
 , (340, di #[en P "__module__" 629 (.str "emacs.queryreplace" 616), en P "__firstlineno__" 633 (.int 199 632), rf P "__init__" 641 331, rf P "made" 651 338, rf P "__static_attributes__" 653 339, rf P "__dict__" 655 342, rf P "__weakref__" 657 343, dc P 658] 4)
 , gC 341 340 "Plain" 622 630
 , gB 359 "__init__" "Step.__init__" 42 0 "emacs.queryreplace" 616
 , (361, di #[en P "__module__" 668 (.str "emacs.queryreplace" 616), en P "__firstlineno__" 672 (.int 206 671), rf P "__init__" 683 359, rf P "__static_attributes__" 688 360, rf P "__dict__" 690 363, rf P "__weakref__" 692 364, dc P 693] 4)
 , gC 362 361 "Step" 661 669
 , gB 380 "__init__" "Replacing.__init__" 43 0 "emacs.queryreplace" 616
 , gB 387 "look" "Replacing.look" 43 1 "emacs.queryreplace" 616
 , gB 394 "put_new" "Replacing.put_new" 43 2 "emacs.queryreplace" 616
 , gB 401 "go_on" "Replacing.go_on" 43 3 "emacs.queryreplace" 616
 , gB 408 "put_all" "Replacing.put_all" 43 4 "emacs.queryreplace" 616
 , (445, di #[en P "__module__" 703 (.str "emacs.queryreplace" 616), en P "__firstlineno__" 707 (.int 213 706), rf P "__init__" 721 380, rf P "look" 732 387, rf P "put_new" 741 394, rf P "go_on" 750 401, rf P "put_all" 757 408, rf P "go_back" 764 415, rf P "take_back" 773 422, rf P "take_out" 781 429, rf P "answer" 789 436, rf P "other" 798 443, rf P "__static_attributes__" 809 444, rf P "__dict__" 811 447, rf P "__weakref__" 813 448, dc P 814] 4)
 , gC 446 445 "Replacing" 696 704
 , gA 457 "replaced_all" 44 "emacs.queryreplace" 616
 , gB 471 "__init__" "Syntax.__init__" 52 0 "emacs.syntax" 829
 , (501, di #[en P "__module__" 850 (.str "emacs.syntax" 829), en P "__firstlineno__" 854 (.int 316 853), rf P "__init__" 864 471, rf P "has" 872 478, rf P "is_escape" 879 485, rf P "is_word_part" 886 492, rf P "style" 893 499, rf P "__static_attributes__" 897 500, rf P "__dict__" 899 503, rf P "__weakref__" 901 504, dc P 902] 4)
 , gC 502 501 "Syntax" 843 851
 , gA 511 "sorted_flags" 53 "emacs.syntax" 829
 , gA 516 "read_syntax" 54 "emacs.syntax" 829
 , (524, { cls := .type "tuple", data := .seq #[.none] 0 })
 , (531, fo "__init__" "SyntaxTable.__init__" (Zr 55 0) (.ref 524) "emacs.syntax" 829 530)
 , gB 545 "modify_all" "SyntaxTable.modify_all" 55 2 "emacs.syntax" 829
 , gB 559 "own" "SyntaxTable.own" 55 4 "emacs.syntax" 829
 , gB 566 "at" "SyntaxTable.at" 55 5 "emacs.syntax" 829
 , gB 573 "kind_of" "SyntaxTable.kind_of" 55 6 "emacs.syntax" 829
 , (582, di #[en P "__module__" 924 (.str "emacs.syntax" 829), en P "__firstlineno__" 928 (.int 345 927), rf P "__init__" 936 531, rf P "modify" 945 538, rf P "modify_all" 956 545, rf P "modify_range" 966 552, rf P "own" 975 559, rf P "at" 985 566, rf P "kind_of" 993 573, rf P "copy" 1000 580, rf P "__static_attributes__" 1003 581, rf P "__dict__" 1005 584, rf P "__weakref__" 1007 585, dc P 1008] 4)
 , gC 583 582 "SyntaxTable" 917 925
 , gA 594 "letters" 56 "emacs.syntax" 829
 , gA 601 "standard_table" 57 "emacs.syntax" 829
 , gA 606 "text_codes" 59 "emacs.textcommands" 1026
 , gA 613 "syntax_of" 61 "emacs.replacecommands" 1034
 , gA 620 "pair_of" 62 "emacs.replacecommands" 1034
 , gA 627 "told_many" 63 "emacs.replacecommands" 1034
 , gA 634 "replace_from_point" 64 "emacs.replacecommands" 1034
 , gA 641 "do_replace_string" 65 "emacs.replacecommands" 1034
 , gB 655 "__init__" "GapText.__init__" 67 0 "emacs.gap" 1079
 , gB 662 "size" "GapText.size" 67 1 "emacs.gap" 1079
 , gB 669 "code" "GapText.code" 67 2 "emacs.gap" 1079
 , gB 676 "codes" "GapText.codes" 67 3 "emacs.gap" 1079
 , gB 683 "move_gap" "GapText.move_gap" 67 4 "emacs.gap" 1079
 , gB 690 "widen_gap" "GapText.widen_gap" 67 5 "emacs.gap" 1079
 , gB 697 "insert" "GapText.insert" 67 6 "emacs.gap" 1079
 , gB 704 "delete" "GapText.delete" 67 7 "emacs.gap" 1079
 , (727, di #[en P "__module__" 1088 (.str "emacs.gap" 1079), en P "__firstlineno__" 1092 (.int 418 1091), rf P "__init__" 1101 655, rf P "size" 1108 662, rf P "code" 1116 669, rf P "codes" 1126 676, rf P "move_gap" 1135 683, rf P "widen_gap" 1144 690, rf P "insert" 1153 697, rf P "delete" 1163 704, rf P "put" 1172 711, rf P "narrow_gap" 1179 718, rf P "is_whole" 1186 725, rf P "__static_attributes__" 1191 726, rf P "__dict__" 1193 729, rf P "__weakref__" 1195 730, dc P 1196] 4)
 , gC 728 727 "GapText" 1081 1089
 , (762, di #[en P "__module__" 1208 (.str "emacs.objects" 1199), en P "__firstlineno__" 1212 (.int 484 1211), rf P "shown" 1219 746, rf P "kind" 1226 753, rf P "same_as" 1234 760, rf P "__static_attributes__" 1235 761, rf P "__dict__" 1237 764, rf P "__weakref__" 1239 765, dc P 1240] 4)
 , (763, { cls := .type "type", data := .cls { name := "Opaque", bases := [.type "object"], mro := [.ref 763, .type "object"], ns := 762, qualname := "Opaque", subclasses := [.ref 939] }, slots := #[none, none, some (.str "Opaque" 1201), some (.str "Opaque" 1209), some (.builtin "object.__new__"), some (.bool true)] })
 , gB 781 "__init__" "Markers.__init__" 71 0 "emacs.markers" 1243
 , gB 788 "numbers" "Markers.numbers" 71 1 "emacs.markers" 1243
 , gB 816 "inserted" "Markers.inserted" 71 5 "emacs.markers" 1243
 , gB 823 "deleted" "Markers.deleted" 71 6 "emacs.markers" 1243
 , gB 830 "replaced" "Markers.replaced" 71 7 "emacs.markers" 1243
 , (832, di #[en P "__module__" 1252 (.str "emacs.markers" 1243), en P "__firstlineno__" 1256 (.int 495 1255), rf P "__init__" 1263 781, rf P "numbers" 1270 788, rf P "put" 1279 795, rf P "drop" 1287 802, rf P "within" 1298 809, rf P "inserted" 1310 816, rf P "deleted" 1321 823, rf P "replaced" 1333 830, rf P "__static_attributes__" 1335 831, rf P "__dict__" 1337 834, rf P "__weakref__" 1339 835, dc P 1340] 4)
 , gC 833 832 "Markers" 1245 1253
 , (845, { cls := .type "tuple", data := .seq #[.int 8 1357] 0 })
 , (852, fo "__init__" "Buffer.__init__" (Zr 73 0) (.ref 845) "emacs.buffer" 1343 851)
 , gB 887 "size" "Buffer.size" 73 5 "emacs.buffer" 1343
 , gB 894 "code_at" "Buffer.code_at" 73 6 "emacs.buffer" 1343
 , gB 901 "codes" "Buffer.codes" 73 7 "emacs.buffer" 1343
 , gB 908 "goto" "Buffer.goto" 73 8 "emacs.buffer" 1343
 , gB 936 "touch" "Buffer.touch" 73 12 "emacs.buffer" 1343
 , (938, di #[en P "__module__" 1352 (.str "emacs.buffer" 1343), en P "__firstlineno__" 1356 (.int 538 1355), rf P "__init__" 1367 852, rf P "shown" 1374 859, rf P "kind" 1381 866, rf P "begin" 1388 873, rf P "end" 1395 880, rf P "size" 1402 887, rf P "code_at" 1410 894, rf P "codes" 1419 901, rf P "goto" 1427 908, rf P "tick" 1434 915, rf P "is_modified" 1441 922, rf P "set_modified" 1449 929, rf P "touch" 1457 936, rf P "__static_attributes__" 1478 937, dc P 1479] 2)
 , (939, { cls := .type "type", data := .cls { name := "Buffer", bases := [.ref 763], mro := [.ref 939, .ref 763, .type "object"], ns := 938, qualname := "Buffer", subclasses := [] }, slots := #[some (.ref 838), none, some (.str "Buffer" 1345), some (.str "Buffer" 1353), some (.builtin "object.__new__"), some (.bool true)] })
 , gB 955 "__init__" "BufferTable.__init__" 75 0 "emacs.buffers" 1482
 , gB 962 "by_number" "BufferTable.by_number" 75 1 "emacs.buffers" 1482
 , gB 969 "by_name" "BufferTable.by_name" 75 2 "emacs.buffers" 1482
 , gB 976 "create" "BufferTable.create" 75 3 "emacs.buffers" 1482
 , gB 998 "select" "BufferTable.select" 75 6 "emacs.buffers" 1482
 , gB 1005 "set_current" "BufferTable.set_current" 75 7 "emacs.buffers" 1482
 , (1042, di #[en P "__module__" 1491 (.str "emacs.buffers" 1482), en P "__firstlineno__" 1495 (.int 603 1494), rf P "__init__" 1502 955, rf P "by_number" 1510 962, rf P "by_name" 1519 969, rf P "create" 1528 976, rf P "fresh_name" 1538 984, rf P "rename" 1548 991, rf P "select" 1556 998, rf P "set_current" 1564 1005, rf P "bury" 1572 1012, rf P "other" 1581 1019, rf P "kill" 1589 1026, rf P "new_marker" 1597 1033, rf P "marker_at" 1607 1040, rf P "__static_attributes__" 1613 1041, rf P "__dict__" 1615 1044, rf P "__weakref__" 1617 1045, dc P 1618] 4)
 , gC 1043 1042 "BufferTable" 1484 1492
 , gB 1061 "__init__" "Amalgam.__init__" 77 0 "emacs.amalgam" 1621
 , (1063, di #[en P "__module__" 1630 (.str "emacs.amalgam" 1621), en P "__firstlineno__" 1634 (.int 664 1633), rf P "__init__" 1641 1061, rf P "__static_attributes__" 1644 1062, rf P "__dict__" 1646 1065, rf P "__weakref__" 1648 1066, dc P 1649] 4)
 , gC 1064 1063 "Amalgam" 1623 1631
 , gB 1082 "__init__" "Editor.__init__" 79 0 "emacs.editor" 1652
 , gB 1089 "current" "Editor.current" 79 1 "emacs.editor" 1652
 , (1217, di #[en P "__module__" 1661 (.str "emacs.editor" 1652), en P "__firstlineno__" 1665 (.int 670 1664), rf P "__init__" 1675 1082, rf P "current" 1682 1089, rf P "is_asking" 1689 1096, rf P "maps" 1696 1103, rf P "lookup" 1704 1110, rf P "inserting" 1712 1117, rf P "spec" 1720 1124, rf P "run" 1729 1131, rf P "hand" 1738 1138, rf P "need_writable" 1745 1145, rf P "shift_select" 1753 1152, rf P "set_mark" 1761 1159, rf P "joined_sort" 1769 1166, rf P "before_command" 1777 1173, rf P "after_command" 1785 1180, rf P "ask" 1794 1187, rf P "end_question" 1801 1194, rf P "error" 1809 1201, rf P "insert_event" 1818 1208, rf P "insert_text" 1826 1215, rf P "__static_attributes__" 1857 1216, rf P "__dict__" 1859 1219, rf P "__weakref__" 1861 1220, dc P 1862] 4)
 , gC 1218 1217 "Editor" 1654 1662
 , gA 1227 "_law_deck" 81 "law_on0078_01" 1865
 , gA 1234 "_law_draw" 82 "law_on0078_01" 1865
 , gA 1239 "_law_text" 83 "law_on0078_01" 1865
 , gA 1244 "_law_units" 84 "law_on0078_01" 1865
 , gA 1249 "_law_shaped" 85 "law_on0078_01" 1865
 , gA 1256 "_law_done" 86 "law_on0078_01" 1865
 , gA 1261 "law" 87 "law_on0078_01" 1865
 ]
noncomputable def Kas : List Addr := [2, 3, 28, 35, 42, 49, 56, 61, 66, 73, 87, 94, 101, 103, 104, 122, 124, 125, 161, 168, 170, 171, 182, 189, 196, 210, 217, 219, 220, 231, 238, 245, 252, 259, 266, 273, 280, 287, 288, 295, 296, 303, 310, 317, 331, 338, 340, 341, 359, 361, 362, 380, 387, 394, 401, 408, 445, 446, 457, 471, 501, 502, 511, 516, 524, 531, 545, 559, 566, 573, 582, 583, 594, 601, 606, 613, 620, 627, 634, 641, 655, 662, 669, 676, 683, 690, 697, 704, 727, 728, 762, 763, 781, 788, 816, 823, 830, 832, 833, 845, 852, 887, 894, 901, 908, 936, 938, 939, 955, 962, 969, 976, 998, 1005, 1042, 1043, 1061, 1063, 1064, 1082, 1089, 1217, 1218, 1227, 1234, 1239, 1244, 1249, 1256, 1261]
noncomputable def codes : List (Addr × Str) := [cq 27 "downcase", cq 34 "upcase", cq 41 "fold", cq 48 "is_upper", cq 55 "is_lower", cq 60 "upcased", cq 65 "has_upper", cq 72 "initials_upcased", cq 86 "Literal.__init__", cq 93 "Literal.fits", cq 100 "Literal.next", cq 121 "LispSignal.__init__", cq 160 "Shape.__init__", cq 167 "Shape.see", cq 181 "case_of", cq 188 "cased", cq 195 "cased_like", cq 209 "Cased.__init__", cq 216 "Cased.made", cq 230 "need_writable", cq 237 "reached", cq 244 "tell_ahead", cq 251 "tell_behind", cq 258 "text_out", cq 265 "text_in", cq 272 "hung_out", cq 279 "hung_in", cq 286 "put_in", cq 294 "insert_at", cq 302 "insert", cq 309 "delete", cq 316 "replace", cq 330 "Plain.__init__", cq 337 "Plain.made", cq 358 "Step.__init__", cq 379 "Replacing.__init__", cq 386 "Replacing.look", cq 393 "Replacing.put_new", cq 400 "Replacing.go_on", cq 407 "Replacing.put_all", cq 456 "replaced_all", cq 470 "Syntax.__init__", cq 510 "sorted_flags", cq 515 "read_syntax", cq 530 "SyntaxTable.__init__", cq 544 "SyntaxTable.modify_all", cq 558 "SyntaxTable.own", cq 565 "SyntaxTable.at", cq 572 "SyntaxTable.kind_of", cq 593 "letters", cq 600 "standard_table", cq 605 "text_codes", cq 612 "syntax_of", cq 619 "pair_of", cq 626 "told_many", cq 633 "replace_from_point", cq 640 "do_replace_string", cq 654 "GapText.__init__", cq 661 "GapText.size", cq 668 "GapText.code", cq 675 "GapText.codes", cq 682 "GapText.move_gap", cq 689 "GapText.widen_gap", cq 696 "GapText.insert", cq 703 "GapText.delete", cq 780 "Markers.__init__", cq 787 "Markers.numbers", cq 815 "Markers.inserted", cq 822 "Markers.deleted", cq 829 "Markers.replaced", cq 851 "Buffer.__init__", cq 886 "Buffer.size", cq 893 "Buffer.code_at", cq 900 "Buffer.codes", cq 907 "Buffer.goto", cq 935 "Buffer.touch", cq 954 "BufferTable.__init__", cq 961 "BufferTable.by_number", cq 968 "BufferTable.by_name", cq 975 "BufferTable.create", cq 997 "BufferTable.select", cq 1004 "BufferTable.set_current", cq 1060 "Amalgam.__init__", cq 1081 "Editor.__init__", cq 1088 "Editor.current", cq 1226 "_law_deck", cq 1233 "_law_draw", cq 1238 "_law_text", cq 1243 "_law_units", cq 1248 "_law_shaped", cq 1255 "_law_done", cq 1260 "law"]
noncomputable def qv : Program := { pw with main := { pw.main with body := [Zh 87] } }
noncomputable def loose : List Str := (pw.main.scope.names.map (·.1)).filter fun n => n != ("law" : Str)
noncomputable def Znu (P : Params) : BT := ((boot_heap P).objs.toList.foldl (fun (x : BT × Nat) o => (x.1.ins x.2 o, x.2 + 1)) (.nil, 0)).1
noncomputable def S0 (w : World) (os : OsState) : SharedT := ⟨Znu w.params, 11, (boot_heap w.params).life, #[], boot_drawn, boot_toks, os⟩
noncomputable def Qp (o : Option Obj) (q : Str) : Bool := match o with
 | some ⟨_, _, .fields vs, _⟩ => (match vs[1]? with
   | some (Value.str q' _) => PySem.W.Fast.sEq q' q
   | _ => false)
 | _ => false
noncomputable def Oy (T : BT) (n : Nat) (a : Addr) : Option Obj := match Nat.blt a n with
 | true => (T.get a).bind alive
 | false => none
noncomputable def Xt (s : Shared) : Bool := xlAt qv [] s && recOk [] s
noncomputable def obs (w : World) (S : SharedT) :=
 (staticsOk (importedModules pw.main.body) (boot_heap w.params) S.abs.heap && namesBound pw S.abs.heap && gensDone S.abs && laidKept (boot_heap w.params) S.abs.heap,
  PySem.W.Fast.tw4187177175401517315 qv loose (importedModules pw.main.body) Xt true S.abs, Kas.map (Oy S.tree S.n), codes.all (fun x => Qp (Oy S.tree S.n x.1) x.2), S.n)
theorem Znv (w : World) (os : OsState) :
 (PySem.W.Fast.tw10295753902157049106 PySem.W.Fast.tw14364793385576792824 pw w 11 (some (.ref 6)) 0 8134 (S0 w os) (topStub pw)).map (fun x => (through x.2, obs w x.1)) =
  some (true, true, openGood qv loose, (K w.params).map (fun p => some p.2), true, 1262) := by kernel_rfl
theorem Znw {t : Thread} (h : endAt 0 t = none) : through t = false := by
 obtain ⟨cur, code, pos, stack⟩ := t
 cases stack with
 | cons f r => rfl
 | nil =>
   cases cur with
   | pure f => cases f with
     | done f => cases h
     | again c => rfl
   | _ => rfl
theorem Zew {tb : String -> Option Builtin} {p : Program} {w : World} {n₀ : Nat} {ann : Option Value} : ∀ {n : Nat} {s s' : Shared} {t t' : Thread},
  segGo tb p w n₀ ann 0 n s t = some (s', t') -> topGo tb p w n₀ ann n s t = some (s', t')
 | 0, _, _, _, _, h => h
 | n + 1, s, s', t, t', h => by
  unfold segGo at h
  unfold topGo
  cases he : endAt 0 t with
  | some x => rw [he] at h; cases h
  | none =>
   rw [he] at h
   rw [Znw he]
   cases hk : stepOk n₀ ann t with
   | false => rw [hk] at h; cases h
   | true =>
    rw [hk] at h
    cases hs : step (denote tb) p w s t with
    | halt o s₂ => rw [hs] at h; cases h
    | go s₂ t₂ => rw [hs] at h; exact Zew h
theorem Znx (w : World) (os : OsState) : (S0 w os).abs = ⟨boot_heap w.params, #[], boot_drawn, boot_toks, os⟩ := by kernel_rfl
theorem Zny (P : Params) : ((boot_heap P).isNs mainGlobals && (#[] : Array GenState).size == 0, (boot_heap P).objs.size, (boot_heap P).nsMap mainGlobals "__annotations__") = (true, 11, some (.ref 6)) := by kernel_rfl
theorem Znz : opening pw = plainProg pw.main.scope.names := by kernel_rfl
theorem Zoa : ∀ s, fenceModules? pw s = some s := fun s => by kernel_rfl
theorem Zob {h : Heap} {c : Addr} {q : Str} (e : Qp (h.get? c) q = true) : h.CodeRec (.ref c) q := by
 unfold Qp at e
 split at e
 · rename_i cl d vs sl ho
   split at e
   · rename_i q' t hq
     have hq' := PySem.W.Fast.sEq_iff.mp e
     exact ⟨c, _, vs, t, rfl, ho, rfl, by rw [hq, hq']⟩
   · cases e
 · cases e
noncomputable def Yf (s : Shared) : List (Option Obj) × Bool := (Kas.map s.heap.get?, codes.all fun x => Qp (s.heap.get? x.1) x.2)
noncomputable def Ya (w : World) : List (Option Obj) × Bool := ((K w.params).map (fun p => some p.2), true)
noncomputable def Vy (w : World) (h : Heap) : Prop := (K w.params).In h /\ ∀ x ∈ codes, h.CodeRec (.ref x.1) x.2
theorem Zex {T : BT} {n : Nat} {life : Life} {a : Addr} {o : Obj} (h : Oy T n a = some o) : (absHeap T n life).get? a = some o := by
 unfold Oy at h
 split at h
 · rename_i q
   obtain ⟨o', e, e'⟩ := Option.bind_eq_some_iff.mp h
   rw [abs_get (Nat.le_of_ble_eq_true q) e, e']
 · cases h
theorem Zoc {T : BT} {n : Nat} {life : Life} {K : Frag} : ∀ {as : List Addr}, as.map (Oy T n) = K.map (fun p => some p.2) -> as.map (absHeap T n life).get? = K.map (fun p => some p.2) := by
 induction K with
 | nil => intro as h; cases as with
   | nil => rfl
   | cons a r => cases h
 | cons p K ih => intro as h; cases as with
   | nil => cases h
   | cons a r =>
     simp only [List.map_cons, List.cons.injEq] at h ⊢
     exact ⟨Zex h.1, ih h.2⟩
theorem Zod (P : Params) : Kas = (K P).map (·.1) := by kernel_rfl
theorem Zoe {T : BT} {n : Nat} {life : Life} {c : Addr} {q : Str} (e : Qp (Oy T n c) q = true) : Qp ((absHeap T n life).get? c) q = true := by
 cases h : Oy T n c with
 | none => rw [h] at e; cases e
 | some o => rw [Zex h, <- h]; exact e
theorem Zof (w : World) (s : Shared) (e : Yf s = Ya w) : Vy w s.heap := by
 have e1 := congrArg Prod.fst e
 have e2 : (codes.all fun x => Qp (s.heap.get? x.1) x.2) = true := congrArg Prod.snd e
 exact ⟨Frag.in_of (Zod w.params) e1, fun x hx => Zob (List.all_eq_true.mp e2 x hx)⟩
theorem Zog (w : World) (h h' : Heap) (x : Vy w h) (k : ∀ b o, h.get? b = some o -> h'.get? b = some o) : Vy w h' :=
 ⟨x.1.keeps k, fun y hy => (x.2 y hy).keeps k⟩
theorem Zoh {p q : Program} {loose : List Str} {Xt : Shared -> Bool} {α : Type} {Yf : Shared -> α} {Ya : World -> α} {N M n₀ : Nat} {ann : Option Value} {S₀ : World -> OsState -> SharedT}
  (e : opening p = plainProg p.main.scope.names) (hN : Nat.ble 600 N = true) (f : ∀ s, fenceModules? p s = some s)
  (hS : ∀ w os, (S₀ w os).abs = ⟨boot_heap w.params, #[], boot_drawn, boot_toks, os⟩)
  (bf : ∀ P, ((boot_heap P).isNs mainGlobals && (#[] : Array GenState).size == 0, (boot_heap P).objs.size, (boot_heap P).nsMap mainGlobals "__annotations__") = (true, n₀, ann))
  (run : ∀ w os, ∃ S t, segGoT treeTable p w n₀ ann 0 M (S₀ w os) (topStub p) = some (S, t) /\ through t = true /\
   (staticsOk (importedModules p.main.body) (boot_heap w.params) S.abs.heap && namesBound p S.abs.heap && gensDone S.abs && laidKept (boot_heap w.params) S.abs.heap) = true /\
   openSeen q loose (importedModules p.main.body) Xt true S.abs = openGood q loose /\ Yf S.abs = Ya w)
  (le : M + 1 = N) : LeftO p q loose Xt Yf Ya N := fun w => by
 obtain ⟨⟨h, gs, d, k, os⟩, e, e'⟩ := Option.map_eq_some_iff.mp (boot_open (p := p) (N := N) e hN f w)
 obtain ⟨rfl, rfl, rfl, rfl⟩ : h = boot_heap w.params /\ gs = #[] /\ d = boot_drawn /\ k = boot_toks := by simpa using e'
 obtain ⟨z1, z2, z3⟩ : _ /\ _ /\ _ := by simpa only [Prod.mk.injEq] using bf w.params
 obtain ⟨S, t, r1, q1, l1, l2, l3⟩ := run w os
 have g := Zew (segGo_of r1)
 rw [hS] at g
 have f : topRun treeTable p w n₀ ann 1 S.abs t = some S.abs := by
  unfold topRun
  rw [q1]
 have R := go_top g f
 rw [le] at R
 have t : topFrom treeTable p w N ⟨boot_heap w.params, #[], boot_drawn, boot_toks, os⟩ = some S.abs := by
  unfold topFrom
  dsimp only
  rw [z1, z2, z3, R]
  show (match staticsOk (importedModules p.main.body) (boot_heap w.params) S.abs.heap && namesBound p S.abs.heap && gensDone S.abs && laidKept (boot_heap w.params) S.abs.heap with | true => _ | false => _) = _
  rw [l1]
 unfold openEnds
 rw [e]
 show (topFrom treeTable p w N _).map _ = _
 rw [t]
 exact congrArg some (Prod.ext l2 l3)
theorem Zoi {T : BT} {n : Nat} {life : Life} {s : Shared} {w : World} (hs : s.heap = absHeap T n life) (l3 : Kas.map (Oy T n) = (K w.params).map (fun p => some p.2))
   (l4 : (codes.all fun x => Qp (Oy T n x.1) x.2) = true) : Yf s = Ya w := by
 refine Prod.ext ?_ ?_
 · show Kas.map s.heap.get? = _
   rw [hs]; exact Zoc l3
 · show (codes.all fun x => Qp (s.heap.get? x.1) x.2) = true
   rw [hs]
   exact List.all_eq_true.mpr fun x hx => Zoe (List.all_eq_true.mp l4 x hx)
theorem Zoj {w : World} {S : SharedT} {a b d : Bool} {g c n} (h : obs w S = (a, g, c, d, n)) :
  (staticsOk (importedModules pw.main.body) (boot_heap w.params) S.abs.heap && namesBound pw S.abs.heap && gensDone S.abs && laidKept (boot_heap w.params) S.abs.heap) = a /\
  PySem.W.Fast.tw4187177175401517315 qv loose (importedModules pw.main.body) Xt true S.abs = g /\ Kas.map (Oy S.tree S.n) = c /\ (codes.all fun x => Qp (Oy S.tree S.n x.1) x.2) = d := by
 cases h; exact ⟨rfl, rfl, rfl, rfl⟩
theorem left : LeftO pw qv loose Xt Yf Ya 8135 := Zoh Znz (by decide +kernel) Zoa Znx Zny (fun w os => by
 obtain ⟨⟨S, t⟩, r1, r2⟩ := Option.map_eq_some_iff.mp (Znv w os)
 rw [<- PySem.W.Fast.te10295753902157049106, <- PySem.W.Fast.te14364793385576792824] at r1
 obtain ⟨q1, q2⟩ := Prod.mk.inj r2
 obtain ⟨l1, l2, l3, l4⟩ := Zoj (b := true) q2
 rw [<- PySem.W.Fast.te4187177175401517315] at l2
 exact ⟨S, t, r1, q1, l1, l2, Zoi rfl l3 l4⟩) rfl
end Mine
end
namespace Mine
abbrev rw0 : OpenLaw := PySem.Challenge.rw_on0078_01
noncomputable def Zok : Stmt -> Pos
 | .FunctionDef _ _ _ _ _ _ _ _ _ p => p
 | _ => default
noncomputable def lawD : DefRec := ⟨"law", Xy (Zh 87), Yl (Zh 87), Zi (Zh 87), Zok (Zh 87)⟩
theorem Zol : defOf qv rw0.row.name = some (lawD, []) := by kernel_rfl
theorem Zom : rw0.row.prog.theDef rw0.row.name = some (lawD.params, lawD.body, lawD.scope) := by kernel_rfl
theorem Zon : sreFenced rw0.prog.main = true := by kernel_rfl
theorem Zoo : namesResolve rw0.prog = true := by kernel_rfl
theorem Zop : noRoadLSs { strict := !(importedModules rw0.prog.main.body).all cThrough.contains, foot := none, bare := (["vars", "dir", "locals"] : List Str).filter (readsOut rw0.prog rw0.prog.main.body) } rw0.prog.main.body = true := by kernel_rfl
theorem Zoq : namesMeet rw0.prog rw0.prog.main.body (fun _ n => attrL n) = true := by kernel_rfl
theorem Zor : looksOpen rw0.prog = true := by
 unfold looksOpen
 rw [Zon, Zoo, Zop, Zoq]
 kernel_rfl
theorem Zos : rw0.row.partSaid = true := by
 unfold OpenRow.partSaid
 rw [show looksOpen rw0.row.prog = true from Zor]
 kernel_rfl
theorem Zot : rw0.row.wellSaid = true := by
 unfold OpenRow.wellSaid
 rw [Zos]
 kernel_rfl
theorem Zou : rw0.bound'.all (fun n => !builtinNamed n || rw0.about == [n] || !rw0.reads n) = true := by kernel_rfl
theorem Zov : namesMeet rw0.prog rw0.above (fun _ n => !rw0.own.contains n) = true := by kernel_rfl
theorem Zow : noRoadLSs { strict := true, foot := some rw0.bound', writes := rw0.writes, may := rw0.may } rw0.footing = true := by kernel_rfl
theorem Zox : rw0.wellSaid = true := by
 unfold OpenLaw.wellSaid
 rw [Zot, Zou, Zov, Zow]
 kernel_rfl
theorem Zoy (s : Shared) (e : Xt s = true) : RecFacts rw0.row.records s.heap := recFacts_of (Bool.and_eq_true_iff.mp e).2
theorem Zoz : (chainsOk qv && opensWell rw0.row.prog && (frees rw0.row.toRowW && rw0.row.within.isEmpty)) = true := by kernel_rfl
theorem Zpa (call : WalkO qv loose (XL qv []) Vy rw0.row.toRowW lawD [] fun f vs => PySem.call f vs) : rw0.Holds :=
 holds_law Zox fun said' => holds_open (r := rw0.row) left Zof Zog (fun s e => xl_of s (Bool.and_eq_true_iff.mp e).1) XL.keeps Zol Zom rfl Zoy rfl said' Zoz
  ⟨rfl, rfl, rfl, rfl, rfl, by decide +kernel⟩ (by w_witness2) call
end Mine
end
section
open PySem PySem.W PySem.Calls PyProof.Rows
noncomputable section
namespace Mine
noncomputable def er : Value -> Value
 | .int i _ => .int i 0
 | .float x _ => .float x 0
 | .str s _ => .str s 0
 | .bytes b _ => .bytes b 0
 | v => v
noncomputable abbrev I (i : Int) : Value := .int i 0
noncomputable abbrev S (s : Str) : Value := .str s 0
theorem Ku {v : Value} {i : Int} {t : Tok} (h : er v = .int i t) : ∃ u, v = .int i u := by
 cases v <;> first | ((first | contradiction | (injection h with h; subst h)); exact ⟨_, rfl⟩) | contradiction
theorem Yd {v : Value} {i : Int} {t : Tok} {C : Prop} (h : er v = .int i t) (k : ∀ u, v = .int i u -> C) : C := by obtain ⟨u, e⟩ := Ku h; exact k u e
theorem Zbl {v : Value} {s : Str} {t : Tok} (h : er v = .str s t) : ∃ u, v = .str s u := by
 cases v <;> first | ((first | contradiction | (injection h with h; subst h)); exact ⟨_, rfl⟩) | contradiction
theorem Oz {v : Value} {s : Str} {t : Tok} {C : Prop} (h : er v = .str s t) (k : ∀ u, v = .str s u -> C) : C := by obtain ⟨u, e⟩ := Zbl h; exact k u e
theorem Yc {v : Value} {a : Addr} (h : er v = .ref a) : v = .ref a := by cases v <;> first | ((first | contradiction | (injection h with h; subst h)); rfl) | contradiction
theorem Qa {v : Value} {a : Bool} (h : er v = .bool a) : v = .bool a := by cases v <;> first | ((first | contradiction | (injection h with h; subst h)); rfl) | contradiction
theorem Vz {v : Value} (h : er v = .none) : v = .none := by cases v <;> first | ((first | contradiction | cases h); rfl) | contradiction
theorem Zey {v : Value} {a : String} (h : er v = .builtin a) : v = .builtin a := by cases v <;> first | ((first | contradiction | (injection h with h; subst h)); rfl) | contradiction
theorem Zbm {v : Value} {a : String} (h : er v = .type a) : v = .type a := by cases v <;> first | ((first | contradiction | (injection h with h; subst h)); rfl) | contradiction
inductive AO where
 | lst (xs : List Value)
 | slst (xs : List Value)
 | plst (n : Nat) (ys : List Value)
 | tup (xs : List Value)
 | inst (C : Addr) (fs : List (Str × Value))
 | ns (m : List (Str × Value))
 | cell (v : Option Value)
 | idct (n : Nat) (f : Int -> Option Value)
 | pdct (f : Int -> Option Value)
 | raw (o : Obj)
noncomputable abbrev St := Addr -> Option AO
noncomputable def upd (σ : St) (a : Addr) (o : AO) : St := fun b => if b = a then some o else σ b
theorem Yz (σ : St) (a : Addr) (o : AO) : upd σ a o a = some o := if_pos rfl
theorem Zz {σ : St} {a b : Addr} {o : AO} (h : b ≠ a) : upd σ a o b = σ b := if_neg h
noncomputable def Sub (σ τ : St) : Prop := ∀ a o, σ a = some o -> τ a = some o
noncomputable def Un (σ φ : St) : St := fun a => (σ a).or (φ a)
noncomputable def Dis (σ φ : St) : Prop := ∀ a, σ a = none \/ φ a = none
noncomputable def FieldsAre (P : Params) : List DictEntry -> List (Str × Value) -> Prop
 | [], [] => True
 | e :: es, f :: fs => ((∃ t, e.key = .str f.1 t) /\ e.hash = PyData.keyHash P f.1 /\ er e.val = f.2) /\ FieldsAre P es fs
 | _, _ => False
noncomputable abbrev Zpb (its : Array Value) (n : Nat) : Obj := { cls := .type "tuple", data := .seq its n }
noncomputable def Ro (C : Addr) : Prop := ∀ P : Params, plainGet (K P) C "" = true /\ findIn (K P) (.ref C) "__setattr__" = some (some (.builtin "object.__setattr__")) /\ plainOver (K P) C = true /\ hasDictIn (K P) C = true
noncomputable def Ke (C : Addr) (x : Str) : Prop := ∀ P : Params, findIn (K P) (.ref C) x = some none
noncomputable def RepO (w : World) (h : Heap) (δ : Addr -> Addr) (a : Addr) : AO -> Prop
 | .lst xs => ∃ its n, h.get? a = some (listOf its n) /\ its.toList.map er = xs
 | .slst xs => ∃ its n, h.get? a = some (listOf its n) /\ its.toList.map er = xs
 | .plst n ys => ∃ its k us, h.get? a = some (listOf its k) /\ us.length = n /\ its.toList.map er = us ++ ys
 | .tup xs => ∃ its n, h.get? a = some (Zpb its n) /\ its.toList.map er = xs
 | .inst C fs => h.get? a = some (instObj C (δ a)) /\ (∃ es n, h.get? (δ a) = some (dictOf es n) /\ FieldsAre w.params es fs) /\ Ro C /\ (∀ f ∈ fs, Ke C f.1) /\ fs.length <= 200
 | .ns m => ∃ m', h.Ns a m' /\ ∀ x, (m' x).map er = m.lookup x
 | .cell v => ∃ o v', h.get? a = some o /\ o.data = .cell v' /\ v'.map er = v
 | .idct n f => ∃ (o : Obj) (es : Array DictEntry) (ep : Nat) (f' : Int -> Option Value), h.get? a = some o /\ o.ExactDict /\ o.data = .dict es ep /\ es.size <= n /\ KeysOf (intKind pw w) es /\ (∀ k, findBy (intKind pw w).is es k = f' k) /\ ∀ k, (f' k).map er = f k
 | .pdct f => ∃ (o : Obj) (es : Array DictEntry) (ep : Nat) (f' : Int -> Option Value), h.get? a = some o /\ o.ExactDict /\ o.data = .dict es ep /\ KeysOf (intKind pw w) es /\ (∀ k, findBy (intKind pw w).is es k = f' k) /\ ∀ k v, f k = some v -> (f' k).map er = some v
 | .raw o => h.get? a = some o
noncomputable def Kv : AO -> Bool
 | .slst _ => true
 | _ => false
noncomputable def Kw : AO -> Bool
 | .inst .. => true
 | _ => false
theorem Ns.getEq {h h' : Heap} {a : Addr} {m : Str -> Option Value} (x : h.Ns a m) (e : h'.get? a = h.get? a) : h'.Ns a m := let ⟨o, es, ep, q, r⟩ := x; ⟨o, es, ep, e.trans q, r⟩
theorem RepO.same {w : World} {h h' : Heap} {δ δ' : Addr -> Addr} {a : Addr} {o : AO} (x : RepO w h δ a o) (e : h'.get? a = h.get? a) (d : Kw o = true -> δ' a = δ a /\ h'.get? (δ a) = h.get? (δ a)) : RepO w h' δ' a o := by
 cases o with
 | lst xs => (refine Zx x ?_; clear x; intro its n ho q); exact Om its n (e.trans ho) q
 | slst xs => (refine Zx x ?_; clear x; intro its n ho q); exact Om its n (e.trans ho) q
 | plst n ys => (refine Hv x ?_; clear x; intro its k us ho q); exact Zem its k us (e.trans ho) q
 | tup xs => (refine Zx x ?_; clear x; intro its n ho q); exact Om its n (e.trans ho) q
 | inst C fs => refine Zg (d rfl) fun d1 d2 => ?_; (refine Xo x ?_; clear x; intro x1 e1e x4; (refine Zx e1e ?_; clear e1e; intro es n x2 x3)); exact Xx (by rw [d1, e, x1]) ⟨es, n, by rw [d1, d2, x2], x3⟩ x4
 | ns m => (refine Zb x ?_; clear x; intro m' x1 x2); exact Zp m' (Ns.getEq x1 e) x2
 | cell v => (refine Zx x ?_; clear x; intro o v' x1 x2); exact Om o v' (e.trans x1) x2
 | idct n f => (refine Rl x ?_; clear x; intro o es ep f' x1 x2); exact Zeo o es ep f' (e.trans x1) x2
 | pdct f => (refine Rl x ?_; clear x; intro o es ep f' x1 x2); exact Zeo o es ep f' (e.trans x1) x2
 | raw o => exact e.trans x
theorem RepO.there {w : World} {h : Heap} {δ : Addr -> Addr} {a : Addr} {o : AO} (x : RepO w h δ a o) : ∃ ob, h.get? a = some ob := by
 cases o with
 | lst xs => (refine Zx x ?_; clear x; intro its n ho q); exact ⟨_, ho⟩
 | slst xs => (refine Zx x ?_; clear x; intro its n ho q); exact ⟨_, ho⟩
 | plst n ys => (refine Hv x ?_; clear x; intro its k us ho q); exact ⟨_, ho⟩
 | tup xs => (refine Zx x ?_; clear x; intro its n ho q); exact ⟨_, ho⟩
 | inst C fs => exact ⟨_, x.1⟩
 | ns m => (refine Zb x ?_; clear x; intro m' e1e x2; (refine Hv e1e ?_; clear e1e; intro o es ep q r)); exact ⟨_, q⟩
 | cell v => (refine Zx x ?_; clear x; intro o v' x1 x2); exact ⟨_, x1⟩
 | idct n f => (refine Rl x ?_; clear x; intro o es ep f' x1 x2); exact ⟨_, x1⟩
 | pdct f => (refine Rl x ?_; clear x; intro o es ep f' x1 x2); exact ⟨_, x1⟩
 | raw o => exact ⟨_, x⟩
theorem RepO.dthere {w : World} {h : Heap} {δ : Addr -> Addr} {a C : Addr} {fs} (x : RepO w h δ a (.inst C fs)) : ∃ ob, h.get? (δ a) = some ob := by
 (refine Xo x ?_; clear x; intro _ e1e _; (refine Zx e1e ?_; clear e1e; intro es n x2 _)); exact ⟨_, x2⟩
structure RepH (w : World) (n₀ : Nat) (h : Heap) (δ : Addr -> Addr) (σ : St) : Prop where
 at_ : ∀ a o, σ a = some o -> (Kv o = false -> n₀ <= a) /\ RepO w h δ a o
 own : ∀ a C fs, σ a = some (.inst C fs) -> n₀ <= δ a /\ σ (δ a) = none
 inj : ∀ a C fs b C' fs', σ a = some (.inst C fs) -> σ b = some (.inst C' fs') -> δ a = δ b -> a = b
structure Bgd where
 w : World
 h₀ : Heap
 os : OsState
 mb : Str -> Option Value
structure Bgd.Ok (B : Bgd) : Prop where
 k : (K B.w.params).In B.h₀
 code : ∀ x ∈ codes, B.h₀.CodeRec (.ref x.1) x.2
 b : B.h₀.Ns builtinsNs B.mb
 nolimit : B.h₀.NoLimit
 digits : B.h₀.NoDigits
 boot : ∀ x : Str, x ≠ "__name__" -> B.mb x = bootBuiltins x
structure Rep (B : Bgd) (σ : St) (s : Shared) : Prop where
 keep : ∀ b o, B.h₀.get? b = some o -> s.heap.get? b = some o
 size : B.h₀.objs.size <= s.heap.objs.size
 gens : s.gens = #[]
 os : s.os = B.os
 objs : ∃ δ, RepH B.w B.h₀.objs.size s.heap δ σ
section
variable {B : Bgd} {σ τ φ : St} {s : Shared} {a b : Addr} {o o' : AO}
theorem Rep.sub (h : Rep B τ s) (q : Sub σ τ) : Rep B σ s := by
 obtain ⟨h1, h2, h3, h4, δ, k1, k2, k3⟩ := h
 refine ⟨h1, h2, h3, h4, δ, fun a o e => k1 a o (q a o e), fun a C fs e => ⟨(k2 a C fs (q _ _ e)).1, ?_⟩, fun a C fs b C' fs' e e' => k3 a C fs b C' fs' (q _ _ e) (q _ _ e')⟩
 cases z : σ (δ a) with
 | none => rfl
 | some o => have := q _ _ z; rw [(k2 a C fs (q _ _ e)).2] at this; exact Zk this
theorem Rep.lt (h : Rep B σ s) (e : σ a = some o) : a < s.heap.objs.size := by
 obtain ⟨_, _, _, _, δ, k1, _⟩ := h
 refine Xg ((k1 a o e).2.there) fun ob q => ?_
 exact Heap.lt_size q
theorem Rep.size_none (h : Rep B σ s) : σ s.heap.objs.size = none := by
 cases z : σ s.heap.objs.size with
 | none => rfl
 | some o => exact absurd (h.lt z) (Nat.lt_irrefl _)
theorem Rep.toks (h : Rep B σ s) (t : Nat) : Rep B σ { s with toks := t } := ⟨h.keep, h.size, h.gens, h.os, h.objs⟩
theorem Kf {n : Nat} {h₀ : Heap} (e : h₀.objs.size <= n) : h₀.get? n = none := by
 cases z : h₀.get? n with
 | none => rfl
 | some o => exact absurd (Heap.lt_size z) (Nat.not_lt.mpr e)
theorem Rep.set {h' : Heap} {t : Nat} (h : Rep B σ s) (e : σ a = some o) (hs : Kv o = false) (hi : Kw o = false) (hi' : Kw o' = false) (hb : Heap.SameBut a s.heap h')
   (ho : ∀ δ, RepO B.w s.heap δ a o -> RepO B.w h' δ a o') : Rep B (upd σ a o') { s with heap := h', toks := t } := by
 obtain ⟨h1, h2, h3, h4, δ, k1, k2, k3⟩ := h
 have ha := (k1 a o e).1 hs
 have ne : ∀ b C fs, σ b = some (.inst C fs) -> b ≠ a := fun b C fs q z => by subst z; rw [e] at q; (replace q := sI q; subst q); exact Xf hi
 have de : ∀ b C fs, σ b = some (.inst C fs) -> δ b ≠ a := fun b C fs q z => by have := (k2 b C fs q).2; rw [z, e] at this; exact Wh this
 have un : ∀ b C fs, upd σ a o' b = some (.inst C fs) -> σ b = some (.inst C fs) := fun b C fs q => by
   by_cases z : b = a
   · subst z; rw [Yz] at q; (replace q := sI q; subst q); exact Xf hi'
   · rwa [Zz z] at q
 refine ⟨fun b ob q => (hb.2 b (fun z => ?_)).trans (h1 b ob q), hb.1 ▸ h2, h3, h4, δ, fun b ob q => ?_, fun b C fs q => ⟨(k2 b C fs (un _ _ _ q)).1, ?_⟩, fun b C fs b' C' fs' q q' => k3 b C fs b' C' fs' (un _ _ _ q) (un _ _ _ q')⟩
 · subst z; rw [Kf ha] at q; exact Zk q
 · by_cases z : b = a
   · subst z; rw [Yz] at q; (replace q := sI q; subst q); exact ⟨fun _ => ha, ho δ (k1 b o e).2⟩
   · rw [Zz z] at q
     refine ⟨(k1 b ob q).1, (k1 b ob q).2.same (hb.2 b z) fun y => ⟨rfl, ?_⟩⟩
     cases ob with
     | inst C fs => exact hb.2 _ (de b C fs q)
     | _ => exact Yb y
 · rw [Zz (de b C fs (un _ _ _ q))]; exact (k2 b C fs (un _ _ _ q)).2
theorem Rep.setInst {h' : Heap} {t : Nat} {C : Addr} {fs fs' : List (Str × Value)} (h : Rep B σ s) (e : σ a = some (.inst C fs)) (hf : (∀ f ∈ fs, Ke C f.1) -> ∀ f ∈ fs', Ke C f.1) (hl : fs'.length <= 200)
   (k : ∀ d es n, s.heap.get? a = some (instObj C d) -> s.heap.get? d = some (dictOf es n) -> FieldsAre B.w.params es fs -> a ≠ d -> Heap.SameBut d s.heap h' /\ ∃ es' n', h'.get? d = some (dictOf es' n') /\ FieldsAre B.w.params es' fs') :
   Rep B (upd σ a (.inst C fs')) { s with heap := h', toks := t } := by
 obtain ⟨h1, h2, h3, h4, δ, k1, k2, k3⟩ := h
 (refine Vt ((k1 a _ e).2) fun q1 e1e q4 q5 q6 => ?_; (refine Zx e1e ?_; clear e1e; intro es n q2 q3))
 refine Zg (k2 a C fs e) fun kd kn => ?_
 have had : a ≠ δ a := fun z => by rw [<- z, e] at kn; exact Wh kn
 obtain ⟨hb, es', n', r1, r2⟩ := k _ es n q1 q2 q3 had
 have un : ∀ b C' g, upd σ a (.inst C fs') b = some (.inst C' g) -> ∃ C'' g', σ b = some (.inst C'' g') := fun b C' g q => by
   by_cases z : b = a
   · subst z; exact Hx _ _ e
   · rw [Zz z] at q; exact Hx _ _ q
 refine ⟨fun b ob q => (hb.2 b (fun z => ?_)).trans (h1 b ob q), hb.1 ▸ h2, h3, h4, δ, fun b ob q => ?_, fun b C' g q => ?_, fun b C' g b' C'' g' q q' => ?_⟩
 · rw [z, Kf kd] at q; exact Zk q
 · by_cases z : b = a
   · subst z; rw [Yz] at q; (replace q := sI q; subst q)
     exact Zen (fun _ => (k1 b _ e).1 rfl) ((hb.2 b had).trans q1) ⟨es', n', r1, r2⟩ q4 (hf q5) hl
   · rw [Zz z] at q
     have bd : b ≠ δ a := fun y => by rw [y, kn] at q; exact Zk q
     refine ⟨(k1 b ob q).1, (k1 b ob q).2.same (hb.2 b bd) fun y => ⟨rfl, ?_⟩⟩
     cases ob with
     | inst C' g => exact hb.2 _ fun y => z (k3 _ _ _ _ _ _ q e y)
     | _ => exact Yb y
 · refine Ks (un b C' g q) fun C'' g' q' => ?_
   refine ⟨(k2 b C'' g' q').1, ?_⟩
   rw [Zz fun y => ?_]
   · exact (k2 b C'' g' q').2
   · have := (k2 b C'' g' q').2; rw [y, e] at this; exact Wh this
 · refine Ks (un b C' g q) fun _ _ p => ?_
   refine Ks (un b' C'' g' q') fun _ _ p' => ?_
   exact k3 _ _ _ _ _ _ p p'
theorem Gb {h : Heap} {o : Obj} {b : Addr} (hb : b < h.objs.size) : (h.push o).get? b = h.get? b := by
 cases h with
 | mk objs l =>
  show Heap.get? ⟨objs.push o, l⟩ b = _
  unfold Heap.get?
  have : (objs.push o)[b]? = objs[b]? := Array.getElem?_push_lt hb ▸ (Array.getElem?_eq_getElem hb).symm
  dsimp only
  rw [this]
theorem Rep.pushAny (h : Rep B σ s) (ob : Obj) (t : Nat) : Rep B σ { s with heap := s.heap.push ob, toks := t } := by
 obtain ⟨h1, h2, h3, h4, δ, k1, k2, k3⟩ := h
 refine ⟨fun b o q => Heap.get?_push_of_some _ (h1 b o q), by rw [Heap.size_push]; exact Nat.le_succ_of_le (by assumption), h3, h4, δ, fun b o q => ⟨(k1 b o q).1, ?_⟩, k2, k3⟩
 have r := (k1 b o q).2
 refine r.same (Gb (Heap.lt_size r.there.choose_spec)) fun y => ⟨rfl, ?_⟩
 cases o with
 | inst C fs => exact Gb (Heap.lt_size r.dthere.choose_spec)
 | _ => exact Yb y
theorem Rep.push (h : Rep B σ s) {ob : Obj} {t : Nat} (hi : Kw o = false) (ho : ∀ δ, RepO B.w (s.heap.push ob) δ s.heap.objs.size o) : Rep B (upd σ s.heap.objs.size o) { s with heap := s.heap.push ob, toks := t } := by
 have hn := h.size_none
 have hz := h.size
 obtain ⟨h1, h2, h3, h4, δ, k1, k2, k3⟩ := h.pushAny ob t
 have un : ∀ b C fs, upd σ s.heap.objs.size o b = some (.inst C fs) -> σ b = some (.inst C fs) := fun b C fs q => by
   by_cases z : b = s.heap.objs.size
   · subst z; rw [Yz] at q; (replace q := sI q; subst q); exact Xf hi
   · rwa [Zz z] at q
 obtain ⟨h1', h2', h3', h4', δ', k1', k2', k3'⟩ := h
 refine ⟨h1, h2, h3, h4, δ', fun b ob' q => ?_, fun b C fs q => ⟨(k2' b C fs (un _ _ _ q)).1, ?_⟩, fun b C fs b' C' fs' q q' => k3' b C fs b' C' fs' (un _ _ _ q) (un _ _ _ q')⟩
 · by_cases z : b = s.heap.objs.size
   · subst z; rw [Yz] at q; (replace q := sI q; subst q); exact ⟨fun _ => hz, ho δ'⟩
   · rw [Zz z] at q
     have r := (k1' b ob' q).2
     refine ⟨(k1' b ob' q).1, r.same (Gb (Heap.lt_size r.there.choose_spec)) fun y => ⟨rfl, ?_⟩⟩
     cases ob' with
     | inst C fs => exact Gb (Heap.lt_size r.dthere.choose_spec)
     | _ => exact Yb y
 · have r := (k1' b _ (un _ _ _ q)).2
   rw [Zz (Nat.ne_of_lt (Heap.lt_size r.dthere.choose_spec))]
   exact (k2' b C fs (un _ _ _ q)).2
theorem Rep.pushInst (h : Rep B σ s) {C : Addr} {t : Nat} (hC : Ro C) : Rep B (upd σ (s.heap.objs.size + 1) (.inst C [])) { s with heap := (s.heap.push emptyDict).push (instObj C s.heap.objs.size), toks := t } := by
 have hz := h.size
 have h0 := (h.pushAny emptyDict t).pushAny (instObj C s.heap.objs.size) t
 obtain ⟨h1', h2', h3', h4', δ, k1, k2, k3⟩ := h
 have lt : ∀ b o, σ b = some o -> b < s.heap.objs.size := fun b o q => Heap.lt_size (k1 b o q).2.there.choose_spec
 have dlt : ∀ b C fs, σ b = some (.inst C fs) -> δ b < s.heap.objs.size := fun b C fs q => Heap.lt_size (k1 b _ q).2.dthere.choose_spec
 let δ' : Addr -> Addr := fun b => if b = s.heap.objs.size + 1 then s.heap.objs.size else δ b
 have d1 : δ' (s.heap.objs.size + 1) = s.heap.objs.size := if_pos rfl
 have d2 : ∀ b, b < s.heap.objs.size -> δ' b = δ b := fun b q => if_neg (Nat.ne_of_lt (Nat.lt_succ_of_lt q))
 have hget : ((s.heap.push emptyDict).push (instObj C s.heap.objs.size)).get? (s.heap.objs.size + 1) = some (instObj C s.heap.objs.size) := by
   have := Heap.get?_push_size (s.heap.push emptyDict) (o := instObj C s.heap.objs.size) rfl
   rwa [Heap.size_push] at this
 have hdict : ((s.heap.push emptyDict).push (instObj C s.heap.objs.size)).get? s.heap.objs.size = some emptyDict := Heap.get?_push_of_some _ (Heap.get?_push_size _ rfl)
 have pn : ∀ b, b < s.heap.objs.size -> ((s.heap.push emptyDict).push (instObj C s.heap.objs.size)).get? b = s.heap.get? b := fun b q => by
   rw [Gb (by rw [Heap.size_push]; exact Nat.lt_succ_of_lt q), Gb q]
 refine ⟨h0.keep, h0.size, h0.gens, h0.os, δ', fun b ob q => ?_, fun b C' fs q => ?_, fun b C' fs b' C'' fs' q q' => ?_⟩
 · by_cases z : b = s.heap.objs.size + 1
   · subst z; rw [Yz] at q; (replace q := sI q; subst q)
     refine Zen (fun _ => Nat.le_succ_of_le hz) (by rw [d1]; exact hget) ⟨[], 0, by rw [d1]; exact hdict, trivial⟩ hC (fun _ q => (nomatch q)) (Nat.zero_le _)
   · rw [Zz z] at q
     have l := lt b ob q
     refine ⟨(k1 b ob q).1, (k1 b ob q).2.same (pn b l) fun y => ⟨d2 b l, ?_⟩⟩
     cases ob with
     | inst C fs => exact pn _ (dlt _ _ _ q)
     | _ => exact Yb y
 · by_cases z : b = s.heap.objs.size + 1
   · subst z
     rw [d1]
     refine ⟨hz, ?_⟩
     rw [Zz (Nat.ne_of_lt (Nat.lt_succ_self _))]
     cases y : σ s.heap.objs.size with
     | none => rfl
     | some o => exact absurd (lt _ _ y) (Nat.lt_irrefl _)
   · rw [Zz z] at q
     rw [d2 b (lt _ _ q)]
     refine ⟨(k2 b _ _ q).1, ?_⟩
     have := dlt _ _ _ q
     rw [Zz (Nat.ne_of_lt (Nat.lt_succ_of_lt this))]
     exact (k2 b _ _ q).2
 · by_cases z : b = s.heap.objs.size + 1
   · by_cases z' : b' = s.heap.objs.size + 1
     · intro _; rw [z, z']
     · rw [Zz z'] at q'
       intro y
       rw [z, d1, d2 b' (lt _ _ q')] at y
       exact absurd (dlt _ _ _ q') (y ▸ Nat.lt_irrefl _)
   · rw [Zz z] at q
     by_cases z' : b' = s.heap.objs.size + 1
     · intro y
       rw [z', d1, d2 b (lt _ _ q)] at y
       exact absurd (dlt _ _ _ q) (y ▸ Nat.lt_irrefl _)
     · rw [Zz z'] at q'
       intro y
       rw [d2 b (lt _ _ q), d2 b' (lt _ _ q')] at y
       exact k3 _ _ _ _ _ _ q q' y
theorem Zn (h : σ a = some o) : Un σ φ a = some o := by unfold Un; rw [h]; rfl
theorem Up (d : Dis σ φ) (h : φ a = some o) : Un σ φ a = some o := by
 unfold Un
 rcases d a with e | e
 · rw [e, h]; rfl
 · rw [e] at h; exact Zk h
theorem Xz (σ φ : St) (a : Addr) (o : AO) : upd (Un σ φ) a o = Un (upd σ a o) φ := by
 funext b
 unfold upd Un
 by_cases z : b = a
 · simp [z]
 · simp [z]
theorem Dis.upd_some (d : Dis σ φ) (h : σ a = some o) (o' : AO) : Dis (upd σ a o') φ := fun b => by
 by_cases z : b = a
 · subst z
   rcases d b with e | e
   · rw [h] at e; exact Wh e
   · exact .inr e
 · rw [Zz z]; exact d b
theorem Dis.upd_new (d : Dis σ φ) (h : Un σ φ a = none) (o' : AO) : Dis (upd σ a o') φ := fun b => by
 by_cases z : b = a
 · subst z
   refine .inr ?_
   unfold Un at h
   cases e : σ b with
   | some o => rw [e] at h; exact Wh h
   | none => rw [e] at h; exact h
 · rw [Zz z]; exact d b
theorem Ye (h : Un σ φ a = none) : σ a = none := by
 unfold Un at h
 cases e : σ a with
 | some o => rw [e] at h; exact Wh h
 | none => rfl
theorem Dis.sub (d : Dis τ φ) (q : Sub σ τ) : Dis σ φ := fun b => by
 rcases d b with e | e
 · refine .inl ?_
   cases z : σ b with
   | none => rfl
   | some o => rw [q b o z] at e; exact Wh e
 · exact .inr e
theorem Sub.un (q : Sub σ τ) (d : Dis τ φ) : Sub (Un σ φ) (Un τ φ) := fun b o e => by
 unfold Un at e ⊢
 cases z : σ b with
 | some o' => rw [z] at e; (replace e := sI e; subst e); rw [q _ _ z]; rfl
 | none =>
   rw [z] at e
   cases y : τ b with
   | none => exact e
   | some o' => rcases d b with e' | e'
                · rw [y] at e'; exact Wh e'
                · rw [e'] at e; exact Zk e
end
end Mine
end
noncomputable section
namespace Mine
noncomputable def HOK (A : Around) (φ : St) : Prop := A.handled = none \/ ∃ e o vs, A.handled = some (.ref e) /\ φ e = some (.raw o) /\ o.data = .fields vs /\ vs[2]? = some .none
theorem HOK.un {A : Around} {ψ φ : St} (h : HOK A φ) (d : Dis ψ φ) : HOK A (Un ψ φ) := h.elim .inl fun ⟨e, o, vs, h1, h2, h3⟩ => .inr ⟨e, o, vs, h1, Up d h2, h3⟩
inductive PA {β : Type} (B : Bgd) (φ : St) (Q : β -> St -> Prop) (b : β) (s : Shared) : Prop
 | mk (σ : St) (d : Dis σ φ) (r : Rep B (Un σ φ) s) (q : Q b σ) : PA B φ Q b s
noncomputable def wA {α β : Type} (B : Bgd) (A : Around) (e : α -> β) (t : Sem α) (Q : β -> St -> Prop) (E : Value -> Shared -> Prop) (σ : St) : Prop :=
 ∀ φ, Dis σ φ -> HOK A φ -> ∀ s, Rep B (Un σ φ) s -> wpAny (model pw B.w) A t (fun v s' => PA B φ Q (e v) s') E s
inductive PJ {β : Type} (ψ : St) (Q : β -> St -> Prop) (b : β) (τ : St) : Prop
 | mk (σ : St) (d : Dis σ ψ) (e : τ = Un σ ψ) (q : Q b σ) : PJ ψ Q b τ
theorem Xc {β : Type} {B : Bgd} {φ ψ : St} {Q : β -> St -> Prop} {b : β} {s : Shared} {C : Prop} (h : PA B φ (PJ ψ Q) b s) (k : ∀ σ, Dis σ ψ -> Dis (Un σ ψ) φ -> Rep B (Un (Un σ ψ) φ) s -> Q b σ -> C) : C := by
 obtain ⟨τ, d, r, σ, hL, rfl, q⟩ := h
 exact k σ hL d r q
structure Room (A : Around) (k : Nat) : Prop where
 depth : A.depth + k <= 900
 units : A.units + 10 * k <= 9000
theorem Room.lim {A : Around} {k : Nat} (h : Room A k) : A.depth < recursionLimit := by have := h.depth; unfold recursionLimit; omega
theorem Room.line {A : Around} {k : Nat} (h : Room A k) : A.units + 100 < cLine := by have := h.units; unfold cLine; omega
theorem Room.deeper {A : Around} {k : Nat} (h : Room A (k + 1)) (env : Env) : Room (A.deeper env) k := ⟨by have := h.depth; show A.depth + 1 + k <= 900; exact gl (L1 (N2 _ _) V0 1 (.a nA (.a nB kI)) (.k 900) (nl this) (.a (.a nA kI) nB) (.k 900) rfl), by have := h.units; show A.units + 3 + 10 * k <= 9000; exact gl (nc fun zz => L2 (N2 _ _) V0 1 (.a nA (.m 10 (.a nB kI))) (.k 9000) (nl this) 1 (.a (.k 9000) kI) (.a (.a nA (.k 3)) (.m 10 nB)) zz kI kZ rfl)⟩
theorem Room.le {A : Around} {k j : Nat} (h : Room A k) (q : j <= k) : Room A j := ⟨by have := h.depth; omega, by have := h.units; omega⟩
theorem Room.made {A : Around} {k : Nat} (h : Room A (k + 1)) {C : Addr} {rest : List Value} {kw : List (Str × Value)} : Room (A.under (.builtin "type.__call__" ⟨.ref C :: rest, kw⟩)) k := by
 have hd := h.depth
 have hu := h.units
 have w1 : (Code.builtin "type.__call__" ⟨.ref C :: rest, kw⟩).weight = 1 := by simp [Code.weight, Code.frames, Code.isFrame, Code.isCreation, Code.isGuard, guardIds, Code.isCaller]
 have w2 : (Code.builtin "type.__call__" ⟨.ref C :: rest, kw⟩).cUnits = 1 := by simp [Code.cUnits, Code.frames, Code.isFrame]
 refine ⟨?_, ?_⟩
 · show A.depth + (Code.builtin "type.__call__" ⟨.ref C :: rest, kw⟩).weight + k <= 900
   rw [w1]; exact gl (L1 (N2 _ _) V0 1 (.a nA (.a nB kI)) (.k 900) (nl hd) (.a (.a nA kI) nB) (.k 900) rfl)
 · show A.units + (Code.builtin "type.__call__" ⟨.ref C :: rest, kw⟩).cUnits + 10 * k <= 9000
   rw [w2]; exact gl (nc fun zz => L2 (N2 _ _) V0 1 (.a nA (.m 10 (.a nB kI))) (.k 9000) (nl hu) 1 (.a (.k 9000) kI) (.a (.a nA kI) (.m 10 nB)) zz kI kZ rfl)
section
variable {α β γ δ : Type} {B : Bgd} {A : Around} {E : Value -> Shared -> Prop} {σ : St} {env : Env}
theorem Kx {e : α -> β} {t : Sem α} {Q Q' : β -> St -> Prop} (h : wA B A e t Q E σ) (q : ∀ b σ', Q b σ' -> Q' b σ') : wA B A e t Q' E σ := fun φ d u s r =>
 wpAny_mono (h φ d u s r) (fun _ _ ⟨σ', a, b, c⟩ => ⟨σ', a, b, q _ _ c⟩) fun _ _ x => x
theorem Zez {e : α -> β} {a : α} {Q : β -> St -> Prop} (h : Q (e a) σ) : wA B A e (pure a) Q E σ := fun φ d u s r => wpAny_pure ⟨σ, d, r, h⟩
theorem Rp {e : α -> β} {e' : γ -> δ} {m : Sem α} {f : α -> Sem γ} {Q : δ -> St -> Prop} (h : wA B A e m (fun b σ' => ∀ a, e a = b -> wA B A e' (f a) Q E σ') E σ) : wA B A e' (m >>= f) Q E σ := fun φ d u s r =>
 wpAny_bind (wpAny_mono (h φ d u s r) (fun a s' ⟨σ', x, y, z⟩ => z a rfl φ x u s' y) fun _ _ x => x)
theorem Zbn {e : α -> β} {vs : List Value} {m : Sem α} {Q : β -> St -> Prop} (h : wA B A e m Q E σ) : wA B A e (holding vs m) Q E σ := fun φ d u s r => wpAny_holding (h φ d u s r)
theorem Zpc {e : Unit -> β} {p : Pos} {Q : β -> St -> Prop} (h : Q (e ()) σ) : wA B A e (standAt p) Q E σ := fun φ d u s r => wpAny_standAt ⟨σ, d, r, h⟩
theorem Zfa {e : Unit -> β} {Q : β -> St -> Prop} (h : Q (e ()) σ) : wA B A e point Q E σ := fun φ d u s r => wpAny_point ⟨σ, d, r, h⟩
theorem Zfb {e : Unit -> β} {vs keep : List Value} {Q : β -> St -> Prop} (h : Q (e ()) σ) : wA B A e (release vs keep) Q E σ := fun φ d u s r => wpAny_release' ⟨σ, d, r, h⟩
theorem Zpd {e : Value -> β} {vs : List Value} {m : Sem Value} {Q : β -> St -> Prop} (h : wA B A e m Q E σ) : wA B A e (operate vs m) Q E σ := fun φ d u s r => wpAny_operate' (h φ d u s r)
theorem Zfc {e : α -> β} {t : Sem α} {Q : β -> St -> Prop} {τ : St} (q : Sub σ τ) (h : wA B A e t Q E σ) : wA B A e t Q E τ := fun φ d u s r =>
 h φ (d.sub q) u s (r.sub (q.un d))
theorem Zpe {e : α -> β} {t : Sem α} {Q : β -> St -> Prop} (h : wA B A e t (fun b τ => ∃ σ', Sub σ' τ /\ Q b σ') E σ) : wA B A e t Q E σ := fun φ d u s r =>
 wpAny_mono (h φ d u s r) (fun _ _ ⟨_, a, b, σ', q, c⟩ => ⟨σ', a.sub q, b.sub (q.un a), c⟩) fun _ _ x => x
theorem Ta (σ ψ φ : St) : Un (Un σ ψ) φ = Un σ (Un ψ φ) := by
 funext a
 unfold Un
 cases σ a <;> rfl
theorem Dis.un {σ ψ φ : St} (a : Dis σ ψ) (d : Dis (Un σ ψ) φ) : Dis σ (Un ψ φ) /\ Dis ψ φ := by
 refine ⟨fun b => ?_, fun b => ?_⟩
 · rcases d b with e | e
   · exact .inl (Ye e)
   · rcases a b with q | q
     · exact .inl q
     · refine .inr ?_; unfold Un; rw [q, e]; rfl
 · rcases d b with e | e
   · refine .inl ?_
     unfold Un at e
     cases q : σ b with
     | some o => rw [q] at e; exact Wh e
     | none => rw [q] at e; exact e
   · exact .inr e
theorem Dis.join {σ ψ φ : St} (a : Dis σ (Un ψ φ)) (b : Dis ψ φ) : Dis σ ψ /\ Dis (Un σ ψ) φ := by
 refine ⟨fun c => ?_, fun c => ?_⟩
 · rcases a c with e | e
   · exact .inl e
   · exact .inr (Ye e)
 · rcases b c with e | e
   · rcases a c with q | q
     · refine .inl ?_; unfold Un; rw [q, e]; rfl
     · right
       unfold Un at q
       rw [e] at q; exact q
   · exact .inr e
theorem Zpf {e : α -> β} {t : Sem α} {Q : β -> St -> Prop} {ψ : St} (a : Dis σ ψ) (h : wA B A e t Q E σ) : wA B A e t (PJ ψ Q) E (Un σ ψ) := fun φ d u s r => by
 refine Zg (a.un d) fun d1 d2 => ?_
 rw [Ta] at r
 exact wpAny_mono (h _ d1 (u.un d2) s r) (fun v s' ⟨σ', x, y, z⟩ => ⟨Un σ' ψ, (Dis.join x d2).2, by rw [Ta]; exact y, σ', (Dis.join x d2).1, rfl, z⟩) fun _ _ x => x
theorem On {e : α -> β} {t : Sem α} {Q : β -> St -> Prop} (h : ∀ s, s.gens = #[] -> ∀ R : α -> Shared -> Prop, (∀ tk a, Q (e a) σ -> R a { s with toks := tk }) -> wpAny (model pw B.w) A t R E s) : wA B A e t Q E σ := fun φ d u s r =>
 h s r.gens _ fun tk _ q => ⟨σ, d, r.toks tk, q⟩
noncomputable def Zbo : Const -> Option Value
 | .none => some .none
 | .bool b => some (.bool b)
 | .int i => some (I i)
 | .str s => some (S s)
 | _ => none
theorem Zpg {c : Const} {k : Nat} {p : Pos} {v : Value} {Q : Value -> St -> Prop} (hc : Zbo c = some v) (h : Q v σ) : wA B A er (eval (.Constant c k p) env) Q E σ := by
 cases c <;> simp only [Zbo, Option.some.injEq, reduceCtorEq] at hc <;> subst hc
 · exact fun φ d u s r => Constant_none ⟨σ, d, r, h⟩
 · exact fun φ d u s r => Constant_bool ⟨σ, d, r, h⟩
 · exact fun φ d u s r => wpAny_mkInt ⟨σ, d, r.toks _, h⟩
 · exact fun φ d u s r => wpAny_mkText ⟨σ, d, r.toks _, h⟩
structure FnEnv (env : Env) : Prop where
 kind : env.scope.kind = .function
 globals : env.globals = mainGlobals
 builtins : env.builtins = builtinsNs
theorem Rep.ns {σ : St} {s : Shared} {a : Addr} {m : List (Str × Value)} (h : Rep B σ s) (e : σ a = some (.ns m)) : ∃ m', s.heap.Ns a m' /\ ∀ x, (m' x).map er = m.lookup x := by
 obtain ⟨_, _, _, _, δ, k1, _⟩ := h
 exact (k1 a _ e).2
theorem Tb {o : Option Value} {v : Value} (h : o.map er = some v) : ∃ u, o = some u /\ er u = v := by
 cases o with
 | none => exact Zk h
 | some u => exact Zp u rfl (Option.some.inj h)
theorem Zph {x : Str} {m : List (Str × Value)} {v : Value} {Q : Value -> St -> Prop} (F : FnEnv env) (hk : env.kindOf x = some .local) (hm : σ env.locals = some (.ns m)) (hv : m.lookup x = some v) (h : Q v σ) :
  wA B A er (loadName env x) Q E σ := fun φ d u s r => by
 refine Zb (r.ns (Zn hm)) fun m' n q => ?_
 (refine Zb (Tb ((q x).trans hv)) ?_; rintro u hu rfl)
 exact wpAny_loadName_local F.kind hk n hu ⟨σ, d, r, h⟩
theorem Zbp {x : Str} {p : Pos} {Q : Value -> St -> Prop} (hd : (x == ("__debug__" : Str)) = false) (h : wA B A er (loadName env x) Q E σ) : wA B A er (eval (.Name x p) env) Q E σ := fun φ d u s r => wpAny_Name (h φ d u s r) hd
noncomputable def Ky (x : Str) (v : Value) : Prop := (∀ P : Params, ∃ u, nsIn (K P) mainGlobals x = some (some u) /\ er u = v) \/ ((∀ P : Params, nsIn (K P) mainGlobals x = some none) /\ bootBuiltins x = some v /\ er v = v /\ x ≠ "__name__")
theorem Zfd {es : Array DictEntry} (h : (es.toList.all fun e => match e.key with | .str .. => true | _ => false) = true) : StrKeys es := fun e he => by
 have := List.all_eq_true.mp h e (Array.mem_toList_iff.mpr he)
 cases q : e.key <;> rw [q] at this <;> first | exact Hx _ _ rfl | exact Yb this
theorem Zpi (P : Params) : ∃ c es n, (K P).lookup mainGlobals = some ⟨c, none, .dict es n, #[]⟩ /\ StrKeys es := ⟨_, _, _, rfl, Zfd rfl⟩
theorem Zfe {P : Params} {h : Heap} (X : (K P).In h) : ∃ mg, h.Ns mainGlobals mg /\ (∀ x v, nsIn (K P) mainGlobals x = some (some v) -> mg x = some v) /\ ∀ x, nsIn (K P) mainGlobals x = some none -> mg x = none := by
 refine Hv (Zpi P) fun c es n e ks => ?_
 have N : h.Ns mainGlobals (nsFind es) := ⟨_, es, n, X _ _ e, rfl, ks, fun _ => rfl⟩
 exact Yi _ N (fun x v q => mg_of X N q) (fun x q => mg_none_of X N q)
theorem Zpj {x : Str} {v : Value} {Q : Value -> St -> Prop} (O : B.Ok) (F : FnEnv env) (hk : env.kindOf x = some .globalImplicit) (g : Ky x v) (h : Q v σ) : wA B A er (loadName env x) Q E σ := fun φ d u s r => by
 refine Yg (Zfe (O.k.keeps r.keep)) fun mg N n1 n2 => ?_
 have e : loadName env x = loadGlobal env x := by
   unfold loadName
   simp only [Env.blockKind, F.kind, hk, ScopeKind.isAnnotationScope, Bool.false_and, Bool.false_eq_true, if_false]
 rw [e]
 rcases g with g | ⟨g1, g2, g3, g4⟩
 · (refine Zb (g B.w.params) ?_; rintro u q rfl)
   exact loadGlobal_global (F.globals ▸ N) (n1 x u q) ⟨σ, d, r, h⟩
 · refine loadGlobal_builtin (F.globals ▸ N) (n2 x (g1 _)) (F.builtins ▸ O.b.keeps r.keep) ((O.boot x g4).trans g2) ⟨σ, d, r, ?_⟩
   rw [g3]; exact h
noncomputable def Ym (x : Str) (v : Value) : List (Str × Value) -> List (Str × Value)
 | [] => [(x, v)]
 | p :: r => if p.1 = x then (x, v) :: r else p :: Ym x v r
theorem Tc (x : Str) (v : Value) : ∀ (m : List (Str × Value)) (y : Str), (Ym x v m).lookup y = if y = x then some v else m.lookup y
 | [], y => by
   by_cases h : y = x
   · subst h; simp [Ym]
   · simp [Ym, h, List.lookup_cons, beq_eq_false_iff_ne.mpr h]
 | p :: r, y => by
   obtain ⟨k, u⟩ := p
   unfold Ym
   by_cases hk : k = x
   · subst hk
     simp only [if_true]
     by_cases h : y = k
     · subst h; simp
     · simp [List.lookup_cons, beq_eq_false_iff_ne.mpr h, h]
   · simp only [hk, if_false]
     by_cases h : y = k
     · subst h; simp [hk]
     · simp only [List.lookup_cons, beq_eq_false_iff_ne.mpr h]; exact Tc x v r y
theorem Zpk {x : Str} {m : List (Str × Value)} {v : Value} {Q : Unit -> St -> Prop} (F : FnEnv env) (hk : env.kindOf x = some .local) (hm : σ env.locals = some (.ns m)) (h : Q () (upd σ env.locals (.ns (Ym x (er v) m)))) :
   wA B A id (storeName env x v) Q E σ := fun φ d u s r => by
 refine Zb (r.ns (Zn hm)) fun m' n q => ?_
 refine wpAny_storeName_local hk n (fun h' n' hs => ⟨_, d.upd_some hm _, ?_, h⟩) (by rw [F.kind]; rfl)
 rw [<- Xz]
 refine r.set (Zn hm) rfl rfl rfl hs fun δ _ => ⟨_, n', fun y => ?_⟩
 rw [Tc]
 by_cases z : y = x
 · simp [z]
 · simp only [z, if_false]; exact q y
theorem Zpl {x : Str} {v : Value} {Q : Unit -> St -> Prop} (h : wA B A id (storeName env x v) Q E σ) : wA B A id (bindName env x v) Q E σ := by
 unfold bindName
 exact Rp (e := id) (Zbn (Zfa fun _ _ => Rp (e := id) (Kx h fun _ _ q _ _ => Zfa q)))
end
end Mine
end
noncomputable section
namespace Mine
section
variable {P : Params}
theorem FieldsAre.length : ∀ {es : List DictEntry} {fs : List (Str × Value)}, FieldsAre P es fs -> es.length = fs.length
 | [], [], _ => rfl
 | _ :: _, _ :: _, h => congrArg Nat.succ (FieldsAre.length h.2)
theorem FieldsAre.get {x : Str} : ∀ {es : List DictEntry} {fs : List (Str × Value)}, FieldsAre P es fs -> ∃ o, getL x es = some o /\ o.map er = fs.lookup x
 | [], [], _ => ⟨none, rfl, rfl⟩
 | e :: es, (n, v) :: fs, h => by
   (refine Zg h ?_; clear h; intro e1e r; (refine Xo e1e ?_; clear e1e; intro e1e _ q; obtain ⟨t, k⟩ := e1e))
   refine Zb (FieldsAre.get (x := x) r) fun o o1 o2 => ?_
   unfold getL at o1 ⊢
   by_cases z : x = n
   · subst z
     refine Zp (some e.val) ?_ (by simp [q])
     rw [List.find?_cons]
     have : e.key.isStr x = true := by rw [k]; show (x == x) = true; simp
     rw [this]
   · refine Zp o ?_ (by rw [o2, List.lookup_cons, beq_eq_false_iff_ne.mpr z])
     rw [List.find?_cons]
     have : e.key.isStr x = false := by rw [k]; exact beq_eq_false_iff_ne.mpr fun y : n = x => z y.symm
     rw [this]
     have r2 : e.refKey = false := by unfold DictEntry.refKey; rw [k]
     rw [List.any_cons, r2, Bool.false_or]
     exact o1
theorem FieldsAre.put {x : Str} {v : Value} {t : Tok} : ∀ {es : List DictEntry} {fs : List (Str × Value)}, FieldsAre P es fs -> FieldsAre P (putL x (PyData.keyHash P x) (.str x t) v es) (Ym x (er v) fs)
 | [], [], _ => ⟨⟨⟨t, rfl⟩, rfl, rfl⟩, trivial⟩
 | e :: es, (n, u) :: fs, h => by
   (refine Zg h ?_; clear h; intro e1e r; (refine Xo e1e ?_; clear e1e; intro e1e q1 q2; obtain ⟨t', k⟩ := e1e))
   unfold putL Ym
   by_cases z : n = x
   · subst z
     have : e.key.isStr n = true := by rw [k]; show (n == n) = true; simp
     rw [if_pos this, if_pos rfl]
     exact ⟨⟨⟨t', k⟩, q1, rfl⟩, r⟩
   · have : ¬ e.key.isStr x = true := by rw [k]; show ¬ (n == x) = true; simpa using z
     rw [if_neg this, if_neg z]
     exact ⟨⟨⟨t', k⟩, q1, q2⟩, r.put⟩
theorem FieldsAre.noRef : ∀ {es : List DictEntry} {fs : List (Str × Value)}, FieldsAre P es fs -> es.any (·.refKey) = false
 | [], [], _ => rfl
 | e :: es, (n, u) :: fs, h => by
  (refine Zg h ?_; clear h; intro e1e r; (refine Xo e1e ?_; clear e1e; intro e1e _ _; obtain ⟨t', k⟩ := e1e))
  have r2 : e.refKey = false := by unfold DictEntry.refKey; rw [k]
  rw [List.any_cons, r2, Bool.false_or]; exact r.noRef
theorem Zff (x : Str) (v : Value) : ∀ fs : List (Str × Value), (Ym x v fs).length <= fs.length + 1
 | [] => Nat.le_refl _
 | p :: r => by
   unfold Ym
   split
   · exact Nat.le_succ _
   · exact Nat.succ_le_succ (Zff x v r)
theorem Zfg {x : Str} {v : Value} : ∀ {fs : List (Str × Value)} {f : Str × Value}, f ∈ Ym x v fs -> f.1 = x \/ ∃ g ∈ fs, g.1 = f.1
 | [], f, h => by
   rcases List.mem_singleton.mp h with rfl
   exact .inl rfl
 | p :: r, f, h => by
   unfold Ym at h
   split at h
   · rename_i z
     rcases List.mem_cons.mp h with rfl | h
     · exact .inl rfl
     · exact .inr ⟨f, .tail _ h, rfl⟩
   · rcases List.mem_cons.mp h with rfl | h
     · exact .inr ⟨_, .head _, rfl⟩
     · rcases Zfg h with q | ⟨g, q1, q2⟩
       · exact .inl q
       · exact .inr ⟨g, .tail _ q1, q2⟩
end
section
variable {B : Bgd} {A : Around} {E : Value -> Shared -> Prop} {σ : St} {env : Env} {s : Shared} {a C : Addr} {fs : List (Str × Value)}
theorem Zbq {x : Str} {v : Value} : ∀ {fs : List (Str × Value)}, fs.lookup x = some v -> ∃ f ∈ fs, f.1 = x
 | [], h => nomatch h
 | (k, u) :: r, h => by
   by_cases z : x = k
   · exact Zp _ (.head _) z.symm
   · rw [List.lookup_cons, beq_eq_false_iff_ne.mpr z] at h
     refine Zb (Zbq h) fun f f1 f2 => ?_
     exact Zp f (.tail _ f1) f2
theorem Rep.inst (h : Rep B σ s) (e : σ a = some (.inst C fs)) : ∃ d es n, s.heap.get? a = some (instObj C d) /\ s.heap.get? d = some (dictOf es n) /\ FieldsAre B.w.params es fs /\ Ro C /\ (∀ f ∈ fs, Ke C f.1) /\ fs.length <= 200 := by
 obtain ⟨_, _, _, _, δ, k1, _⟩ := h
 (refine Vt ((k1 a _ e).2) fun q1 e1e q4 q5 q6 => ?_; (refine Zx e1e ?_; clear e1e; intro es n q2 q3))
 exact Znn _ es n q1 q2 q3 q4 q5 q6
theorem Rq {h : Heap} {d : Addr} {es : List DictEntry} {n : Nat} (q1 : h.get? a = some (instObj C d)) (q2 : h.get? d = some (dictOf es n)) : InstAt h a (instObj C d) C (some (dictOf es n)) := ⟨q1, rfl, rfl, q2⟩
theorem Zpm {v : Value} (h : handedIn (er v) = true) : handedIn v = true := by cases v <;> exact h
theorem Zpn {x : Str} {v : Value} {ex : Bool} {Q : Value -> St -> Prop} (O : B.Ok) (hi : σ a = some (.inst C fs)) (hv : fs.lookup x = some v) (hh : handedIn v = true) (h : Q v σ) : wA B A er (getAttr (.ref a) x ex) Q E σ := fun φ d u s r => by
 refine Zbi (r.inst (Zn hi)) fun dd es n q1 q2 q3 q4 q5 q6 => ?_
 refine Zb (q3.get (x := x)) fun o o1 o2 => ?_
 (refine Zb (Tb (o2.trans hv)) ?_; rintro u rfl rfl)
 have X := O.k.keeps r.keep
 refine Xs (q4 B.w.params) fun p1 p2 p3 p4 => ?_
 have hx : Ke C x := by
  refine Zb (Zbq hv) fun f f1 f2 => ?_
  exact f2 ▸ q5 f f1
 exact get_value X (Rq q1 q2) (plainGet_of p1).1 (findObj_own p4 (hx _) rfl o1) (Zpm hh) ⟨σ, d, r.toks _, h⟩
theorem Zpo {x : Str} {v : Value} {Q : Unit -> St -> Prop} (O : B.Ok) (hi : σ a = some (.inst C fs)) (hx' : Ke C x \/ (fs.lookup x).isSome = true) (hl : fs.length < 200) (h : Q () (upd σ a (.inst C (Ym x (er v) fs)))) : wA B A id (setAttr (.ref a) x v) Q E σ := fun φ d u s r => by
 refine Zbi (r.inst (Zn hi)) fun dd es n q1 q2 q3 q4 q5 q6 => ?_
 have X := O.k.keeps r.keep
 refine Xs (q4 B.w.params) fun p1 p2 p3 p4 => ?_
 have hx : Ke C x := hx'.elim (fun z => z) fun z => by
   refine Xg (Option.isSome_iff_exists.mp z) fun u hu => ?_
   refine Zb (Zbq hu) fun f f1 f2 => ?_
   exact f2 ▸ q5 f f1
 refine Zb (any_some p4) fun cd hc hd => ?_
 refine Zb (q3.get (x := x)) fun o o1 _ => ?_
 refine set_plain X (Rq q1 q2) p2 (osa_open (s := { s with toks := s.toks + 1 }) X (Rq q1 q2) p3 (by unfold takerIn; rw [hx]; rfl) fun b => ?_)
 have had : a ≠ dd := fun z => by rw [z, q2] at q1; cases q1
 dsimp only
 unfold Builtin.ObjectAttr.storeInOwnDict
 refine wpAny_bind (wpAny_pure (a := ()) ?_)
 rw [show (Value.ref C == Value.type "module") = false from rfl]
 refine wpAny_bind (m := instanceDict a true) ?_
 unfold instanceDict
 refine wpAny_bind (wpAny_loadPart q1 (wpAny_bind (looks_clsIn X hc _ _ _ _ (fun _ _ e => e) ?_)))
 rw [hd]
 refine wpAny_pure (a := some dd) ?_
 unfold Builtin.ObjectAttr.storeInDict
 refine wpAny_bind (wpAny_pure (a := ()) (wpAny_bind ?_))
 unfold nsSet
 refine wpAny_bind (wpAny_bind (wpAny_askSetting (wpAny_pure (wpAny_bind (wpAny_mkText (wpAny_bind (wpAny_loadPart q2 ?_)))))))
 have hk : aRefKeyMayBeTheName x es.toArray = false := by
   rw [aRefKeyMayBeTheName_eq, aRefKeyMayBeTheNameByArray]
   have : es.toArray.any (·.refKey) = false := by
     rw [<- Array.any_toList]
     exact FieldsAre.noRef q3
   rw [this, Bool.and_false]
 dsimp only
 rw [hk]
 have g' : (s.heap.update dd (Obj.putName x (PyData.keyHash B.w.params x) (.str x (s.toks + 1)) v)).get? dd = some (dictOf (putL x (PyData.keyHash B.w.params x) (.str x (s.toks + 1)) v es) (putN x es n)) := by
   rw [<- putName_dict]; exact Heap.get?_update_self _ q2 (by rw [putName_dict]; rfl)
 have fp := q3.put (x := x) (v := v) (t := s.toks + 1)
 have ll : (Ym x (er v) fs).length <= 200 := Nat.le_trans (Zff ..) hl
 refine wpAny_updatePart q2 (wpAny_bind (wpAny_lookBehind g' (pastItsLine_dict ?_) (wpAny_pure ⟨_, d.upd_some hi _, ?_, h⟩)))
 · rw [List.size_toArray, fp.length, sizeLine_eq]; exact gl (nc fun zz => L2 (N1 _) V0 1 nA (.k 200) (nl ll) 1 (.a (.a (.k 16777216) kI) kI) nA zz kI kZ rfl)
 · rw [<- Xz]
   exact r.setInst (Zn hi) (fun q f hf => by
     rcases Zfg hf with z | ⟨g, g1, g2⟩
     · rw [z]; exact hx
     · rw [<- g2]; exact q g g1) ll fun d' es' n' e1 e2 e3 e4 => by
       rw [q1] at e1; cases e1
       exact ⟨Heap.SameBut.update .., _, _, g', fp⟩
end
end Mine
end
noncomputable section
namespace Mine
noncomputable abbrev Zc := List (Str × Value)
noncomputable def fr (L : Addr) (m : Zc) (χ : St) : St := fun a => if a = L then some (.ns m) else χ a
noncomputable def Rr : Flow -> Flow
 | .ret v => .ret (er v)
 | f => f
noncomputable abbrev Yj : List Value -> List Value := List.map er
noncomputable abbrev Jo : Value × List Value -> Value × List Value := fun p => (er p.1, p.2.map er)
section
variable {α β γ δ : Type} {B : Bgd} {A : Around} {E : Value -> Shared -> Prop} {σ : St} {env : Env} {L : Addr} {m : Zc} {ψ χ : St}
theorem Wo : fr L m χ L = some (.ns m) := if_pos rfl
theorem Gc (d : Dis σ ψ) {a : Addr} {o : AO} (h : ψ a = some o) : Un σ ψ a = some o := Up d h
theorem Dis.off (d : Dis σ ψ) {a : Addr} {o : AO} (h : ψ a = some o) : σ a = none := by
 rcases d a with e | e
 · exact e
 · rw [h] at e; exact Wh e
theorem Zpp (d : Dis σ (fr L m χ)) {m' : Zc} : upd (Un σ (fr L m χ)) L (.ns m') = Un σ (fr L m' χ) := by
 funext a
 unfold upd Un fr
 by_cases z : a = L
 · subst z
   rw [if_pos rfl, if_pos rfl, d.off Wo]; rfl
 · rw [if_neg z, if_neg z, if_neg z]
theorem Zpq (d : Dis σ (fr L m χ)) (m' : Zc) : Dis σ (fr L m' χ) := fun a => by
 by_cases z : a = L
 · subst z; exact .inl (d.off Wo)
 · rcases d a with e | e
   · exact .inl e
   · refine .inr ?_
     unfold fr at e ⊢
     rw [if_neg z] at e ⊢; exact e
noncomputable def J (B : Bgd) (A : Around) (ψ : St) (e : α -> β) (t : Sem α) (Q : β -> St -> Prop) (E : Value -> Shared -> Prop) (σ : St) : Prop :=
 Dis σ ψ -> wA B A e t (PJ ψ Q) E (Un σ ψ)
inductive PS {β : Type} (L : Addr) (χ : St) (Q : β -> Zc -> St -> Prop) (b : β) (τ : St) : Prop
 | mk (m : Zc) (σ : St) (d : Dis σ (fr L m χ)) (e : τ = Un σ (fr L m χ)) (q : Q b m σ) : PS L χ Q b τ
theorem Jp {β : Type} {B : Bgd} {φ χ : St} {L : Addr} {Q : β -> Zc -> St -> Prop} {b : β} {s : Shared} {C : Prop} (h : PA B φ (PS L χ Q) b s) (k : ∀ m σ, Dis σ (fr L m χ) -> Dis (Un σ (fr L m χ)) φ -> Rep B (Un (Un σ (fr L m χ)) φ) s -> Q b m σ -> C) : C := by
 obtain ⟨τ, d, r, m, σ, hL, rfl, q⟩ := h
 exact k m σ hL d r q
theorem PS.to {β γ : Type} {L : Addr} {χ τ : St} {Q : β -> Zc -> St -> Prop} {Q' : γ -> Zc -> St -> Prop} {b : β} {b' : γ} (h : PS L χ Q b τ) (f : ∀ m σ, Q b m σ -> Q' b' m σ) : PS L χ Q' b' τ := by cases h with | mk m σ d e q => exact ⟨m, σ, d, e, f m σ q⟩
theorem Rs {β γ : Type} {B : Bgd} {φ χ : St} {L : Addr} {m : Zc} {P : β -> St -> Prop} {Q : γ -> Zc -> St -> Prop} {b : β} {b' : γ} {s : Shared} (h : PA B φ (PJ (fr L m χ) P) b s) (f : ∀ σ, P b σ -> Q b' m σ) : PA B φ (PS L χ Q) b' s := by
 obtain ⟨τ, d, r, σ, hL, e, q⟩ := h
 exact ⟨τ, d, r, m, σ, hL, e, f _ q⟩
theorem psT {β γ : Type} {B : Bgd} {φ χ : St} {L : Addr} {P : β -> Zc -> St -> Prop} {Q : γ -> Zc -> St -> Prop} {b : β} {b' : γ} {s : Shared} (h : PA B φ (PS L χ P) b s) (f : ∀ m σ, P b m σ -> Q b' m σ) : PA B φ (PS L χ Q) b' s := by
 obtain ⟨τ, d, r, z⟩ := h
 exact ⟨τ, d, r, z.to f⟩
noncomputable def JS (B : Bgd) (A : Around) (L : Addr) (χ : St) (e : α -> β) (t : Sem α) (Q : β -> Zc -> St -> Prop) (E : Value -> Shared -> Prop) (m : Zc) (σ : St) : Prop :=
 Dis σ (fr L m χ) -> wA B A e t (PS L χ Q) E (Un σ (fr L m χ))
theorem J.lift {e : α -> β} {t : Sem α} {Q : β -> St -> Prop} (h : wA B A e t Q E σ) : J B A ψ e t Q E σ := fun hL =>
 Kx (Zpf hL h) fun b τ ⟨σ', d, q, r⟩ => ⟨σ', d, q, r⟩
theorem J.mono {e : α -> β} {t : Sem α} {Q Q' : β -> St -> Prop} (h : J B A ψ e t Q E σ) (q : ∀ b σ', Q b σ' -> Q' b σ') : J B A ψ e t Q' E σ := fun hL =>
 Kx (h hL) fun b τ ⟨σ', a, b', c⟩ => ⟨σ', a, b', q _ _ c⟩
theorem J.pure {e : α -> β} {a : α} {Q : β -> St -> Prop} (h : Q (e a) σ) : J B A ψ e (pure a) Q E σ := fun hL => Zez ⟨σ, hL, rfl, h⟩
theorem J.bind {e : α -> β} {e' : γ -> δ} {t : Sem α} {f : α -> Sem γ} {Q : δ -> St -> Prop} (h : J B A ψ e t (fun b σ' => ∀ a, e a = b -> J B A ψ e' (f a) Q E σ') E σ) : J B A ψ e' (t >>= f) Q E σ := fun hL =>
 Rp (Kx (h hL) fun b τ ⟨σ', x, y, z⟩ a ha => y ▸ z a ha x)
theorem J.holding {e : α -> β} {vs : List Value} {t : Sem α} {Q : β -> St -> Prop} (h : J B A ψ e t Q E σ) : J B A ψ e (holding vs t) Q E σ := fun hL => Zbn (h hL)
theorem J.standAt {e : Unit -> β} {p : Pos} {Q : β -> St -> Prop} (h : Q (e ()) σ) : J B A ψ e (standAt p) Q E σ := J.lift (Zpc h)
theorem J.operate {e : Value -> β} {vs : List Value} {t : Sem Value} {Q : β -> St -> Prop} (h : J B A ψ e t Q E σ) : J B A ψ e (operate vs t) Q E σ := fun hL => Zpd (h hL)
theorem J.sub {e : α -> β} {t : Sem α} {Q : β -> St -> Prop} {τ : St} (q : Sub σ τ) (h : J B A ψ e t Q E σ) : J B A ψ e t Q E τ := fun hL =>
 Zfc (q.un hL) (h (hL.sub q))
theorem J.done {e : α -> β} {t : Sem α} {Q : β -> St -> Prop} (h : J B A ψ e t (fun b τ => ∃ σ', Sub σ' τ /\ Q b σ') E σ) : J B A ψ e t Q E σ := fun hL =>
 Zpe (Kx (h hL) fun b τ ⟨σ₁, h1, h2, σ', h3, h4⟩ => ⟨Un σ' ψ, by subst h2; exact h3.un h1, σ', h1.sub h3, rfl, h4⟩)
theorem JS.of_J {e : α -> β} {t : Sem α} {Q : β -> Zc -> St -> Prop} (h : J B A (fr L m χ) e t (fun v σ' => Q v m σ') E σ) : JS B A L χ e t Q E m σ := fun hL =>
 Kx (h hL) fun b τ ⟨σ', x, y, z⟩ => ⟨m, σ', x, y, z⟩
theorem JS.mono {e : α -> β} {t : Sem α} {Q Q' : β -> Zc -> St -> Prop} (h : JS B A L χ e t Q E m σ) (q : ∀ b m' σ', Q b m' σ' -> Q' b m' σ') : JS B A L χ e t Q' E m σ := fun hL =>
 Kx (h hL) fun b τ ⟨m', σ', a, b', c⟩ => ⟨m', σ', a, b', q _ _ _ c⟩
theorem JS.pure {e : α -> β} {a : α} {Q : β -> Zc -> St -> Prop} (h : Q (e a) m σ) : JS B A L χ e (pure a) Q E m σ := fun hL => Zez ⟨m, σ, hL, rfl, h⟩
theorem JS.bind {e : α -> β} {e' : γ -> δ} {t : Sem α} {f : α -> Sem γ} {Q : δ -> Zc -> St -> Prop} (h : JS B A L χ e t (fun b m' σ' => ∀ a, e a = b -> JS B A L χ e' (f a) Q E m' σ') E m σ) : JS B A L χ e' (t >>= f) Q E m σ := fun hL =>
 Rp (Kx (h hL) fun b τ ⟨m', σ', x, y, z⟩ a ha => y ▸ z a ha x)
theorem JS.sub {e : α -> β} {t : Sem α} {Q : β -> Zc -> St -> Prop} {τ : St} (q : Sub σ τ) (h : JS B A L χ e t Q E m σ) : JS B A L χ e t Q E m τ := fun hL =>
 Zfc (q.un hL) (h (hL.sub q))
noncomputable abbrev JE (B : Bgd) (A : Around) (env : Env) (ψ : St) (x : Expr) (Q : Value -> St -> Prop) (E : Value -> Shared -> Prop) (σ : St) : Prop := J B A ψ er (eval x env) Q E σ
noncomputable abbrev JT (B : Bgd) (A : Around) (env : Env) (ψ : St) (x : Expr) (Q : Bool -> St -> Prop) (E : Value -> Shared -> Prop) (σ : St) : Prop := J B A ψ (_root_.id : Bool -> Bool) (isTrue x env (eval x env)) Q E σ
theorem Td {c : Const} {k : Nat} {p : Pos} {v : Value} {Q : Value -> St -> Prop} (h : Q v σ) (hc : Zbo c = some v) : JE B A env ψ (.Constant c k p) Q E σ := J.lift (Zpg hc h)
theorem Zpr {x : Str} {k : Nat} {p : Pos} {Q : Value -> St -> Prop} (h : Q (S x) σ) : JE B A env ψ (.Constant (.str x) k p) Q E σ := Td h rfl
theorem Gd {x : Str} {p : Pos} {v : Value} {Q : Value -> St -> Prop} (F : FnEnv env) (hm : ψ env.locals = some (.ns m)) (hv : m.lookup x = some v) (h : Q v σ) (hk : env.kindOf x = some .local) (hd : (x == ("__debug__" : Str)) = false) :
 JE B A env ψ (.Name x p) Q E σ := fun hL => Zbp hd (Zph F hk (Gc hL hm) hv ⟨σ, hL, rfl, h⟩)
theorem Rt {x : Str} {p : Pos} {v : Value} {Q : Value -> St -> Prop} (O : B.Ok) (F : FnEnv env) (g : Ky x v) (h : Q v σ) (hk : env.kindOf x = some .globalImplicit) (hd : (x == ("__debug__" : Str)) = false) :
 JE B A env ψ (.Name x p) Q E σ := J.lift (Zbp hd (Zpj O F hk g h))
noncomputable def Uq (B : Bgd) (A : Around) (ψ : St) (t : Value -> Value -> Sem Value) (a b : Value) (Q : Value -> St -> Prop) (E : Value -> Shared -> Prop) (σ : St) : Prop :=
 ∀ u v, er u = a -> er v = b -> J B A ψ er (t u v) Q E σ
theorem Zps {l r : Expr} {op : Operator} {p : Pos} {Q : Value -> St -> Prop} (h : JE B A env ψ l (fun a σ₁ => JE B A env ψ r (fun b σ₂ => Uq B A ψ (binaryOp op) a b Q E σ₂) E σ₁) E σ) :
  JE B A env ψ (.BinOp l op r p) Q E σ := by
 show J B A ψ er (do
  let a <- eval l env
  let b <- PySem.holding [a] (eval r env)
  PySem.standAt p
  PySem.operate [a, b] (binaryOp op a b)) Q E σ
 refine J.bind (J.mono h fun a σ₁ h₁ u hu => J.bind (J.holding (J.mono h₁ fun b σ₂ h₂ v hv => J.bind (e := _root_.id) (J.standAt fun _ _ => J.operate (h₂ u v hu hv)))))
theorem Jq {t : Value -> Value -> Sem Value} {a b : Value} {Q : Value -> St -> Prop}
  (h : ∀ u v, er u = a -> er v = b -> ∀ s (R : Value -> Shared -> Prop), (∀ tk x, er x = c -> R x { s with toks := tk }) -> wpAny (model pw B.w) A (t u v) R E s) (q : Q c σ) : Uq B A ψ t a b Q E σ := fun u v hu hv =>
 J.lift (On fun s _ R k => h u v hu hv s R fun tk x e => k tk x (e ▸ q))
theorem Zpt {i j : Int} {Q : Value -> St -> Prop} (h : Q (I (i + j)) σ) : Uq B A ψ (binaryOp .Add) (I i) (I j) Q E σ := Jq (fun u v hu hv s R k => by
 (refine Yd hu ?_; rintro _ rfl); (refine Yd hv ?_; rintro _ rfl); exact add_int (k _ _ rfl)) h
theorem Zpu {i j : Int} {Q : Value -> St -> Prop} (h : Q (I (i - j)) σ) : Uq B A ψ (binaryOp .Sub) (I i) (I j) Q E σ := Jq (fun u v hu hv s R k => by
 (refine Yd hu ?_; rintro _ rfl); (refine Yd hv ?_; rintro _ rfl); exact sub_int (k _ _ rfl)) h
theorem Zpv {i j : Int} {Q : Value -> St -> Prop} (hm : IntMulOk i j) (h : Q (I (i * j)) σ) : Uq B A ψ (binaryOp .Mult) (I i) (I j) Q E σ := Jq (fun u v hu hv s R k => by
 (refine Yd hu ?_; rintro _ rfl); (refine Yd hv ?_; rintro _ rfl); exact mul_int (k _ _ rfl) hm) h
theorem Zpw {j : Int} (h0 : 0 < j) (h1 : j < 2 ^ 60) : j.natAbs.log2 < 9000 := Nat.lt_trans ((Nat.log2_lt (by omega)).mpr (by omega : j.natAbs < 2 ^ 60)) (by decide)
theorem Zpx {i j : Int} {Q : Value -> St -> Prop} (h0 : 0 < j) (h1 : j < 2 ^ 60) (h : Q (I (i.fdiv j)) σ) : Uq B A ψ (binaryOp .FloorDiv) (I i) (I j) Q E σ := Jq (fun u v hu hv s R k => by
 (refine Yd hu ?_; rintro _ rfl); (refine Yd hv ?_; rintro _ rfl); exact floordiv_int (by exact fun zz => gf (L2 N0 (V1 _) 1 (.a kZ kI) vA (li h0) 1 vA kZ (Zj zz) kI kZ rfl)) (k _ _ rfl) (.inl (PyProof.noPylong_of_log2 (Zpw h0 h1)))) h
theorem Zpy {i j : Int} {Q : Value -> St -> Prop} (h0 : 0 < j) (h1 : j < 2 ^ 60) (h : Q (I (i.fmod j)) σ) : Uq B A ψ (binaryOp .Mod) (I i) (I j) Q E σ := Jq (fun u v hu hv s R k => by
 (refine Yd hu ?_; rintro _ rfl); (refine Yd hv ?_; rintro _ rfl); exact mod_int' (by exact fun zz => gf (L2 N0 (V1 _) 1 (.a kZ kI) vA (li h0) 1 vA kZ (Zj zz) kI kZ rfl)) (k _ _ rfl)) h
theorem Zpz {i j : Int} {Q : Value -> St -> Prop} (hn : 0 <= j) (hsz : (Builtin.Int.intBits i : Int) * j <= 2 ^ 27) (h : Q (I (i ^ j.toNat)) σ) : Uq B A ψ (binaryOp .Pow) (I i) (I j) Q E σ := Jq (fun u v hu hv s R k => by
 (refine Yd hu ?_; rintro _ rfl); (refine Yd hv ?_; rintro _ rfl); exact pow_int hn hsz (k _ _ rfl)) h
theorem Zqa {x y : Str} {Q : Value -> St -> Prop} (hsz : x.length + y.length <= sizeLine) (h : Q (S (x ++ y)) σ) : Uq B A ψ (binaryOp .Add) (S x) (S y) Q E σ := Jq (fun u v hu hv s R k => by
 (refine Oz hu ?_; rintro _ rfl); (refine Oz hv ?_; rintro _ rfl); exact PyProof.Rows.add_str (fun t tk => k tk _ rfl) hsz) h
noncomputable def Wj (B : Bgd) (A : Around) (ψ : St) (op : CmpOp) (a b : Value) (Q : Bool -> St -> Prop) (E : Value -> Shared -> Prop) (σ : St) : Prop :=
 ∀ u v, er u = a -> er v = b -> J B A ψ er (compareOp op u v) (fun x σ' => ∃ c, x = .bool c /\ Q c σ') E σ
theorem Oo {op : CmpOp} {a b : Value} {c : Bool} {Q : Bool -> St -> Prop}
  (h : ∀ u v, er u = a -> er v = b -> ∀ s (R : Value -> Shared -> Prop), (∀ tk, R (.bool c) { s with toks := tk }) -> wpAny (model pw B.w) A (compareOp op u v) R E s) (q : Q c σ) : Wj B A ψ op a b Q E σ := fun u v hu hv =>
 J.lift (On fun s _ R k => h u v hu hv s R fun tk => k tk _ ⟨c, rfl, q⟩)
theorem Zqb {i j : Int} {Q : Bool -> St -> Prop} (h : Q (i == j) σ) : Wj B A ψ .Eq (I i) (I j) Q E σ := Oo (fun u v hu hv s R k => by
 (refine Yd hu ?_; rintro _ rfl); (refine Yd hv ?_; rintro _ rfl); exact PyProof.Rows.eq_int (k s.toks)) h
theorem Zqc {i j : Int} {Q : Bool -> St -> Prop} (h : Q (i != j) σ) : Wj B A ψ .NotEq (I i) (I j) Q E σ := Oo (fun u v hu hv s R k => by
 (refine Yd hu ?_; rintro _ rfl); (refine Yd hv ?_; rintro _ rfl); exact PyProof.Rows.ne_int (k s.toks)) h
theorem Zqd {i j : Int} {Q : Bool -> St -> Prop} (h : Q (decide (i < j)) σ) : Wj B A ψ .Lt (I i) (I j) Q E σ := Oo (fun u v hu hv s R k => by
 (refine Yd hu ?_; rintro _ rfl); (refine Yd hv ?_; rintro _ rfl); exact PyProof.Rows.lt_int (k s.toks)) h
theorem Zqe {i j : Int} {Q : Bool -> St -> Prop} (h : Q (decide (i <= j)) σ) : Wj B A ψ .LtE (I i) (I j) Q E σ := Oo (fun u v hu hv s R k => by
 (refine Yd hu ?_; rintro _ rfl); (refine Yd hv ?_; rintro _ rfl); exact PyProof.Rows.le_int (k s.toks)) h
theorem Zqf {i j : Int} {Q : Bool -> St -> Prop} (h : Q (decide (j < i)) σ) : Wj B A ψ .Gt (I i) (I j) Q E σ := Oo (fun u v hu hv s R k => by
 (refine Yd hu ?_; rintro _ rfl); (refine Yd hv ?_; rintro _ rfl); exact PyProof.Rows.gt_int (k s.toks)) h
theorem Zqg {i j : Int} {Q : Bool -> St -> Prop} (h : Q (decide (j <= i)) σ) : Wj B A ψ .GtE (I i) (I j) Q E σ := Oo (fun u v hu hv s R k => by
 (refine Yd hu ?_; rintro _ rfl); (refine Yd hv ?_; rintro _ rfl); exact PyProof.Rows.ge_int (k s.toks)) h
theorem Zqh {x y : Str} {Q : Bool -> St -> Prop} (h : Q (x == y) σ) : Wj B A ψ .Eq (S x) (S y) Q E σ := Oo (fun u v hu hv s R k => by
 (refine Oz hu ?_; rintro _ rfl); (refine Oz hv ?_; rintro _ rfl); exact PyProof.Rows.eq_str (k s.toks)) h
theorem Zqi (x y : Str) : (x.cps.toList != y.cps.toList) = (x != y) := by
 have : (x.cps.toList == y.cps.toList) = (x == y) := by
  rw [Bool.eq_iff_iff, beq_iff_eq, beq_iff_eq, Array.toList_inj]
  exact ⟨fun h => by cases x; cases y; subst h; rfl, fun h => by rw [h]⟩
 show (!_) = (!_)
 rw [this]
theorem Zqj {x y : Str} {Q : Bool -> St -> Prop} (h : Q (x != y) σ) : Wj B A ψ .NotEq (S x) (S y) Q E σ := Oo (fun u v hu hv s R k => by
 (refine Oz hu ?_; rintro _ rfl); (refine Oz hv ?_; rintro _ rfl); exact PySem.P.ne_str (by rw [Zqi]; exact k s.toks)) h
theorem Zqk {a : Value} {Q : Bool -> St -> Prop} (h : Q (match a with | .none => true | _ => false) σ) : Wj B A ψ .Is a .none Q E σ := Oo (fun u v hu hv s R k => by
 rw [Vz hv]
 subst a <;> cases u <;> first | cases hu | skip
 all_goals first | exact wpAny_is_self rfl (k s.toks) | exact is_none_ne (by intro x; contradiction) (k s.toks)) h
theorem Zql {a : Value} {Q : Bool -> St -> Prop} (h : Q (match a with | .none => false | _ => true) σ) : Wj B A ψ .IsNot a .none Q E σ := Oo (fun u v hu hv s R k => by
 rw [Vz hv]
 subst a <;> cases u <;> first | cases hu | skip
 all_goals first | exact wpAny_isNot_self rfl (k s.toks) | exact isnot_none_ne (by intro x; contradiction) (k s.toks)) h
theorem Zqm {l r : Expr} {op : CmpOp} {p : Pos} {Q : Value -> St -> Prop} (h : JE B A env ψ l (fun a σ₁ => JE B A env ψ r (fun b σ₂ => Wj B A ψ op a b (fun c => Q (.bool c)) E σ₂) E σ₁) E σ)
  (hm : behindInMarks op r = false) : JE B A env ψ (.Compare l [op] [r] p) Q E σ := by
 show J B A ψ er (do compareChain p (<- eval l env) [op] (markedEach [op] [r] (evalEach [r] env))) Q E σ
 rw [markedEach_of_false _ _ _ (show lastMarks [op] [r] = false from hm)]
 show J B A ψ er (do
  let a <- eval l env
  let rv <- PySem.holding [a] (eval r env)
  PySem.standAt p
  PySem.operate [a, rv] (compareOp op a rv)) Q E σ
 refine J.bind (J.mono h fun a σ₁ h₁ u hu => J.bind (J.holding (J.mono h₁ fun b σ₂ h₂ v hv => J.bind (e := _root_.id) (J.standAt fun _ _ => J.operate (J.mono (h₂ u v hu hv) ?_)))))
 rintro _ _ ⟨c, rfl, q⟩
 exact q
theorem Zqn {x : Expr} {Q : Bool -> St -> Prop} (h : JE B A env ψ x (fun v σ₁ => ∃ c, v = .bool c /\ Q c σ₁) E σ)
  (he : isTrue x env (eval x env) = (do let v <- eval x env; PySem.standAt x.pos; PySem.holding [v] (truthy v))) : JT B A env ψ x Q E σ := by
 show J B A ψ _root_.id (isTrue x env (eval x env)) Q E σ
 rw [he]
 refine J.bind (J.mono h fun a σ₁ ⟨c, e, q⟩ u hu => J.bind (e := _root_.id) (J.standAt fun _ _ => J.holding ?_))
 rw [Qa (hu.trans e)]
 exact J.lift (On fun s _ R k => wpAny_truthy_bool (k s.toks c q))
theorem Zqo {l r : Expr} {op : CmpOp} {p : Pos} {Q : Bool -> St -> Prop} (h : JE B A env ψ l (fun a σ₁ => JE B A env ψ r (fun b σ₂ => Wj B A ψ op a b Q E σ₂) E σ₁) E σ)
  (hm : behindInMarks op r = false) : JT B A env ψ (.Compare l [op] [r] p) Q E σ := by
 show J B A ψ _root_.id (do testChain p (<- eval l env) [op] (markedEach [op] [r] (evalEach [r] env))) Q E σ
 rw [markedEach_of_false _ _ _ (show lastMarks [op] [r] = false from hm)]
 show J B A ψ _root_.id (do
  let a <- eval l env
  let rv <- PySem.holding [a] (eval r env)
  PySem.standAt p
  let c <- PySem.operate [a, rv] (compareOp op a rv)
  PySem.holding [c] (truthy c)) Q E σ
 refine J.bind (J.mono h fun a σ₁ h₁ u hu => J.bind (J.holding (J.mono h₁ fun b σ₂ h₂ v hv => J.bind (e := _root_.id) (J.standAt fun _ _ => J.bind (e := er) (J.operate (J.mono (h₂ u v hu hv) ?_))))))
 rintro _ _ ⟨c, rfl, q⟩ x hx
 rw [Qa hx]
 exact J.holding (J.lift (On fun s _ R k => wpAny_truthy_bool (k s.toks c q)))
theorem Zqp {l r r' : Expr} {op op' : CmpOp} {p : Pos} {Q : Bool -> St -> Prop}
  (h : JE B A env ψ l (fun a σ₁ => JE B A env ψ r (fun b σ₂ => Wj B A ψ op a b (fun c σ₃ => (c = false -> Q false σ₃) /\ (c = true -> JE B A env ψ r' (fun d σ₄ => Wj B A ψ op' b d Q E σ₄) E σ₃)) E σ₂) E σ₁) E σ)
  (hm : lastMarks [op, op'] [r, r'] = false) : JT B A env ψ (.Compare l [op, op'] [r, r'] p) Q E σ := by
 show J B A ψ _root_.id (do testChain p (<- eval l env) [op, op'] (markedEach [op, op'] [r, r'] (evalEach [r, r'] env))) Q E σ
 rw [markedEach_of_false _ _ _ hm]
 show J B A ψ _root_.id (do
  let a <- eval l env
  let rv <- PySem.holding [a] (eval r env)
  PySem.standAt p
  let c <- PySem.holding [a, rv] (compareOp op a rv)
  PySem.release [a, rv] [c]
  if <- PySem.holding [c, rv] (truthy c) then do
   let rv' <- PySem.holding [rv] (eval r' env)
   PySem.standAt p
   let c' <- PySem.operate [rv, rv'] (compareOp op' rv rv')
   PySem.holding [c'] (truthy c')
  else Pure.pure false) Q E σ
 refine J.bind (J.mono h fun a σ₁ h₁ u hu => J.bind (J.holding (J.mono h₁ fun b σ₂ h₂ v hv => J.bind (e := _root_.id) (J.standAt fun _ _ => J.bind (e := er) (J.holding (J.mono (h₂ u v hu hv) ?_))))))
 rintro _ _ ⟨c, rfl, q⟩ x hx
 rw [Qa hx]
 refine J.bind (e := _root_.id) (J.lift (Zfb fun _ _ => J.bind (e := _root_.id) (J.holding (J.lift (On fun s _ R k => wpAny_truthy_bool (k s.toks c ?_))))))
 rintro y hy
 obtain rfl : y = c := hy
 cases y with
 | false => exact J.pure (q.1 rfl)
 | true =>
  refine J.bind (J.holding (J.mono (q.2 rfl) fun d σ₄ h₄ w hw => J.bind (e := _root_.id) (J.standAt fun _ _ => J.bind (e := er) (J.operate (J.mono (h₄ v w hv hw) ?_)))))
  rintro _ _ ⟨c', rfl, q'⟩ x' hx'
  rw [Qa hx']
  exact J.holding (J.lift (On fun s _ R k => wpAny_truthy_bool (k s.toks c' q')))
theorem Zqq {x : Expr} {p : Pos} {Q : Bool -> St -> Prop} (h : JT B A env ψ x (fun c => Q (!c)) E σ) : JT B A env ψ (.UnaryOp .Not x p) Q E σ := by
 show J B A ψ _root_.id (do return !(<- isTrue x env (eval x env))) Q E σ
 exact J.bind (J.mono h fun c σ₁ q a ha => by obtain rfl : a = c := ha; exact J.pure q)
theorem Zqr {p : Pos} {Q : Bool -> St -> Prop} (h : Q true σ) : JT B A env ψ (.BoolOp .And [] p) Q E σ := J.pure (a := true) h
theorem Zqs {p : Pos} {Q : Bool -> St -> Prop} (h : Q false σ) : JT B A env ψ (.BoolOp .Or [] p) Q E σ := J.pure (a := false) h
theorem Zfh {x : Expr} {rest : List Expr} {p : Pos} {Q : Bool -> St -> Prop} (h : JT B A env ψ x (fun c σ₁ => (c = true -> JT B A env ψ (.BoolOp .And rest p) Q E σ₁) /\ (c = false -> Q false σ₁)) E σ) : JT B A env ψ (.BoolOp .And (x :: rest) p) Q E σ := by
 show J B A ψ _root_.id (do
  match BoolOp.And, <- isTrue x env (eval x env) with
  | .And, false => Pure.pure false
  | .Or, true => Pure.pure true
  | _, _ => allTrue .And rest env) Q E σ
 refine J.bind (J.mono h fun c σ₁ q a ha => ?_)
 obtain rfl : a = c := ha
 cases a with
 | false => exact J.pure (q.2 rfl)
 | true => exact q.1 rfl
theorem Zfi {x : Expr} {rest : List Expr} {p : Pos} {Q : Bool -> St -> Prop} (h : JT B A env ψ x (fun c σ₁ => (c = false -> JT B A env ψ (.BoolOp .Or rest p) Q E σ₁) /\ (c = true -> Q true σ₁)) E σ) : JT B A env ψ (.BoolOp .Or (x :: rest) p) Q E σ := by
 show J B A ψ _root_.id (do
  match BoolOp.Or, <- isTrue x env (eval x env) with
  | .And, false => Pure.pure false
  | .Or, true => Pure.pure true
  | _, _ => allTrue .Or rest env) Q E σ
 refine J.bind (J.mono h fun c σ₁ q a ha => ?_)
 obtain rfl : a = c := ha
 cases a with
 | false => exact q.1 rfl
 | true => exact J.pure (q.2 rfl)
theorem Zqt {x : Expr} {p : Pos} {Q : Value -> St -> Prop} (h : JE B A env ψ x (fun v σ₁ => ∃ c, v = .bool c /\ Q (.bool (!c)) σ₁) E σ) : JE B A env ψ (.UnaryOp .Not x p) Q E σ := by
 show J B A ψ er (do let v <- eval x env; PySem.standAt p; PySem.holding [v] (unaryOp .Not v)) Q E σ
 refine J.bind (J.mono h fun a σ₁ ⟨c, e, q⟩ u hu => J.bind (e := _root_.id) (J.standAt fun _ _ => J.holding ?_))
 rw [Qa (hu.trans e)]
 exact J.lift (On fun s _ R k => not_of (wpAny_truthy_bool (k s.toks _ q)))
theorem Zqu {x : Expr} {p : Pos} {Q : Value -> St -> Prop} (h : JE B A env ψ x (fun v σ₁ => ∃ i, v = I i /\ Q (I (-i)) σ₁) E σ) : JE B A env ψ (.UnaryOp .USub x p) Q E σ := by
 show J B A ψ er (do let v <- eval x env; PySem.standAt p; PySem.holding [v] (unaryOp .USub v)) Q E σ
 refine J.bind (J.mono h fun a σ₁ ⟨c, e, q⟩ u hu => J.bind (e := _root_.id) (J.standAt fun _ _ => J.holding ?_))
 (refine Yd (hu.trans e) ?_; rintro _ rfl)
 exact J.lift (On fun s _ R k => PyProof.Rows.neg_int (k _ _ q))
theorem Zqv {t b o : Expr} {p : Pos} {Q : Value -> St -> Prop} (h : JT B A env ψ t (fun c σ₁ => (c = true -> JE B A env ψ b Q E σ₁) /\ (c = false -> JE B A env ψ o Q E σ₁)) E σ) : JE B A env ψ (.IfExp t b o p) Q E σ := by
 show J B A ψ er (do if <- isTrue t env (eval t env) then eval b env else eval o env) Q E σ
 refine J.bind (J.mono h fun c σ₁ q a ha => ?_)
 obtain rfl : a = c := ha
 cases a with
 | false => exact q.2 rfl
 | true => exact q.1 rfl
theorem Zqw {x y : Expr} {rest : List Expr} {p : Pos} {Q : Value -> St -> Prop} (h : JE B A env ψ x (fun v σ₁ => ∃ c, v = .bool c /\ (c = true -> JE B A env ψ (.BoolOp .And (y :: rest) p) Q E σ₁) /\ (c = false -> Q (.bool false) σ₁)) E σ) : JE B A env ψ (.BoolOp .And (x :: y :: rest) p) Q E σ := by
 show J B A ψ er (do
  let v <- eval x env
  PySem.standAt p
  let c <- PySem.holding [v] (truthy v)
  match BoolOp.And, c with
  | .And, false | .Or, true => Pure.pure v
  | _, _ => boolOp p .And (eval y env :: evalEach rest env)) Q E σ
 refine J.bind (J.mono h fun a σ₁ ⟨c, e, q1, q2⟩ u hu => J.bind (e := _root_.id) (J.standAt fun _ _ => J.bind (e := _root_.id) (J.holding ?_)))
 rw [Qa (hu.trans e)]
 refine J.lift (On fun s _ R k => wpAny_truthy_bool (k s.toks c ?_))
 rintro y rfl
 cases y with
 | false => exact J.pure (q2 rfl)
 | true => exact q1 rfl
theorem Zqx {x y : Expr} {rest : List Expr} {p : Pos} {Q : Value -> St -> Prop} (h : JE B A env ψ x (fun v σ₁ => ∃ c, v = .bool c /\ (c = false -> JE B A env ψ (.BoolOp .Or (y :: rest) p) Q E σ₁) /\ (c = true -> Q (.bool true) σ₁)) E σ) : JE B A env ψ (.BoolOp .Or (x :: y :: rest) p) Q E σ := by
 show J B A ψ er (do
  let v <- eval x env
  PySem.standAt p
  let c <- PySem.holding [v] (truthy v)
  match BoolOp.Or, c with
  | .And, false | .Or, true => Pure.pure v
  | _, _ => boolOp p .Or (eval y env :: evalEach rest env)) Q E σ
 refine J.bind (J.mono h fun a σ₁ ⟨c, e, q1, q2⟩ u hu => J.bind (e := _root_.id) (J.standAt fun _ _ => J.bind (e := _root_.id) (J.holding ?_)))
 rw [Qa (hu.trans e)]
 refine J.lift (On fun s _ R k => wpAny_truthy_bool (k s.toks c ?_))
 rintro y rfl
 cases y with
 | false => exact q1 rfl
 | true => exact J.pure (q2 rfl)
end
end Mine
end
noncomputable section
namespace Mine
section
variable {α β : Type} {B : Bgd} {A : Around} {E : Value -> Shared -> Prop} {σ : St} {env : Env} {L a C : Addr} {m : Zc} {ψ χ : St} {fs : List (Str × Value)}
theorem Zfj {b : Expr} {o r : Value} {Q : Unit -> St -> Prop} (h : Q () σ) : wA B A _root_.id (letTemporaryGo b o r) Q E σ := fun φ d u₀ s rp => wpAny_letTemporaryGo ⟨σ, d, rp, h⟩
theorem Zqy {x : Expr} {n : Str} {p : Pos} {Q : Value -> St -> Prop} (h : JE B A env ψ x (fun o σ₁ => ∀ u, er u = o -> J B A ψ er (getAttr u n true) Q E σ₁) E σ)
  (hb : attributeBase x n env (eval x env) = eval x env) : JE B A env ψ (.Attribute x n p) Q E σ := by
 show J B A ψ er (do
  let o <- attributeBase x n env (eval x env)
  PySem.standAt p.atName
  let r <- PySem.holding [o] (getAttr o n true)
  letTemporaryGo x o r
  Pure.pure r) Q E σ
 rw [hb]
 exact J.bind (J.mono h fun o σ₁ h₁ u hu => J.bind (e := _root_.id) (J.standAt fun _ _ => J.bind (e := er) (J.holding (J.mono (h₁ u hu) fun v σ₂ q w hw => J.bind (e := _root_.id) (J.lift (Zfj fun _ _ => J.pure (hw ▸ q)))))))
theorem Zqz {x : Str} {v : Value} {ex : Bool} {Q : Value -> St -> Prop} (O : B.Ok) (hi : σ a = some (.inst C fs)) (hv : fs.lookup x = some v) (hh : handedIn v = true) (h : Q v σ) : ∀ u, er u = .ref a -> J B A ψ er (getAttr u x ex) Q E σ := fun u hu => by
 rw [Yc hu]; exact J.lift (Zpn O hi hv hh h)
theorem Zra {x : Expr} {n : Str} {p : Pos} {v : Value} {Q : Value -> St -> Prop} (O : B.Ok) (h : JE B A env ψ x (fun o σ₁ => ∃ a C fs, o = .ref a /\ σ₁ a = some (.inst C fs) /\ ∃ v, fs.lookup n = some v /\ handedIn v = true /\ Q v σ₁) E σ)
  (hb : attributeBase x n env (eval x env) = eval x env) : JE B A env ψ (.Attribute x n p) Q E σ :=
 Zqy (J.mono h fun o σ₁ ⟨a, C, fs, e, hi, v, hv, hh, q⟩ => e ▸ Zqz O hi hv hh q) hb
theorem Ru {p : Pos} {Q : List Value -> St -> Prop} (h : Q [] σ) : J B A ψ Yj (spliced (backTo p (starEach [] env))) Q E σ := J.pure h
theorem Kg {x : Expr} {es : List Expr} {p : Pos} {Q : List Value -> St -> Prop} (h : JE B A env ψ x (fun v σ₁ => J B A ψ Yj (spliced (backTo p (starEach es env))) (fun vs => Q (v :: vs)) E σ₁) E σ)
  (hs : starEach (x :: es) env = (false, eval x env) :: starEach es env) : J B A ψ Yj (spliced (backTo p (starEach (x :: es) env))) Q E σ := by
 rw [hs]
 show J B A ψ Yj (spliced ((false, eval x env) :: backTo p (starEach es env))) Q E σ
 rw [spliced]
 refine J.bind (J.mono h fun v σ₁ h₁ u hu => ?_)
 simp only [Bool.false_eq_true, if_false]
 refine J.bind (e := Yj) (J.pure fun us hus => J.bind (J.holding (J.mono h₁ fun vs σ₂ q ws hws => J.pure ?_)))
 have : Yj us = [v] := by rw [hus]; simp [hu]
 show Q (List.map er (us ++ ws)) σ₂
 rw [List.map_append, show List.map er us = [v] from this, show List.map er ws = vs from hws]
 exact q
noncomputable def Zv (B : Bgd) (A : Around) (ψ : St) (f : Value) (first vs : List Value) (Q : Value -> St -> Prop) (E : Value -> Shared -> Prop) (σ : St) : Prop :=
 ∀ us, Yj us = vs -> J B A ψ er (call f (first ++ us)) Q E σ
noncomputable def Op (f : Value) : Prop := (∃ i, f = .builtin i) \/ (∃ T, f = .type T) \/ ∀ P : Params, keepIn (K P) f = true
theorem Zfk {f : Value} (hk : Op f) (M : Model) (h : Heap) (w : World) (X : (K w.params).In h) : ∃ k, (k = Keeper.frame \/ k = Keeper.machine \/ k = Keeper.boundFrame) /\ Looks M h (keeperOf f) k := by
 rcases hk with ⟨i, rfl⟩ | ⟨T, rfl⟩ | hk
 · exact Zp .machine (.inr (.inl rfl)) (.of_pure rfl)
 · exact Zp .machine (.inr (.inl rfl)) (.of_pure rfl)
 · exact keeps_K (hk _) h X
theorem Zfl {p p' : Pos} {f : Value} {first : List Value} {es : List Expr} {Q : Value -> St -> Prop} (O : B.Ok) (hk : Op f)
  (h : J B A ψ Yj (spliced (backTo p (starEach es env))) (fun vs σ₁ => Zv B A ψ f first vs Q E σ₁) E σ) (hp : (backTo p (starEach es env)).any (·.1) = false) :
  J B A ψ er (callWith p' f first (backTo p (starEach es env)) []) Q E σ := fun hL φ d u₀ s r => by
 refine callWith_of (P := fun h => (K B.w.params).In h) (by rw [hp]; rfl) (fun h X => Zfk hk _ h B.w X) ?_
 have base := h hL φ d u₀ s r
 have fin : wpAny (model pw B.w) A (spliced (backTo p (starEach es env))) (fun vs s₁ => (K B.w.params).In s₁.heap /\ wpAny (model pw B.w) A (call f (first ++ vs) []) (fun v s' => PA B φ (PJ ψ Q) (er v) s') E s₁) E s :=
  wpAny_mono base (fun vs s₁ ⟨τ, d₁, r₁, σ₁, hL₁, e₁, q⟩ => ⟨O.k.keeps r₁.keep, by subst e₁; exact q vs rfl hL₁ φ d₁ u₀ s₁ r₁⟩) fun _ _ x => x
 cases hz : backTo p (starEach es env) with
 | nil =>
  rw [hz] at fin
  unfold evalArgs
  show wpAny _ _ (spliced [] >>= _) _ _ s
  refine wpAny_bind (wpAny_mono fin (fun vs s' h' => ?_) fun _ _ x => x)
  exact wpAny_holding (wpAny_bind (wpAny_pure (wpAny_bind (wpAny_pure (wpAny_pure h')))))
 | cons y ys =>
  rw [hz] at fin hp
  obtain ⟨b, t⟩ := y
  have : b = false := by simpa using (Bool.or_eq_false_iff.mp (List.any_cons ▸ hp)).1
  subst this
  exact evalArgs_plain fin
theorem Zrb {f : Expr} {es : List Expr} {p : Pos} {Q : Value -> St -> Prop} (O : B.Ok)
   (h : JE B A env ψ f (fun fv σ₁ => Op fv /\ er fv = fv /\ J B A ψ Yj (spliced (backTo p (starEach es env))) (fun vs σ₂ => Zv B A ψ fv [] vs Q E σ₂) E σ₁) E σ)
   (he : eval (.Call f es [] p) env = (do callWith p (<- eval f env) [] (backTo p (starEach es env)) (backToKw p (keywordEach [] env))))
   (hp : (backTo p (starEach es env)).any (·.1) = false) : JE B A env ψ (.Call f es [] p) Q E σ := by
 show J B A ψ er (eval (.Call f es [] p) env) Q E σ
 rw [he]
 refine J.bind (J.mono h fun fv σ₁ zq u hu => ?_)
 (refine Xo zq ?_; clear zq; intro hk hf q)
 have : u = fv := by
   rcases hk with ⟨i, rfl⟩ | ⟨T, rfl⟩ | hk
   · exact Zey hu
   · exact Zbm hu
   · have := hk B.w.params
     unfold keepIn at this
     cases fv <;> first | cases this | exact Yc hu
 subst this
 exact Zfl O hk q hp
theorem Zrc {o : Expr} {n : Str} {ap p : Pos} {es : List Expr} {Q : Value -> St -> Prop} (O : B.Ok)
   (h : JE B A env ψ o (fun ov σ₁ => ∀ u, er u = ov -> ∀ pl, J B A ψ Jo (getMethod u n pl) (fun fm σ₂ => Op fm.1 /\ er fm.1 = fm.1 /\ ∀ first, Yj first = fm.2 -> J B A ψ Yj (spliced (backTo p (starEach es env))) (fun vs σ₃ => Zv B A ψ fm.1 first vs Q E σ₃) E σ₂) E σ₁) E σ)
   (hb : attributeBase o n env (eval o env) = eval o env) (hl : (ap.endLine == p.line) = true)
   (hform : methodCallForm (es.length + ([] : List Keyword).length) (backTo p (starEach es env)) (backToKw p (keywordEach [] env)) = true)
   (hp : (backTo p (starEach es env)).any (·.1) = false) : JE B A env ψ (.Call (.Attribute o n ap) es [] p) Q E σ := by
 show J B A ψ er (do
   let ov <- attributeBase o n env (eval o env)
   PySem.standAt ap.atName
   methodCall o n ap p env ov (es.length + ([] : List Keyword).length) (backTo p (starEach es env)) (backToKw p (keywordEach [] env))) Q E σ
 rw [hb]
 refine J.bind (J.mono h fun ov σ₁ q u hu => J.bind (e := _root_.id) (J.standAt fun _ _ => ?_))
 unfold methodCall calleeOf methodCallPos
 simp only [hform, hl, if_true, Bool.not_true, Bool.false_or]
 refine J.bind (e := Jo) (J.holding (J.mono (q u hu _) ?_))
 rintro ⟨f, first⟩ σ₂ ⟨hk, hf, z⟩ ⟨f', first'⟩ hff
 refine Zg (Prod.mk.inj hff) fun hf' hfi => ?_
 have : f' = f := by
   rcases hk with ⟨i, rfl⟩ | ⟨T, rfl⟩ | hk
   · exact Zey hf'
   · exact Zbm hf'
   · have := hk B.w.params
     unfold keepIn at this
     cases f <;> first | cases this | exact Yc hf'
 subst this
 refine J.bind (e := _root_.id) (J.pure fun cp hcp => ?_)
 exact Zfl O hk (z first' hfi) hp
noncomputable def Zfm (C : Addr) (x : Str) (f : Addr) : Prop := ∀ P : Params, findIn (K P) (.ref C) x = some (some (.ref f)) /\ isFn (K P) (.ref f) = true /\ keepIn (K P) (.ref f) = true
theorem Zrd {x : Str} {f : Addr} {pl : Sem Bool} {Q : Value × List Value -> St -> Prop} (O : B.Ok) (hi : σ a = some (.inst C fs)) (hn : fs.lookup x = none) (hm : Zfm C x f) (h : Q (.ref f, [.ref a]) σ) : wA B A Jo (getMethod (.ref a) x pl) Q E σ := fun φ d u₀ s r => by
 refine Zbi (r.inst (Zn hi)) fun dd es n q1 q2 q3 q4 q5 q6 => ?_
 refine Zb (q3.get (x := x)) fun o o1 o2 => ?_
 have : o = none := by
  cases o with
  | none => rfl
  | some u => rw [hn] at o2; exact Wh o2
 subst this
 have X := O.k.keeps r.keep
 refine Xs (q4 B.w.params) fun p1 p2 p3 p4 => ?_
 refine Xo (hm B.w.params) fun m1 m2 m3 => ?_
 exact method_fn X (Rq q1 q2) (plainGet_of p1).1 (plainGet_of p1).2 m1 (beq_iff_eq.mp m2) (by show (lookIn x (dictOf es n)).map _ = _; rw [lookIn_dict, o1]; rfl) ⟨σ, d, r, h⟩
noncomputable def wC (B : Bgd) (A : Around) (f : Value) (us : List Value) (Q : Value -> St -> Prop) (E : Value -> Shared -> Prop) (σ : St) : Prop :=
 ∀ φ, Dis σ φ -> HOK A φ -> ∀ s, Rep B (Un σ φ) s -> codeAny (model pw B.w) A (.call f ⟨us, []⟩) (fun r s' => match r with | .ok (.ret v) => PA B φ Q (er v) s' | .ok _ => False | .error e => E e s') s
theorem wC.wA {f : Value} {us : List Value} {Q : Value -> St -> Prop} (h : wC B A f us Q E σ) : wA B A er (call f us) Q E σ := fun φ d u s r => wpAny_call (h φ d u s r)
noncomputable def Te : Flow -> Value
 | .ret v => v
 | _ => .none
theorem RepO.keep {w : World} {h h' : Heap} {δ : Addr -> Addr} {a : Addr} {o : AO} (x : RepO w h δ a o) (k : ∀ b o, h.get? b = some o -> h'.get? b = some o) : RepO w h' δ a o := by
 refine x.same ((k _ _ x.there.choose_spec).trans x.there.choose_spec.symm) fun y => ⟨rfl, ?_⟩
 cases o with
 | inst C fs => exact (k _ _ x.dthere.choose_spec).trans x.dthere.choose_spec.symm
 | _ => exact Yb y
theorem Rep.pushNs {s : Shared} {h' : Heap} {t : Nat} {m' : Str -> Option Value} {ml : Zc} (h : Rep B σ s) (k : ∀ b o, s.heap.get? b = some o -> h'.get? b = some o) (N : h'.Ns s.heap.objs.size m') (q : ∀ x, (m' x).map er = ml.lookup x) :
   Rep B (upd σ s.heap.objs.size (.ns ml)) { s with heap := h', toks := t } := by
 have hz := h.size
 obtain ⟨h1, h2, h3, h4, δ, k1, k2, k3⟩ := h
 have lt : ∀ b o, σ b = some o -> b < s.heap.objs.size := fun b o q => Heap.lt_size (k1 b o q).2.there.choose_spec
 have un : ∀ b C fs, upd σ s.heap.objs.size (.ns ml) b = some (.inst C fs) -> σ b = some (.inst C fs) := fun b C fs q => by
   by_cases z : b = s.heap.objs.size
   · subst z; rw [Yz] at q; cases q
   · rwa [Zz z] at q
 refine ⟨fun b o q => k _ _ (h1 b o q), Nat.le_trans h2 (Nat.le_of_lt N.lt), h3, h4, δ, fun b ob q' => ?_, fun b C fs q' => ⟨(k2 b C fs (un _ _ _ q')).1, ?_⟩, fun b C fs b' C' fs' q q' => k3 b C fs b' C' fs' (un _ _ _ q) (un _ _ _ q')⟩
 · by_cases z : b = s.heap.objs.size
   · subst z; rw [Yz] at q'; (replace q' := sI q'; subst q'); exact ⟨fun _ => hz, m', N, q⟩
   · rw [Zz z] at q'
     exact ⟨(k1 b ob q').1, (k1 b ob q').2.keep k⟩
 · rw [Zz (Nat.ne_of_lt (Heap.lt_size (k1 b _ (un _ _ _ q')).2.dthere.choose_spec))]
   exact (k2 b C fs (un _ _ _ q')).2
theorem Rv (bs : List (Str × Value)) : ∀ x, (bs.reverse.lookup x).map er = ((bs.map fun b => (b.1, er b.2)).reverse).lookup x := by
 intro x
 rw [<- List.map_reverse]
 generalize bs.reverse = l
 induction l with
 | nil => rfl
 | cons p r ih =>
   obtain ⟨k, v⟩ := p
   by_cases z : x = k
   · subst z; simp
   · simp only [List.map_cons, List.lookup_cons, beq_eq_false_iff_ne.mpr z]; exact ih
end
end Mine
end
noncomputable section
namespace Mine
noncomputable def Ge (p q : AO) : Prop := p = q \/ (Kv p = false /\ Kw p = false /\ Kw q = false /\ ∀ w h δ a, RepO w h δ a p -> RepO w h δ a q)
noncomputable def Wk (σ τ : St) : Prop := ∀ a o, σ a = some o -> ∃ p, τ a = some p /\ Ge p o
section
variable {α β : Type} {B : Bgd} {A : Around} {E : Value -> Shared -> Prop} {σ τ φ ψ : St} {s : Shared} {a : Addr} {o : AO}
theorem Sub.wk (h : Sub σ τ) : Wk σ τ := fun a o e => ⟨o, h a o e, .inl rfl⟩
theorem Wk.inst (h : Wk σ τ) {C : Addr} {fs : List (Str × Value)} (e : σ a = some (.inst C fs)) : τ a = some (.inst C fs) := by
 refine Zb (h a _ e) fun p h1 h2 => ?_
 rcases h2 with rfl | ⟨_, _, h3, _⟩
 · exact h1
 · exact Xf h3
theorem Wk.none (h : Wk σ τ) (e : τ a = none) : σ a = none := by
 cases z : σ a with
 | none => rfl
 | some o => refine Zb (h a o z) fun p h1 _ => ?_; rw [e] at h1; exact Zk h1
theorem Rep.weak (r : Rep B τ s) (q : Wk σ τ) : Rep B σ s := by
 obtain ⟨h1, h2, h3, h4, δ, k1, k2, k3⟩ := r
 refine ⟨h1, h2, h3, h4, δ, fun a o e => ?_, fun a C fs e => ⟨(k2 a C fs (q.inst e)).1, q.none (k2 a C fs (q.inst e)).2⟩, fun a C fs b C' fs' e e' => k3 a C fs b C' fs' (q.inst e) (q.inst e')⟩
 refine Zb (q a o e) fun p e1 e2 => ?_
 rcases e2 with rfl | ⟨i1, i2, i3, i4⟩
 · exact k1 a p e1
 · exact ⟨fun _ => (k1 a p e1).1 i1, i4 _ _ _ _ (k1 a p e1).2⟩
theorem Dis.weak (d : Dis τ φ) (q : Wk σ τ) : Dis σ φ := fun b => (d b).imp q.none fun h => h
theorem Wk.un (q : Wk σ τ) (d : Dis τ φ) : Wk (Un σ φ) (Un τ φ) := fun b o e => by
 unfold Un at e ⊢
 cases z : σ b with
 | some o' =>
   rw [z] at e; (replace e := sI e; subst e)
   refine Zb (q b _ z) fun p h1 h2 => ?_
   exact Zp p (by rw [h1]; rfl) h2
 | none =>
   rw [z] at e
   rcases d b with e' | e'
   · exact Zp o (by rw [e']; exact e) (.inl rfl)
   · rw [e'] at e; exact Zk e
theorem Zfn {e : α -> β} {t : Sem α} {Q : β -> St -> Prop} (q : Wk σ τ) (h : wA B A e t Q E σ) : wA B A e t Q E τ := fun φ d u s r => h φ (d.weak q) u s (r.weak (q.un d))
theorem J.weak {e : α -> β} {t : Sem α} {Q : β -> St -> Prop} (q : Wk σ τ) (h : J B A ψ e t Q E σ) : J B A ψ e t Q E τ := fun hL => Zfn (q.un hL) (h (hL.weak q))
theorem Zre {f : Value} {us : List Value} {Q : Value -> St -> Prop} (a : Dis σ ψ) (h : wC B A f us Q E σ) : wC B A f us (PJ ψ Q) E (Un σ ψ) := fun φ d u s r => by
 refine Zg (a.un d) fun d1 d2 => ?_
 rw [Ta] at r
 refine codeAny_mono (h _ d1 (u.un d2) s r) fun res s' q => ?_
 cases res with
 | ok fl =>
  cases fl with
  | ret v =>
   obtain ⟨σ', x, y, z⟩ := q
   exact ⟨Un σ' ψ, (Dis.join x d2).2, by rw [Ta]; exact y, σ', (Dis.join x d2).1, rfl, z⟩
  | _ => exact q
 | error e => exact q
theorem Zrf {f : Value} {us : List Value} {Q : Value -> St -> Prop} (q : Wk σ τ) (h : wC B A f us Q E σ) : wC B A f us Q E τ := fun φ d u s r => h φ (d.weak q) u s (r.weak (q.un d))
theorem Zfo {f : Value} {us : List Value} {Q Q' : Value -> St -> Prop} (h : wC B A f us Q' E σ) (k : ∀ b τ, Q' b τ -> ∃ σ', Wk σ' τ /\ Q b σ') : wC B A f us Q E σ := fun φ d u s r => by
 refine codeAny_mono (h φ d u s r) fun res s' q => ?_
 cases res with
 | ok fl =>
  cases fl with
  | ret v =>
   obtain ⟨τ, x, y, z⟩ := q
   refine Zb (k _ _ z) fun σ' w c => ?_
   exact ⟨σ', x.weak w, y.weak (w.un x), c⟩
  | _ => exact q
 | error e => exact q
theorem JS.weak {e : α -> β} {t : Sem α} {L : Addr} {χ : St} {m : Zc} {Q : β -> Zc -> St -> Prop} (q : Wk σ τ) (h : JS B A L χ e t Q E m σ) : JS B A L χ e t Q E m τ := fun hL => Zfn (q.un hL) (h (hL.weak q))
end
section
variable {α β : Type} {B : Bgd} {A : Around} {E : Value -> Shared -> Prop} {σ : St} {env : Env} {L a C : Addr} {m : Zc} {ψ χ : St} {fs : List (Str × Value)}
theorem Zrg {k : Nat} {f cd : Addr} {n q pm : Str} {st : Stmt} {dV : Value} {t : Tok} {us : List Value} {Q : Value -> St -> Prop} (O : B.Ok) (R : Room A (k + 1)) (hK : ∀ P : Params, (K P).lookup f = some (fo n q st dV pm t cd)) (hc : (cd, q) ∈ codes)
   (binds : List (Str × Value)) (b1 : ∀ s : Shared, (K B.w.params).In s.heap -> BindsTo s (fnX n q (Xy st) (Yl st) (Zi st) [] dV .none .none (.str pm t) none (.ref cd) .none) ⟨us, []⟩ binds) (b2 : ∀ y ∈ binds, (Zi st).names.lookup y.1 = some .local)
   (b3 : ∀ (E : Value -> Shared -> Prop) (L : Addr), σ L = none -> JS B (A.deeper (envX q (Zi st) L f (.ref cd) [])) L (fun _ => none) Rr (execs (Yl st) (envX q (Zi st) L f (.ref cd) []))
     (fun fl m' τ => ∃ σc, Wk σc τ /\ Q (Te fl) σc) E (binds.map fun b => (b.1, er b.2)).reverse σ)
   (hcell : ∀ x ∈ (Zi st).names, x.2 ≠ .cell) (hco : (Zi st).isCoroutine = false) (hgen : (Zi st).isGenerator = false) (hk : (Zi st).kind = .function) : wC B A (.ref f) us Q E σ := by
 intro φ d u s r
 have X := O.k.keeps r.keep
 refine codeAny_call_def (fd := fnX n q (Xy st) (Yl st) (Zi st) [] dV .none .none (.str pm t) none (.ref cd) .none) (body := Yl st) (binds := binds) R.lim (X _ _ (hK _)) rfl (O.nolimit.keeps r.keep) ((O.code _ hc).keeps r.keep) rfl (b1 s X) hcell b2 (fun h₁ hns hk₁ => ?_) hco hgen hk
 have hL : Un σ φ s.heap.objs.size = none := r.size_none
 have r' := r.pushNs (t := s.toks + binds.length) hk₁ hns (Rv binds)
 have hD : Dis σ (fr s.heap.objs.size ((binds.map fun b => (b.1, er b.2)).reverse) (fun _ => none)) := fun a => by
   by_cases z : a = s.heap.objs.size
   · subst z; exact .inl (Ye hL)
   · exact .inr (if_neg z)
 have e1 : upd σ s.heap.objs.size (.ns ((binds.map fun b => (b.1, er b.2)).reverse)) = Un σ (fr s.heap.objs.size ((binds.map fun b => (b.1, er b.2)).reverse) (fun _ => none)) := by
   funext a
   unfold upd Un fr
   by_cases z : a = s.heap.objs.size
   · subst z; simp [Ye hL]
   · simp [z]
 rw [Xz, e1] at r'
 have d' : Dis (Un σ (fr s.heap.objs.size ((binds.map fun b => (b.1, er b.2)).reverse) (fun _ => none))) φ := by
   rw [<- e1]; exact d.upd_new hL _
 refine wpAny_mono (b3 _ s.heap.objs.size (Ye hL) hD φ d' u _ r') (fun fl s' zq => ?_) fun _ _ x => x
 (refine Jp zq ?_; clear zq; intro m' σ' hL' d₂ r₂ zr)
 obtain ⟨σc, hs, hq⟩ := zr
 have sub : Wk σc (Un σ' (fr s.heap.objs.size m' (fun _ => none))) := fun b o e => let ⟨p, h1, h2⟩ := hs b o e; ⟨p, Zn h1, h2⟩
 exact ⟨σc, d₂.weak sub, r₂.weak (sub.un d₂), by cases fl <;> exact hq⟩
end
end Mine
end
noncomputable section
namespace Mine
section
variable {α β : Type} {B : Bgd} {A : Around} {E : Value -> Shared -> Prop} {σ : St} {env : Env} {L a C : Addr} {m : Zc} {ψ χ : St} {fs : List (Str × Value)}
noncomputable abbrev JX (B : Bgd) (A : Around) (env : Env) (χ : St) (t : Sem Flow) (Q : Flow -> Zc -> St -> Prop) (E : Value -> Shared -> Prop) (m : Zc) (σ : St) : Prop := JS B A env.locals χ Rr t Q E m σ
noncomputable def Kh (B : Bgd) (A : Around) (env : Env) (χ : St) (rest : List Stmt) (Q : Flow -> Zc -> St -> Prop) (E : Value -> Shared -> Prop) (fl : Flow) (m : Zc) (σ : St) : Prop := match fl with
 | .next => JX B A env χ (execs rest env) Q E m σ
 | f => Q f m σ
theorem Zfp {rest : List Stmt} {Q : Flow -> Zc -> St -> Prop} (h : JX B A env χ (execs rest env) Q E m σ) : Kh B A env χ rest Q E .next m σ := h
theorem Zrh {Q : Flow -> Zc -> St -> Prop} (h : Q .next m σ) : JX B A env χ (execs [] env) Q E m σ := JS.pure h
theorem Od {s : Stmt} {rest : List Stmt} {Q : Flow -> Zc -> St -> Prop} (h : JX B A env χ (exec s env) (Kh B A env χ rest Q E) E m σ) : JX B A env χ (execs (s :: rest) env) Q E m σ := by
 show JS B A env.locals χ Rr (do
  match <- exec s env with
  | .next => execs rest env
  | f => Pure.pure f) Q E m σ
 refine JS.bind (JS.mono h fun fl m' σ' q f hf => ?_)
 cases f <;> (subst hf; first | exact q | exact JS.pure q)
theorem Zri {x : Expr} {p : Pos} {rest : List Stmt} {Q : Flow -> Zc -> St -> Prop} (h : JE B A env (fr env.locals m χ) x (fun v σ₁ => Q (.ret v) m σ₁) E σ) : JX B A env χ (execs (.Return (some x) p :: rest) env) Q E m σ :=
 Od fun hL φ d u₀ s r => wpAny_Return_some (wpAny_mono (h hL φ d u₀ s r) (fun v s₁ zp => Rs zp fun _ q => q) fun _ _ x => x)
theorem Zrj {p : Pos} {rest : List Stmt} {Q : Flow -> Zc -> St -> Prop} (h : Q (.ret .none) m σ) : JX B A env χ (execs (.Return none p :: rest) env) Q E m σ :=
 Od fun hL φ d u₀ s r => wpAny_Return_none ⟨_, fun a => d a, r, m, σ, hL, rfl, h⟩
theorem Zfq {x : Expr} {p : Pos} {rest : List Stmt} {Q : Flow -> Zc -> St -> Prop} (h : JE B A env (fr env.locals m χ) x (fun _ σ₁ => JX B A env χ (execs rest env) Q E m σ₁) E σ)
  (hi : interactive env = false) (hs : swapsWith x none p.line env = pure false) : JX B A env χ (execs (.Expr x p :: rest) env) Q E m σ :=
 Od fun hL φ d u₀ s r => wpAny_Expr_any (wpAny_mono (h hL φ d u₀ s r) (fun v s₁ zp => Rs zp fun _ q => q) fun _ _ x => x) hi hs
theorem JS.store {x : Str} {v : Value} {Q : Unit -> Zc -> St -> Prop} (F : FnEnv env) (hk : env.kindOf x = some .local) (h : Q () (Ym x (er v) m) σ) : JS B A env.locals χ (_root_.id : Unit -> Unit) (storeName env x v) Q E m σ := fun hL =>
 Zpk F hk (Gc hL Wo) ⟨Ym x (er v) m, σ, Zpq hL _, Zpp hL, h⟩
theorem Zrk {x : Str} {p p' : Pos} {v : Expr} {rest : List Stmt} {Q : Flow -> Zc -> St -> Prop} (F : FnEnv env) (h : JE B A env (fr env.locals m χ) v (fun u σ₁ => JX B A env χ (execs rest env) Q E (Ym x u m) σ₁) E σ)
  (hk : env.kindOf x = some .local) (hs : swapsWith v (some (.Name x p')) p.line env = pure false) : JX B A env χ (execs (.Assign [.Name x p'] v p :: rest) env) Q E m σ :=
 Od fun hL φ d u₀ s r => wpAny_Assign_Name (wpAny_mono (h hL φ d u₀ s r) (fun u s₁ zq => by
  (refine Xc zq ?_; clear zq; intro σ₁ hL₁ d₁ r₁ q)
  exact wpAny_mono (JS.store (Q := fun _ m' σ' => Kh B A env χ rest Q E .next m' σ') F hk q hL₁ φ d₁ u₀ s₁ r₁) (fun _ s₂ zp => psT zp fun _ _ q => q) fun _ _ x => x) fun _ _ x => x) hs
theorem Zrl {o : Expr} {n : Str} {p p' : Pos} {v : Expr} {rest : List Stmt} {Q : Flow -> Zc -> St -> Prop}
  (h : JE B A env (fr env.locals m χ) v (fun u σ₁ => JE B A env (fr env.locals m χ) o (fun ov σ₂ => ∀ v' o', er v' = u -> er o' = ov -> J B A (fr env.locals m χ) (_root_.id : Unit -> Unit) (setAttr o' n v') (fun _ σ₃ => JX B A env χ (execs rest env) Q E m σ₃) E σ₂) E σ₁) E σ)
  (hs : swapsWith v (some (.Attribute o n p')) p.line env = pure false) : JX B A env χ (execs (.Assign [.Attribute o n p'] v p :: rest) env) Q E m σ :=
 Od fun hL φ d u₀ s r => plainObj_wpAny_Assign_Attribute (wpAny_mono (h hL φ d u₀ s r) (fun u s₁ zq => by
  (refine Xc zq ?_; clear zq; intro σ₁ hL₁ d₁ r₁ q)
  refine wpAny_mono (q hL₁ φ d₁ u₀ s₁ r₁) (fun ov s₂ zq => ?_) fun _ _ x => x
  (refine Xc zq ?_; clear zq; intro σ₂ hL₂ d₂ r₂ q₂)
  exact wpAny_mono (q₂ u ov rfl rfl hL₂ φ d₂ u₀ s₂ r₂) (fun _ s₃ zp => Rs zp fun _ q => q) fun _ _ x => x) fun _ _ x => x) hs
theorem Zrm {o : Expr} {n : Str} {p p' : Pos} {v : Expr} {rest : List Stmt} {Q : Flow -> Zc -> St -> Prop} (O : B.Ok)
  (h : JE B A env (fr env.locals m χ) v (fun u σ₁ => JE B A env (fr env.locals m χ) o (fun ov σ₂ => ∃ a C fs, ov = .ref a /\ σ₂ a = some (.inst C fs) /\ (Ke C n \/ (fs.lookup n).isSome = true) /\ fs.length < 200 /\ JX B A env χ (execs rest env) Q E m (upd σ₂ a (.inst C (Ym n u fs)))) E σ₁) E σ)
  (hs : swapsWith v (some (.Attribute o n p')) p.line env = pure false) : JX B A env χ (execs (.Assign [.Attribute o n p'] v p :: rest) env) Q E m σ := by
 refine Zrl (J.mono h fun u σ₁ h₁ => J.mono h₁ fun ov σ₂ zq v' o' hv ho => ?_) hs
 (refine Znp zq ?_; clear zq; intro a C fs e hi hx hl q)
 subst e hv
 rw [Yc ho]
 exact J.lift (Zpo O hi hx hl q)
theorem Zfr {o i : Expr} {p p' : Pos} {v : Expr} {rest : List Stmt} {Q : Flow -> Zc -> St -> Prop}
  (h : JE B A env (fr env.locals m χ) v (fun u σ₁ => JE B A env (fr env.locals m χ) o (fun ov σ₂ => JE B A env (fr env.locals m χ) i (fun iv σ₃ => ∀ v' o' i', er v' = u -> er o' = ov -> er i' = iv -> J B A (fr env.locals m χ) (_root_.id : Unit -> Unit) (setItem o' i' v') (fun _ σ₄ => JX B A env χ (execs rest env) Q E m σ₄) E σ₃) E σ₂) E σ₁) E σ)
  (hs : swapsWith v (some (.Subscript o i p')) p.line env = pure false) : JX B A env χ (execs (.Assign [.Subscript o i p'] v p :: rest) env) Q E m σ :=
 Od fun hL φ d u₀ s r => wpAny_Assign_Subscript (wpAny_mono (h hL φ d u₀ s r) (fun u s₁ zq => by
  (refine Xc zq ?_; clear zq; intro σ₁ hL₁ d₁ r₁ q)
  refine wpAny_mono (q hL₁ φ d₁ u₀ s₁ r₁) (fun ov s₂ zq => ?_) fun _ _ x => x
  (refine Xc zq ?_; clear zq; intro σ₂ hL₂ d₂ r₂ q₂)
  refine wpAny_mono (q₂ hL₂ φ d₂ u₀ s₂ r₂) (fun iv s₃ zq => ?_) fun _ _ x => x
  (refine Xc zq ?_; clear zq; intro σ₃ hL₃ d₃ r₃ q₃)
  exact wpAny_mono (q₃ u ov iv rfl rfl rfl hL₃ φ d₃ u₀ s₃ r₃) (fun _ s₄ zp => Rs zp fun _ q => q) fun _ _ x => x) fun _ _ x => x) hs
theorem Zfs {t : Expr} {b o rest : List Stmt} {p : Pos} {Q : Flow -> Zc -> St -> Prop}
  (h : JT B A env (fr env.locals m χ) t (fun c σ₁ => (c = true -> JX B A env χ (execs b env) (Kh B A env χ rest Q E) E m σ₁) /\ (c = false -> JX B A env χ (execs o env) (Kh B A env χ rest Q E) E m σ₁)) E σ) : JX B A env χ (execs (.If t b o p :: rest) env) Q E m σ :=
 Od fun hL φ d u₀ s r => wpAny_If (wpAny_mono (h hL φ d u₀ s r) (fun c s₁ zq => by
  (refine Xc zq ?_; clear zq; intro σ₁ hL₁ d₁ r₁ q)
  cases c with
  | true => exact q.1 rfl hL₁ φ d₁ u₀ s₁ r₁
  | false => exact q.2 rfl hL₁ φ d₁ u₀ s₁ r₁) fun _ _ x => x)
end
end Mine
end
noncomputable section
namespace Mine
section
variable {α β : Type} {B : Bgd} {A : Around} {E : Value -> Shared -> Prop} {σ : St} {env : Env} {L a b C : Addr} {m : Zc} {ψ χ : St} {xs ys : List Value} {s : Shared}
noncomputable def isLst (σ : St) (a : Addr) (xs : List Value) : Prop := σ a = some (.lst xs) \/ σ a = some (.slst xs)
theorem Rep.isL (h : Rep B σ s) (e : isLst σ a xs) : ∃ items n, IsL s.heap a items n /\ items.toList.map er = xs := by
 obtain ⟨_, _, _, _, δ, k1, _⟩ := h
 rcases e with e | e <;> exact (k1 a _ e).2
theorem isLst.un {φ : St} (e : isLst σ a xs) : isLst (Un σ φ) a xs := e.elim (fun q => .inl (Zn q)) fun q => .inr (Zn q)
theorem Xk {items : Array Value} (e : items.toList.map er = xs) : items.size = xs.length := by rw [<- e]; simp
theorem Gf {items : Array Value} (e : items.toList.map er = xs) {k : Nat} {v : Value} (h : xs[k]? = some v) : ∃ u, items[k]? = some u /\ er u = v := by
 rw [<- e, List.getElem?_map] at h
 refine Zb (Option.map_eq_some_iff.mp h) fun u h1 h2 => ?_
 exact Zp u (by rw [<- Array.getElem?_toList]; exact h1) h2
theorem Zft {t : Sem Value} {Q : Value -> St -> Prop}
   (h : ∀ φ s, Dis σ φ -> Rep B (Un σ φ) s -> ∀ R : Value -> Shared -> Prop, (∀ (its : Array Value) n h' tk, its.toList.map er = ys -> (∀ b o, s.heap.get? b = some o -> h'.get? b = some o) -> IsL h' s.heap.objs.size its n -> R (.ref s.heap.objs.size) { s with heap := h', toks := tk }) -> wpAny (model pw B.w) A t R E s)
   (q : ∀ a, σ a = none -> Q (.ref a) (upd σ a (.lst ys))) : wA B A er t Q E σ := fun φ d u₀ s r =>
 h φ s d r _ fun its n h' tk hi hk hl => by
   have hn := r.size_none
   refine ⟨upd σ s.heap.objs.size (.lst ys), d.upd_new hn _, ?_, q _ (Ye hn)⟩
   rw [<- Xz]
   have hz := r.size
   obtain ⟨h1, h2, h3, h4, δ, k1, k2, k3⟩ := r
   have un : ∀ b C fs, upd (Un σ φ) s.heap.objs.size (.lst ys) b = some (.inst C fs) -> Un σ φ b = some (.inst C fs) := fun b C fs q => by
     by_cases z : b = s.heap.objs.size
     · subst z; rw [Yz] at q; cases q
     · rwa [Zz z] at q
   refine ⟨fun b o q => hk _ _ (h1 b o q), Nat.le_trans h2 (Nat.le_of_lt (Heap.lt_size hl)), h3, h4, δ, fun b ob q' => ?_, fun b C fs q' => ⟨(k2 b C fs (un _ _ _ q')).1, ?_⟩, fun b C fs b' C' fs' q q' => k3 b C fs b' C' fs' (un _ _ _ q) (un _ _ _ q')⟩
   · by_cases z : b = s.heap.objs.size
     · subst z; rw [Yz] at q'; (replace q' := sI q'; subst q'); exact ⟨fun _ => hz, its, n, hl, hi⟩
     · rw [Zz z] at q'
       exact ⟨(k1 b ob q').1, (k1 b ob q').2.keep hk⟩
   · rw [Zz (Nat.ne_of_lt (Heap.lt_size (k1 b _ (un _ _ _ q')).2.dthere.choose_spec))]
     exact (k2 b C fs (un _ _ _ q')).2
theorem Tf {t : Sem Value} {Q : Value -> St -> Prop}
  (h : ∀ φ s, Dis σ φ -> Rep B (Un σ φ) s -> ∀ R : Value -> Shared -> Prop, (∀ (its : Array Value) tk, its.toList.map er = ys -> R (.ref s.heap.objs.size) { s with heap := s.heap.push { cls := .type "list", data := .seq its }, toks := tk }) -> wpAny (model pw B.w) A t R E s)
  (q : ∀ a, σ a = none -> Q (.ref a) (upd σ a (.lst ys))) : wA B A er t Q E σ :=
 Zft (fun φ s d r R k => h φ s d r R fun its tk e => k its 0 _ tk e (fun b o q => Heap.get?_push_of_some _ q) (IsL.new ..)) q
theorem Gg {e : α -> β} {t : Sem α} {Q : β -> St -> Prop} (hl : σ a = some (.lst xs))
  (h : ∀ φ s, Dis σ φ -> Rep B (Un σ φ) s -> ∀ items n, IsL s.heap a items n -> items.toList.map er = xs -> ∀ R : α -> Shared -> Prop, (∀ (its : Array Value) n' h' tk v, its.toList.map er = ys -> Heap.SameBut a s.heap h' -> IsL h' a its n' -> Q (e v) (upd σ a (.lst ys)) -> R v { s with heap := h', toks := tk }) -> wpAny (model pw B.w) A t R E s)  : wA B A e t Q E σ := fun φ d u₀ s r => by
 refine Zx (r.isL (.inl (Zn hl))) fun items n h1 h2 => ?_
 refine h φ s d r items n h1 h2 _ fun its n' h' tk v e1 e2 e3 q => ⟨_, d.upd_some hl _, ?_, q⟩
 rw [<- Xz]
 exact r.set (Zn hl) rfl rfl rfl e2 fun δ _ => ⟨its, n', e3, e1⟩
theorem Rw {n : Nat} (h : n <= sizeLine) : (n : Int) < 2 ^ 63 := by rw [sizeLine_eq] at h; omega
noncomputable def Zfu (B : Bgd) (A : Around) (ψ : St) (σ : St) (f : Value) (vs : List Value) (v : Value) : Prop := ∀ Q E, Q v σ -> Zv B A ψ f [] vs Q E σ
theorem Xl {us : List Value} {v : Value} (h : Yj us = [v]) : ∃ u, us = [u] /\ er u = v := by
 rcases us with _ | ⟨u, _ | ⟨u', r⟩⟩ <;> first | (cases h; done) | exact Zp u rfl ((List.cons.inj h).1)
theorem Jr {us : List Value} {v v' : Value} (h : Yj us = [v, v']) : ∃ u u', us = [u, u'] /\ er u = v /\ er u' = v' := by
 rcases us with _ | ⟨u, _ | ⟨u', _ | ⟨u'', r⟩⟩⟩ <;> first | (cases h; done) | exact Qn u u' rfl ((List.cons.inj h).1) ((List.cons.inj (List.cons.inj h).2).1)
theorem Zrn {f : Value} {vs : List Value} {v : Value} (h : ∀ us, Yj us = vs -> ∀ φ s, Dis σ φ -> Rep B (Un σ φ) s -> ∀ E (R : Value -> Shared -> Prop), (∀ tk x, er x = v -> R x { s with toks := tk }) -> wpAny (model pw B.w) A (call f us) R E s) : Zfu B A ψ σ f vs v := fun Q E q us hus =>
 J.lift fun φ d u₀ s r => h us hus φ s d r E _ fun tk x e => ⟨σ, d, r.toks tk, e ▸ q⟩
theorem Zfv (hl : isLst σ a xs) (hz : xs.length <= sizeLine) : Zfu B A ψ σ (.builtin "len") [.ref a] (I xs.length) := Zrn fun us hus φ s d r E R k => by
 refine Zx (r.isL hl.un) fun items n h1 h2 => ?_
 have hs := Xk h2
 (refine Zb (Xl hus) ?_; rintro u rfl hu)
 rw [Yc hu]
 exact call_len_list ⟨_, h1, rfl, n, rfl⟩ (hs ▸ Rw hz) (k _ _ (by rw [hs]; rfl))
theorem Zro {Q : Value -> St -> Prop} (hl : isLst σ a xs) (hz : xs.length <= sizeLine) (q : ∀ b, σ b = none -> Q (.ref b) (upd σ b (.lst xs))) : Zv B A ψ (.type "list") [] [.ref a] Q E σ := fun us hus => J.lift <| Zft (ys := xs) (fun φ s d r R k => by
 refine Zx (r.isL hl.un) fun items n h1 h2 => ?_
 (refine Zb (Xl hus) ?_; rintro u rfl hu)
 rw [List.nil_append]
 rw [Yc hu]
 have hsz : items.size <= sizeLine := Xk h2 ▸ hz
 exact call_list_seq (hsz := hsz) a (.inl rfl) h1 rfl rfl fun h' c' hk hD => k items c' h' s.toks h2 hk hD) q
noncomputable def Oq (B : Bgd) (σ : St) (o : Value) : Prop := ∀ u, er u = o -> ∀ φ s, Dis σ φ -> Rep B (Un σ φ) s -> ∃ T id, s.TypeIs u T /\ typeLookup (.type T) "__getitem__" = pure (some (.builtin id))
theorem Zfw (hl : isLst σ a xs) : Oq B σ (.ref a) := fun u hu φ s d r => by
 refine Zx (r.isL hl.un) fun items n h1 h2 => ?_
 rw [Yc hu]
 exact Om ("list") _ ⟨_, h1, rfl⟩ slot_list_getitem.lookup
theorem Zfx {x : Str} : Oq B σ (S x) := fun u hu φ s d r => by
 (refine Oz hu ?_; rintro t rfl)
 exact Om ("str") _ (typeIs_str _ _ _) F.slot_str_getitem.lookup
theorem Rep.isT (h : Rep B σ s) (e : σ a = some (.tup xs)) : ∃ items n, IsT s.heap a items n /\ items.toList.map er = xs := by
 obtain ⟨_, _, _, _, δ, k1, _⟩ := h
 exact (k1 a _ e).2
theorem Zrp (hl : σ a = some (.tup xs)) : Oq B σ (.ref a) := fun u hu φ s d r => by
 refine Zx (r.isT (Zn hl)) fun items n h1 h2 => ?_
 rw [Yc hu]
 exact Om ("tuple") _ ⟨_, h1, rfl⟩ F.slot_tuple_getitem.lookup
theorem Zfy {x i : Expr} {p : Pos} {Q : Value -> St -> Prop} (h : JE B A env ψ x (fun o σ₁ => JE B A env ψ i (fun iv σ₂ => Oq B σ₂ o /\ ∀ u j, er u = o -> er j = iv -> J B A ψ er (getItem u j) Q E σ₂) E σ₁) E σ)
   (hs : ∀ o i', (subscripted i false o i' = operate [o, i'] (getItem o i')) \/ (subscripted i false o i' = operate [i', o] (getItem o i')) := by intro o i'; first | exact .inl rfl | exact .inr rfl) : JE B A env ψ (.Subscript x i p) Q E σ := by
 show J B A ψ er (do
   let o <- eval x env
   let i' <- PySem.holding [o] (eval i env)
   PySem.standAt p
   let r <- subscripted i (<- getitemInPython o) o i'
   letTemporaryGo x o r
   Pure.pure r) Q E σ
 refine J.bind (J.mono h fun o σ₁ h₁ u hu => J.bind (J.holding (J.mono h₁ fun iv σ₂ ⟨hT, h₂⟩ j hj => J.bind (e := _root_.id) (J.standAt fun _ _ => J.bind (e := _root_.id) ?_))))
 have g : J B A ψ (_root_.id : Bool -> Bool) (getitemInPython u) (fun c σ' => c = false /\ σ' = σ₂) E σ₂ := J.lift fun φ d u₀ s r => by
   (refine Zx (hT u hu φ s d r) ?_; clear hT; intro T id hT hl)
   rw [getitemInPython_of_ne hT.not_modules]
   exact wpAny_bind (wpAny_specialOf hT hl (wpAny_pure ⟨σ₂, d, r, rfl, rfl⟩))
 refine J.mono g ?_
 rintro c σ' ⟨rfl, rfl⟩ c rfl
 refine J.bind (e := er) ?_
 have fin : ∀ vs, J B A ψ er (operate vs (getItem u j)) (fun b σ' => ∀ (a : Value), er a = b -> J B A ψ er (do letTemporaryGo x u a; Pure.pure a) Q E σ') E σ' := fun vs => J.operate (J.mono (h₂ u j hu hj) fun v σ₃ q w hw => J.bind (e := _root_.id) (J.lift (Zfj fun _ _ => J.pure (hw ▸ q))))
 rcases hs u j with e | e
 · show J B A ψ er (subscripted i false u j) _ E σ'
   rw [e]; exact fin _
 · show J B A ψ er (subscripted i false u j) _ E σ'
   rw [e]; exact fin _
theorem Zfz {k : Int} {v : Value} {Q : Value -> St -> Prop} (hl : isLst σ a xs) (h0 : 0 <= k) (hf : k < 2 ^ 63) (hx : xs[k.toNat]? = some v) (q : Q v σ) : Oq B σ (.ref a) /\ ∀ u j, er u = .ref a -> er j = I k -> J B A ψ er (getItem u j) Q E σ := ⟨Zfw hl, fun u j hu hj => J.lift fun φ d u₀ s r => by
 refine Zx (r.isL hl.un) fun items n h1 h2 => ?_
 refine Zb (Gf h2 hx) fun w hw e => ?_
 rw [Yc hu]; (refine Yd hj ?_; rintro _ rfl)
 exact wpAny_getItem_list ⟨_, h1, rfl, n, rfl⟩ h0 hf hw ⟨σ, d, r, e ▸ q⟩⟩
theorem Zrq {k : Nat} {v : Value} {Q : Value -> St -> Prop} (hl : σ a = some (.tup xs)) (hf : (k : Int) < 2 ^ 63) (hx : xs[k]? = some v) (q : Q v σ) : Oq B σ (.ref a) /\ ∀ u j, er u = .ref a -> er j = I k -> J B A ψ er (getItem u j) Q E σ := ⟨Zrp hl, fun u j hu hj => J.lift fun φ d u₀ s r => by
 refine Zx (r.isT (Zn hl)) fun items n h1 h2 => ?_
 refine Zb (Gf h2 hx) fun w hw e => ?_
 rw [Yc hu]; (refine Yd hj ?_; rintro _ rfl)
 have hlt : k < items.size := by
   rcases Nat.lt_or_ge k items.size with z | z
   · exact z
   · rw [Array.getElem?_eq_none z] at hw; exact Zk hw
 refine PySem.P.getItem_tuple (k := k) h1 (by omega) hf ?_ hw ⟨σ, d, r, e ▸ q⟩
 unfold seqIndex?
 simp only [show ¬ ((k : Int) < 0) by exact fun zz => gf (L1 (N1 _) V0 1 (.a nA kI) kZ (li zz) kI kZ rfl), if_false]
 simp [hlt]⟩
theorem Zrr {x : Str} {k : Int} {c : Nat} {Q : Value -> St -> Prop} (h0 : 0 <= k) (hf : k < 2 ^ 63) (hx : x.cps[k.toNat]? = some c) (q : Q (S ⟨#[c]⟩) σ) : Oq B σ (S x) /\ ∀ u j, er u = S x -> er j = I k -> J B A ψ er (getItem u j) Q E σ := ⟨Zfx, fun u j hu hj => J.lift (On fun s _ R kk => by
 (refine Oz hu ?_; rintro _ rfl); (refine Yd hj ?_; rintro _ rfl)
 have hlt : k.toNat < x.length := by
   rcases Nat.lt_or_ge k.toNat x.length with z | z
   · exact z
   · rw [Array.getElem?_eq_none z] at hx; exact Zk hx
 refine PySem.P.getItem_str (c := c) (by simp; exact ⟨nc fun zz => L2 N0 (V1 _) 1 kZ vA h0 1 (.a vA kI) (.k (-9223372036854775808)) zz kI kZ rfl, il (L1 N0 (V1 _) 1 (.a vA kI) (.k 9223372036854775808) (li hf) (.a vA kI) (.k 9223372036854775808) rfl)⟩) ?_ (kk _ _ q)
 unfold seqIndex?
 simp only [show ¬ (k < 0) by exact fun zz => gf (L2 N0 (V1 _) 1 kZ vA h0 1 (.a vA kI) kZ (li zz) kI kZ rfl), if_false]
 rw [show (decide (0 <= k) && decide (k < (x.length : Int))) = true by simp; exact ⟨L1 N0 (V1 _) 1 kZ vA h0 kZ vA rfl, il (L2 (N2 _ _) (V1 _) 1 (.a nB kI) nA (Wi hlt) 1 vA nB (Zl (@Int.toNat_of_nonneg k (L1 N0 (V1 _) 1 kZ vA h0 kZ vA rfl))) (.a vA kI) nA rfl)⟩]
 exact hx)⟩
end
end Mine
end
noncomputable section
namespace Mine
section
variable {α β : Type} {B : Bgd} {A : Around} {E : Value -> Shared -> Prop} {σ : St} {env : Env} {L a b C : Addr} {m : Zc} {ψ χ : St} {xs ys : List Value} {s : Shared}
theorem Zbr {n i j : Nat} : sliceBounds (some (i : Int)) (some (j : Int)) none n = (((min i n : Nat) : Int), ((min j n : Nat) : Int), 1) := by
 simp only [sliceBounds, Option.getD_none, show ¬ ((i : Int) < 0) by exact fun zz => gf (L1 (N1 _) V0 1 (.a nA kI) kZ (li zz) kI kZ rfl), show ¬ ((j : Int) < 0) by exact fun zz => gf (L1 (N1 _) V0 1 (.a nA kI) kZ (li zz) kI kZ rfl), if_false, show (1 : Int) > 0 by decide, if_true]
 congr 1
 · omega
 · congr 1; omega
theorem Zga {n j : Nat} : sliceBounds none (some (j : Int)) none n = (((0 : Nat) : Int), ((min j n : Nat) : Int), 1) := by
 simp only [sliceBounds, Option.getD_none, show ¬ ((j : Int) < 0) by exact fun zz => gf (L1 (N1 _) V0 1 (.a nA kI) kZ (li zz) kI kZ rfl), if_false, show (1 : Int) > 0 by decide, if_true]
 congr 1
 congr 1; omega
theorem Zgb {n i : Nat} : sliceBounds (some (i : Int)) none none n = (((min i n : Nat) : Int), (n : Int), 1) := by
 simp only [sliceBounds, Option.getD_none, show ¬ ((i : Int) < 0) by exact fun zz => gf (L1 (N1 _) V0 1 (.a nA kI) kZ (li zz) kI kZ rfl), if_false, show (1 : Int) > 0 by decide, if_true]
 congr 1
 omega
theorem Zrs {α : Type} (l : List α) (i j : Nat) : (l.drop (min i l.length)).take (min j l.length - min i l.length) = (l.drop i).take (j - i) := by
 rcases Nat.le_total i l.length with h | h
 · rw [Nat.min_eq_left h]
   rcases Nat.le_total j l.length with h' | h'
   · rw [Nat.min_eq_left h']
   · rw [Nat.min_eq_right h', List.take_of_length_le (by simp), List.take_of_length_le (by simp; exact gl (L2 (N4 _ _ _ _) V0 1 nA nD (nl h') 1 nD (.a nB nC) (Zl (@Wb j i (gl (L2 (N3 _ _ _) V0 1 nA nC (nl h) 1 nC nB (nl h') nA nB rfl)))) nA (.a nB nC) rfl))]
 · rw [Nat.min_eq_right h, List.drop_of_length_le (Nat.le_refl _), List.drop_of_length_le h]
   simp
noncomputable def cut {α : Type} (l : List α) : Option Nat -> Option Nat -> List α
 | some i, some j => (l.drop i).take (j - i)
 | none, some j => l.take j
 | some i, none => l.drop i
 | none, none => l
noncomputable def bI : Option Nat -> Option Int
 | none => none
 | some i => some i
theorem Zgc {α : Type} (xs : Array α) (lo hi : Option Nat) : (sliceRange (sliceBounds (bI lo) (bI hi) none xs.size).1 (sliceBounds (bI lo) (bI hi) none xs.size).2.1 (sliceBounds (bI lo) (bI hi) none xs.size).2.2).filterMap (xs[·]?) = cut xs.toList lo hi := by
 cases lo with
 | none =>
   cases hi with
   | none =>
     simp only [bI]
     have e : sliceBounds none none none xs.size = (((0 : Nat) : Int), (xs.size : Int), 1) := by simp [sliceBounds]
     rw [e]
     simp only [sliceRange_one, pick_run, cut]
     rw [List.drop_zero, Nat.sub_zero, List.take_of_length_le (by simp)]
   | some j =>
     simp only [bI, Zga, sliceRange_one, pick_run, cut, List.drop_zero, Nat.sub_zero]
     rcases Nat.le_total j xs.size with h | h
     · rw [Nat.min_eq_left h]
     · rw [Nat.min_eq_right h, List.take_of_length_le (by simp), List.take_of_length_le (by simpa using h)]
 | some i =>
   cases hi with
   | none =>
     simp only [bI, Zgb, sliceRange_one, pick_run, cut]
     rcases Nat.le_total i xs.size with h | h
     · rw [Nat.min_eq_left h, List.take_of_length_le (by simp)]
     · rw [Nat.min_eq_right h, List.drop_of_length_le (by simp), List.drop_of_length_le (by simpa using h)]; simp
   | some j =>
     simp only [bI, Zbr, sliceRange_one, pick_run, cut]
     have := Zrs xs.toList i j
     rw [Array.length_toList] at this
     exact this
theorem Zrt (items : Array Value) (lo hi : Option Nat) : (slicePick items (bI lo) (bI hi) none).toList = cut items.toList lo hi := by
 unfold slicePick
 rw [Zgc]
theorem Zgd {α β : Type} (f : α -> β) (l : List α) (lo hi : Option Nat) : (cut l lo hi).map f = cut (l.map f) lo hi := by
 cases lo <;> cases hi <;> simp [cut]
noncomputable abbrev Qq (vl vu : Value) : Obj := { cls := .type "slice", data := .fields #[vl, vu, .none] }
noncomputable def bV : Option Nat -> Value
 | none => .none
 | some i => I i
theorem Zge {v : Value} {i : Option Nat} (h : er v = bV i) : IsPart v (bI i) := by
 cases i with
 | none => rw [Vz h]; exact .none
 | some i => (refine Yd h ?_; rintro t rfl); exact .int _ _
theorem Sub.upd_new {o : AO} (h : σ a = none) : Sub σ (upd σ a o) := fun b o' e => by
 rw [Zz fun z => ?_]
 · exact e
 · subst z; rw [h] at e; exact Zk e
theorem Sub.upd {τ : St} {o : AO} (h : Sub σ τ) : Sub (upd σ a o) (upd τ a o) := fun b o' e => by
 by_cases z : b = a
 · subst z; rw [Yz] at e ⊢; exact e
 · rw [Zz z] at e ⊢; exact h _ _ e
theorem Sub.none {τ : St} (h : Sub σ τ) (e : τ a = none) : σ a = none := by
 cases z : σ a with
 | none => rfl
 | some o => rw [h _ _ z] at e; exact Wh e
theorem isLst.sub {τ : St} (h : isLst σ a xs) (q : Sub σ τ) : isLst τ a xs := h.elim (fun e => .inl (q _ _ e)) fun e => .inr (q _ _ e)
theorem Zru {α : Type} (l : List α) (lo hi : Option Nat) : (cut l lo hi).length <= l.length := by
 cases lo with
 | none => cases hi with
   | none => exact Nat.le_refl _
   | some j => exact (List.take_sublist j l).length_le
 | some i => cases hi with
   | none => exact (List.drop_sublist i l).length_le
   | some j => exact ((List.take_sublist (j - i) _).trans (List.drop_sublist i l)).length_le
noncomputable abbrev T (l : List Nat) : Value := S ⟨l.toArray⟩
theorem Zgf (lo hi : Option Int) (n : Nat) : Builtin.Str.strSliceIndices lo hi 1 n = sliceRange (sliceBounds lo hi none n).1 (sliceBounds lo hi none n).2.1 (sliceBounds lo hi none n).2.2 := rfl
theorem Zgg (l : List Nat) (i j : Option Nat) : (Builtin.Str.strSliceIndices (bI i) (bI j) 1 l.length).filterMap (l.toArray[·]?) = cut l i j := by
 have := Zgc l.toArray i j
 rw [Zgf]
 simpa using this
theorem Zgh (i n x : Nat) (h : x <= n) : x - min i n = x - i := by
 rcases Nat.le_total i n with g | g
 · rw [Nat.min_eq_left g]
 · rw [Nat.min_eq_right g, Nat.sub_eq_zero_of_le h, Nat.sub_eq_zero_of_le (Nat.le_trans h g)]
theorem Zrv (l : List Nat) (i j : Option Nat) : (Builtin.Str.strSliceIndices (bI i) (bI j) 1 l.length).length = (cut l i j).length := by
 rw [Zgf]
 cases i with
 | none =>
  cases j with
  | none =>
   simp only [bI]
   have e : sliceBounds none none none l.length = (((0 : Nat) : Int), (l.length : Int), 1) := by simp [sliceBounds]
   rw [e]
   simp only [sliceRange_one, cut]; simp
  | some j => simp only [bI, Zga, sliceRange_one, cut]; simp
 | some i =>
  cases j with
  | none => simp only [bI, Zgb, sliceRange_one, cut]; simp; exact Zgh _ _ _ (Nat.le_refl _)
  | some j => simp only [bI, Zbr, sliceRange_one, cut]; simp; rw [Nat.sub_min_sub_right]; exact Zgh _ _ _ (Nat.min_le_right _ _)
theorem Zrw {α : Type} (l : List α) (i j : Option Nat) (h : (cut l i j).length = l.length) : cut l i j = l := by
 have sub : (cut l i j).Sublist l := by
   cases i <;> cases j <;> simp only [cut]
   · exact List.Sublist.refl _
   · exact List.take_sublist _ _
   · exact List.drop_sublist _ _
   · exact (List.take_sublist _ _).trans (List.drop_sublist _ _)
 exact sub.eq_of_length h
end
end Mine
end
noncomputable section
namespace Mine
section
variable {α β : Type} {B : Bgd} {A : Around} {E : Value -> Shared -> Prop} {σ : St} {env : Env} {L a b C : Addr} {m : Zc} {ψ χ : St} {xs ys : List Value} {s : Shared}
theorem Zgi {nm : Str} {id : String} {pl : Sem Bool} {Q : Value × List Value -> St -> Prop} (slot : Slot "list" nm id) (hty : typeOf (.builtin id) = pure (.type "method_descriptor")) (hl : isLst σ a xs) (q : Q (.builtin id, [.ref a]) σ) : J B A ψ Jo (getMethod (.ref a) nm pl) Q E σ :=
 J.lift fun φ d u₀ s r => by
  refine Zx (r.isL hl.un) fun items n h1 h2 => ?_
  exact getMethod_builtin ⟨_, h1, rfl⟩ PySem.F.plainAttrs_list slot hty (fun b e => by (injection e with e; subst e); exact Zp _ h1 rfl) ⟨σ, d, r, q⟩
theorem Zrx {first : List Value} {v : Value} (h : Yj first = [v]) (e : ∀ u, er u = v -> u = v) : first = [v] := by
 (refine Zb (Xl h) ?_; rintro u rfl hu)
 rw [e u hu]
theorem Zbs (items : Array Value) (v : Value) : (items.push v).toList.map er = items.toList.map er ++ [er v] := by simp
theorem Ua {items : Array Value} {n : Nat} {f : Array Value -> Array Value} (x : IsL s.heap a items n) : Heap.SameBut a s.heap (s.heap.update a (Obj.mapSeq f)) /\ IsL (s.heap.update a (Obj.mapSeq f)) a (f items) (if (f items).size == items.size then n else n + 1) := ⟨Heap.SameBut.update .., x.update f⟩
theorem Zbt {v : Value} {Q : Value -> St -> Prop} (hl : σ a = some (.lst xs)) (hz : xs.length <= sizeLine) (q : Q .none (upd σ a (.lst (xs ++ [v])))) : Zv B A ψ (.builtin "list.append") [.ref a] [v] Q E σ := fun us hus => J.lift <| Gg (ys := xs ++ [v]) hl fun φ s d r items n h1 h2 R k => by
 (refine Zb (Xl hus) ?_; rintro u rfl hu)
 exact call_meets F.slot_list_append ⟨_, h1, rfl⟩ F.entry_list_append (F.args_list_append_2 _ _) (list_append a items n u (Xk h2 ▸ hz)) ⟨h1, k _ _ _ s.toks .none (by rw [Zbs, h2, hu]) (Ua h1).1 (Ua h1).2 q⟩
theorem Zry {v : Value} {Q : Value -> St -> Prop} (hl : σ a = some (.lst (v :: xs))) (hz : xs.length < sizeLine) (q : Q v (upd σ a (.lst xs))) : Zv B A ψ (.builtin "list.pop") [.ref a] [I 0] Q E σ := fun us hus => J.lift <| Gg (ys := xs) hl fun φ s d r items n h1 h2 R k => by
 (refine Zb (Xl hus) ?_; rintro u rfl hu)
 obtain ⟨t, rfl⟩ := Ku hu
 have hs : items.size = xs.length + 1 := by have := Xk h2; simpa using this
 refine Zb (Gf h2 (k := 0) (v := v) rfl) fun w hw e => ?_
 refine call_meets F.slot_list_pop ⟨_, h1, rfl⟩ F.entry_list_pop (F.args_list_pop_2 _ _) (MeetsSeq.list_pop_at a items n 0 t 0 w (by decide) (by unfold seqIndex?; simp [hs]) hw (by exact gl (L2 (N3 _ _ _) V0 1 (.a nC kI) nB (Wi hz) 1 nA (.a nC kI) (Wv hs) nA nB rfl))) ⟨h1, k _ _ _ s.toks w ?_ (Ua h1).1 (Ua h1).2 (e ▸ q)⟩
 have hlt : 0 < items.size := by exact Qo (L1 (N2 _ _) V0 1 (.a nB kI) nA (Yq hs) (.a kZ kI) nA rfl)
 have hp : (items.eraseIdxIfInBounds 0).toList = items.toList.tail := by
  unfold Array.eraseIdxIfInBounds
  rw [dif_pos hlt, Array.toList_eraseIdx]
  cases items.toList <;> rfl
 rw [hp, List.map_tail, h2]; rfl
theorem Zrz {l : Addr} {items : Array Value} {n : Nat} {k : Int} {t : Tok} {v : Value} {E : Value -> Shared -> Prop} {Q : Unit -> Shared -> Prop} (hl : IsL s.heap l items n) (h0 : 0 <= k) (hfit : k < 2 ^ 63) (hn : k < items.size)
  (hQ : Q () { s with heap := s.heap.update l (Obj.mapSeq (·.setIfInBounds k.toNat v)) }) : wpAny (model pw B.w) A (setItem (.ref l) (.int k t) v) Q E s := by
 unfold setItem
 refine wpAny_holding ?_
 refine wpAny_bind (wpAny_sequenceKey (T := "list") ⟨_, hl, rfl⟩ (by decide) ?_)
 refine wpAny_bind (wpAny_callSpecial?_slot (name := Str.ofString "__setitem__") (T := "list") ⟨_, hl, rfl⟩ PySem.slot_list_setitem
  (wpAny_call_entry PySem.slot_list_setitem (T := "list") ⟨_, hl, rfl⟩ PySem.entry_list_setitem ?_ (args_list_setitem _ _ _)))
 show wpAny _ _ (Builtin.List.listSubscript? (.int k t) >>= _) _ _ s
 refine wpAny_bind (wpAny_listSubscript_int (fitsIndex_of h0 hfit) ?_)
 clear hfit
 obtain ⟨k, rfl⟩ := Int.eq_ofNat_of_zero_le h0
 have hn' : k < items.size := by exact Qo (L1 (N2 _ _) V0 1 (.a nA kI) nB (li hn) (.a nA kI) nB rfl)
 have hx' : items[k]? = some items[k] := Array.getElem?_eq_getElem hn'
 show wpAny _ _ ((seqItemAt l k >>= fun r => pure (r.map (k, ·))) >>= _) _ _ s
 refine wpAny_bind (wpAny_bind (wpAny_seqItemAt hl rfl (wpAny_pure ?_)))
 rw [hx']
 show wpAny _ _ (setSeqItemAt l k v >>= _) _ _ s
 refine wpAny_bind (wpAny_setSeqItemAt hl rfl ?_)
 first
  | exact wpAny_bind (wpAny_pure (wpAny_pure ⟨.none, rfl, wpAny_pure hQ⟩))
  | exact wpAny_pure ⟨.none, rfl, wpAny_pure hQ⟩
theorem Zgj {k : Nat} {v : Value} {Q : Unit -> St -> Prop} (hl : σ a = some (.lst xs)) (hn : k < xs.length) (hz : xs.length <= sizeLine) (q : Q () (upd σ a (.lst (xs.set k v)))) : ∀ v' o' i', er v' = v -> er o' = .ref a -> er i' = I k -> J B A ψ (_root_.id : Unit -> Unit) (setItem o' i' v') Q E σ := fun v' o' i' hv ho hi => J.lift <| by
 rw [Yc ho]; obtain ⟨t, rfl⟩ := Ku hi
 refine Gg (ys := xs.set k v) hl fun φ s d r items n h1 h2 R kk => ?_
 have hs := Xk h2
 refine Zrz h1 (by exact Int.natCast_nonneg _) (by have := Rw hz; omega) (by exact il (L2 (N3 _ _ _) V0 1 (.a nA kI) nC (Wi hn) 1 nC nB (Yq hs) (.a nA kI) nB rfl)) (kk _ _ _ s.toks () ?_ (Ua h1).1 (Ua h1).2 q)
 rw [Int.toNat_natCast, Array.toList_setIfInBounds, List.map_set, h2, hv]
theorem Zsa {l sl e : Addr} {items new : Array Value} {n n' : Nat} {vl vu : Value} {lo hi : Nat} {E : Value -> Shared -> Prop} {Q : Unit -> Shared -> Prop} (hl : IsL s.heap l items n) (hs : s.heap.IsSliceOf sl vl vu .none) (pl : IsPart vl (some (lo : Int))) (pu : IsPart vu (some (hi : Int)))
  (he : IsL s.heap e new n') (h1 : lo <= hi) (h2 : hi <= items.size) (hz : items.size + new.size <= sizeLine)
  (hQ : Q () { s with heap := s.heap.update l (Obj.mapSeq fun xs => xs.extract 0 lo ++ new ++ xs.extract hi xs.size) }) : wpAny (model pw B.w) A (setItem (.ref l) (.ref sl) (.ref e)) Q E s := by
 refine Yg (id hs) fun os hos hcs hds => ?_
 have hTs : s.TypeIs (.ref sl) "slice" := ⟨os, hos, hcs⟩
 unfold setItem
 refine wpAny_holding ?_
 refine wpAny_bind (wpAny_sequenceKey (T := "list") ⟨_, hl, rfl⟩ (by decide) ?_)
 refine wpAny_bind (wpAny_callSpecial?_slot (name := Str.ofString "__setitem__") (T := "list") ⟨_, hl, rfl⟩ PySem.slot_list_setitem
  (wpAny_call_entry PySem.slot_list_setitem (T := "list") ⟨_, hl, rfl⟩ PySem.entry_list_setitem ?_ (args_list_setitem _ _ _)))
 show wpAny _ _ (Builtin.List.listSubscript? (.ref sl) >>= _) _ _ s
 refine wpAny_bind ?_
 unfold Builtin.List.listSubscript?
 refine wpAny_bind (wpAny_specialOf hTs slice_no_index ?_)
 simp only [Option.isNone_none, if_true]
 refine wpAny_pure ?_
 show wpAny _ _ (typeOf (.ref sl) >>= _) _ _ s
 refine wpAny_bind (wpAny_typeOf hTs ?_)
 rw [if_neg (by decide)]
 rw [listSliceParts_eq]
 refine wpAny_bind (wpAny_bind (wpAny_field hos hds (x := .none) rfl (wpAny_bind (wpAny_listPart .none ?_))))
 rw [if_neg (by decide)]
 refine wpAny_bind (wpAny_field hos hds (x := vl) rfl (wpAny_bind (wpAny_listPart pl ?_)))
 refine wpAny_bind (wpAny_field hos hds (x := vu) rfl (wpAny_bind (wpAny_listPart pu (wpAny_pure ?_))))
 have hi' : ∀ (e : Addr) (its : Array Value) (n : Nat), IsL s.heap e its n -> ∀ R : Array Value -> Shared -> Prop, R its s -> wpAny (model pw B.w) A.in1 (Builtin.List.listItems (.ref e)) R E s := fun e its n he R hR => by
  unfold Builtin.List.listItems
  exact wpAny_bind (wpAny_seqItems he rfl (wpAny_pure hR))
 have hall : ∀ (msg : String) (R : Array Value -> Shared -> Prop), R new s -> wpAny (model pw B.w) A.in1 (Builtin.List.listAllItems (.ref e) msg) R E s := fun msg R hR => by
  unfold Builtin.List.listAllItems
  refine wpAny_bind (wpAny_typeOf (T := "list") ⟨_, he, rfl⟩ ?_)
  rw [if_pos (by decide)]
  exact hi' e new n' he _ hR
 split
 case' isTrue => refine wpAny_bind (hi' e new n' he _ ?_)
 case' isFalse => refine wpAny_bind (hall _ _ ?_)
 all_goals
  refine wpAny_bind (hi' l items n hl _ ?_)
  refine wpAny_bind (wpAny_of_eq (sliceIndices_raw (some (lo : Int)) (some (hi : Int)) none items.size (by simp)) ?_)
  rw [Zbr, Nat.min_eq_left (Nat.le_trans h1 h2), Nat.min_eq_left h2]
  dsimp only
  rw [if_pos (by decide : ((1 : Int) == 1) = true)]
  refine wpAny_bind (wpAny_rule ?_)
  rw [if_neg (by simp [Builtin.List.listTooLong]; assumption)]
  refine wpAny_bind ?_
  show wpAny _ _ (updateSeq l _) _ _ _
  refine wpAny_updateSeq hl rfl ?_ (hz := by exact gl (L1 (N3 _ _ _) V0 1 (.a nA nC) nB (nl hz) nA nB rfl)) (_hz' := by simp; omega)
  refine wpAny_bind (wpAny_letGo (wpAny_pure ⟨.none, rfl, wpAny_pure ?_⟩))
  have e : (max (lo : Int) (hi : Int)).toNat = hi := by exact nt (M1 (N1 _) (V1 _) 1 vA nA (@Int.max_eq_right ↑lo ↑hi (L1 (N2 _ _) V0 1 nA nB (nl h1) nA nB rfl)) vA nA rfl)
  simp only [e, Int.toNat_natCast]
  exact hQ
theorem Zsb (items new : Array Value) (lo hi : Nat) : ((items.extract 0 lo ++ new ++ items.extract hi items.size).toList.map er) = (items.toList.map er).take lo ++ new.toList.map er ++ (items.toList.map er).drop hi := by
 simp [Array.toList_extract, List.map_take, List.map_drop]
 exact List.take_of_length_le (by simp)
theorem Zsc {Q : Value -> St -> Prop} (hx : isLst σ a xs) (hy : isLst σ b ys) (hz : xs.length + ys.length <= sizeLine) (q : ∀ c, σ c = none -> Q (.ref c) (upd σ c (.lst (xs ++ ys)))) : Uq B A ψ (binaryOp .Add) (.ref a) (.ref b) Q E σ := fun u v hu hv => J.lift <| by
 rw [Yc hu, Yc hv]
 refine Tf (ys := xs ++ ys) (fun φ s d r R k => ?_) q
 refine Zx (r.isL hx.un) fun i1 n1 h1 h2 => ?_
 refine Zx (r.isL hy.un) fun i2 n2 h3 h4 => ?_
 exact PySem.P.add_list h1 h3 (k _ s.toks (by simp [h2, h4])) (by rw [Xk h2, Xk h4]; exact hz)
theorem Zgk (items : Array Value) : ∀ n : Nat, ∀ acc : Array Value, (List.foldl (fun x1 x2 => x1 ++ x2) acc (List.replicate n items)).toList = acc.toList ++ (List.replicate n items.toList).flatten
 | 0, acc => by simp
 | n + 1, acc => by rw [List.replicate_succ, List.foldl_cons, Zgk items n, List.replicate_succ]; simp
theorem Zsd {v : Value} {k : Int} {Q : Value -> St -> Prop} (hx : isLst σ a [v]) (hk : -(2 ^ 63 : Int) <= k) (hz : k.toNat <= 2 ^ 24) (q : ∀ c, σ c = none -> Q (.ref c) (upd σ c (.lst (List.replicate k.toNat v)))) : Uq B A ψ (binaryOp .Mult) (.ref a) (I k) Q E σ := fun u w hu hw => J.lift <| by
 rw [Yc hu]
 obtain ⟨t, rfl⟩ := Ku hw
 refine Tf (ys := List.replicate k.toNat v) (fun φ s d r R kk => ?_) q
 refine Zx (r.isL hx.un) fun items n h1 h2 => ?_
 have hs : items.size = 1 := by have := Xk h2; simpa using this
 have hne : items.isEmpty = false := by simp [Array.isEmpty, hs]
 refine wpAny_binaryOp_repeat_ref (T := "list") (U := "int") (by decide) ⟨_, h1, rfl⟩ (fun s' => typeIs_int s' k t) noFill_list_mul F.fills_int_mul F.slot_int_rmul repeat_list F.slot_int_index.lookup
   (call_meets F.slot_int_rmul (typeIs_int s k t) F.entry_int_rmul (F.args_int_rmul_2 _ _) (int___rmul___int_list k t a items n)
     ⟨h1, rfl, ⟨_, h1, rfl⟩, call_meets F.slot_list_mul ⟨_, h1, rfl⟩ F.entry_list_mul (F.args_list_mul_2 _ _)
       (AutoListH.list___mul___list_int_3 a items n k t (by simp [Builtin.List.listFitsIndex]; exact ⟨L1 N0 (V1 _) 1 (.k (-9223372036854775808)) vA hk (.k (-9223372036854775808)) vA rfl, il (nc fun zz => L3 (N1 _) (V1 _) 1 nA (.k 16777216) (nl hz) 1 vA nA (Int.self_le_toNat k) 1 (.a (.k 9223372036854775808) kI) (.a vA kI) zz kI kZ rfl)⟩) (by simp [hs]; exact nc fun zz => L3 (N1 _) (V1 _) 1 nA (.k 16777216) (nl hz) 1 vA nA (Int.self_le_toNat k) 1 (.a (.k 1152921504606846975) kI) vA zz kI kZ rfl) (by simp [Builtin.List.listTooLong, sizeLine, hs]; exact L2 (N1 _) (V1 _) 1 nA (.k 16777216) (nl hz) 1 vA nA (Int.self_le_toNat k) vA (.k 16777216) rfl))
       ⟨h1, kk _ s.toks ?_⟩⟩)
 rw [hne, Zgk]
 simp only [Bool.false_eq_true, if_false, List.nil_append]
 rw [List.map_flatten, List.map_replicate, h2]
 induction k.toNat with
 | zero => rfl
 | succ n ih => rw [List.replicate_succ, List.flatten_cons, ih]; rfl
theorem Zse {es : List Expr} {p : Pos} {Q : Value -> St -> Prop} (h : J B A ψ Yj (spliced (backTo p (starEach es env))) (fun vs σ₁ => vs.length <= sizeLine /\ ∀ b, σ₁ b = none -> Q (.ref b) (upd σ₁ b (.lst vs))) E σ) : JE B A env ψ (.List es p) Q E σ := by
 show J B A ψ er (do PySem.standAt p; newList (<- spliced (backTo p (starEach es env)))) Q E σ
 refine J.bind (e := _root_.id) (J.standAt fun _ _ => J.bind (J.mono h fun vs σ₁ ⟨hz, q⟩ us hus => J.lift (Tf (ys := vs) (fun φ s d r R k => ?_) q)))
 exact wpAny_newObj_type (k us.toArray s.toks (by simpa using hus)) (by show us.toArray.size <= sizeLine; rw [List.size_toArray, show us.length = vs.length by rw [<- hus]; simp]; exact hz)
theorem Zsf {es : List Expr} {k : Nat} {p : Pos} {Q : Value -> St -> Prop} (h : J B A ψ Yj (spliced (backTo p (starEach es env))) (fun vs σ₁ => vs.length <= sizeLine /\ ∀ b, σ₁ b = none -> Q (.ref b) (upd σ₁ b (.tup vs))) E σ) : JE B A env ψ (.Tuple es k p) Q E σ := by
 show J B A ψ er (do PySem.standAt p; newTuple (<- spliced (backTo p (starEach es env)))) Q E σ
 refine J.bind (e := _root_.id) (J.standAt fun _ _ => J.bind (J.mono h fun vs σ₁ ⟨hz, q⟩ us hus => J.lift fun φ d u₀ s r => ?_))
 have hn := r.size_none
 refine wpAny_newObj_type ⟨_, d.upd_new hn _, ?_, q _ (Ye hn)⟩ (by show us.toArray.size <= sizeLine; rw [List.size_toArray, show us.length = vs.length by rw [<- hus]; simp]; exact hz)
 rw [<- Xz]
 exact r.push rfl fun δ => ⟨us.toArray, 0, Heap.get?_push_size _ rfl, by simpa using hus⟩
theorem Zsg {p : Pos} {Q : Value -> St -> Prop} (q : ∀ b, σ b = none -> Q (.ref b) (upd σ b (.idct 0 fun _ => none))) : JE B A env ψ (.Dict [] [] p) Q E σ := J.lift fun φ d u₀ s r => by
 have hn := r.size_none
 refine wpAny_Dict_empty ⟨_, d.upd_new hn _, ?_, q _ (Ye hn)⟩
 rw [<- Xz]
 refine r.push rfl fun δ => ⟨_, #[], 0, fun _ => none, Heap.get?_push_size _ rfl, ⟨rfl, rfl, rfl⟩, rfl, Nat.le_refl _, fun e he => (by simp at he), fun k => rfl, fun k => rfl⟩
end
end Mine
end
noncomputable section
namespace Mine
section
variable {α β : Type} {B : Bgd} {A : Around} {E : Value -> Shared -> Prop} {σ : St} {env : Env} {L a b C : Addr} {m : Zc} {ψ χ : St} {xs ys : List Value} {s : Shared}
structure ClsOk (C fI : Addr) : Prop where
 plain : Ro C
 makes : ∀ P : Params, makesIn (K P) C = true
 init : ∀ P : Params, findIn (K P) (.ref C) "__init__" = some (some (.ref fI))
 fn : ∀ P : Params, typeIn (K P) (.ref fI) = some (.type "function")
theorem Zsh {k : Nat} {fI : Addr} {us : List Value} {Q : Value -> St -> Prop} (O : B.Ok) (H : ClsOk C fI) (R : Room A (k + 1))
  (h : ∀ a, σ a = none -> wC B (A.under (.builtin "type.__call__" ⟨.ref C :: us, []⟩)) (.ref fI) (.ref a :: us) (fun v τ => v = .none /\ Q (.ref a) τ) E (upd σ a (.inst C []))) : wC B A (.ref C) us Q E σ := by
 intro φ d u s r
 have X := O.k.keeps r.keep
 have hn := r.size_none
 have r' := r.pushInst (t := s.toks) H.plain
 have hn1 : Un σ φ (s.heap.objs.size + 1) = none := by
  cases z : Un σ φ (s.heap.objs.size + 1) with
  | none => rfl
  | some o => exact absurd (r.lt z) (Nat.not_lt.mpr (Nat.le_succ _))
 rw [Xz] at r'
 have d' := d.upd_new hn1 (.inst C [])
 obtain ⟨hh, g, dr, t, os⟩ := s
 refine make_core (makes_of X (H.makes _)) (looks_findIn X (H.init _)) (fun self => bind_fn X self (H.fn _)) (.inl rfl) ?_
 have z := h _ (Ye hn1) φ d' u _ r'
 refine codeAny_mono z ?_
 intro res s' q
 cases res with
 | error e => exact q
 | ok f =>
  cases f with
  | ret v =>
   obtain ⟨σ', d2, r2, hv, hq⟩ := q
   exact ⟨Vz hv, σ', d2, r2, hq⟩
  | _ => exact q
end
end Mine
end
noncomputable section
namespace Mine
section
variable {α β : Type} {B : Bgd} {A : Around} {E : Value -> Shared -> Prop} {σ : St} {env : Env} {L a b C : Addr} {m : Zc} {ψ χ : St} {xs ys : List Value} {s : Shared}
theorem Js (l : List Nat) : (Str.mk l.toArray).length = l.length := by simp [Str.length]
theorem Zsi {v : Value} {l : List Nat} (h : er v = T l) : ∃ t, v = .str ⟨l.toArray⟩ t := Zbl h
theorem Kz {v : Value} {l : List Nat} {C : Prop} (h : er v = T l) (k : ∀ t, v = .str ⟨l.toArray⟩ t -> C) : C := by obtain ⟨u, e⟩ := Zsi h; exact k u e
theorem Jt {us : List Value} (h : Yj us = []) : us = [] := by cases us <;> first | rfl | contradiction
theorem Rep.grow {h' : Heap} {t : Nat} {o : AO} (h : Rep B σ s) (e : σ a = some o) (hs : Kv o = false) (k : ∀ b o, s.heap.get? b = some o -> h'.get? b = some o) : Rep B σ { s with heap := h', toks := t } := by
 obtain ⟨h1, h2, h3, h4, δ, k1, k2, k3⟩ := h
 refine ⟨fun b o q => k _ _ (h1 b o q), ?_, h3, h4, δ, fun b o q => ⟨(k1 b o q).1, (k1 b o q).2.keep k⟩, k2, k3⟩
 refine Zg (k1 a o e) fun q1 q2 => ?_
 refine Xg q2.there fun ob hob => ?_
 exact Nat.le_trans (q1 hs) (Nat.le_of_lt (Heap.lt_size (k _ _ hob)))
noncomputable def Gh (ψ : St) : Prop := ∃ L m, ψ L = some (.ns m)
theorem Rx {f : Value} {first vs : List Value} {v : Value} {Q : Value -> St -> Prop} (hn : Gh ψ)
  (h : ∀ us, Yj us = vs -> ∀ φ s, Dis (Un σ ψ) φ -> Rep B (Un (Un σ ψ) φ) s -> ∀ E (R : Value -> Shared -> Prop), (∀ h' tk x, er x = v -> (∀ b o, s.heap.get? b = some o -> h'.get? b = some o) -> R x { s with heap := h', toks := tk }) -> wpAny (model pw B.w) A (call f (first ++ us)) R E s) (q : Q v σ) : Zv B A ψ f first vs Q E σ := fun us hus hL φ d u s r =>
 h us hus φ s d r E _ fun h' tk x e k => ⟨_, d, by
  (refine Ks hn ?_; clear hn; intro L m hm)
  exact r.grow (Zn (Up hL hm)) rfl k, σ, hL, rfl, e ▸ q⟩
theorem Ub {f : Value} {first vs : List Value} {v : Value} {Q : Value -> St -> Prop}
  (h : ∀ us, Yj us = vs -> ∀ φ s, Dis σ φ -> Rep B (Un σ φ) s -> ∀ E (R : Value -> Shared -> Prop), (∀ tk x, er x = v -> R x { s with toks := tk }) -> wpAny (model pw B.w) A (call f (first ++ us)) R E s) (q : Q v σ) : Zv B A ψ f first vs Q E σ := fun us hus =>
 J.lift fun φ d u s r => h us hus φ s d r E _ fun tk x e => ⟨σ, d, r.toks tk, e ▸ q⟩
theorem Zsj {c : Nat} {Q : Value -> St -> Prop} (q : Q (I c) σ) : Zv B A ψ (.builtin "ord") [] [T [c]] Q E σ := Ub (fun us hus φ s d r E R k => by
 (refine Zb (Xl hus) ?_; rintro u rfl hu)
 (refine Kz hu ?_; rintro t rfl)
 exact PySem.P.ord_of_char (k _ _ rfl)) q
theorem Zsk {i : Int} {Q : Value -> St -> Prop} (q : Q (I i.natAbs) σ) : Zv B A ψ (.builtin "abs") [] [I i] Q E σ := Ub (fun us hus φ s d r E R k => by
 (refine Zb (Xl hus) ?_; rintro u rfl hu)
 (refine Yd hu ?_; rintro t rfl)
 refine call_abs_int fun u tk => k tk _ ?_
 show I _ = I _
 congr 1
 split <;> omega) q
theorem Zsl {i j : Int} {Q : Value -> St -> Prop} (hn : Gh ψ) (hh : A.handled = none) (q : Q (I (min i j)) σ) : Zv B A ψ (.builtin "min") [] [I i, I j] Q E σ := Rx hn (fun us hus φ s d r E R k => by
 (refine Xp (Jr hus) ?_; rintro u u' rfl hu hu')
 (refine Yd hu ?_; rintro t rfl); (refine Yd hu' ?_; rintro t' rfl)
 refine min_two_ints hh fun h' tk hk => k h' tk _ ?_ hk
 split
 · show I _ = I _; congr 1; omega
 · show I _ = I _; congr 1; omega) q
theorem Zsm {i j : Int} {Q : Value -> St -> Prop} (hn : Gh ψ) (hh : A.handled = none) (q : Q (I (max i j)) σ) : Zv B A ψ (.builtin "max") [] [I i, I j] Q E σ := Rx hn (fun us hus φ s d r E R k => by
 (refine Xp (Jr hus) ?_; rintro u u' rfl hu hu')
 (refine Yd hu ?_; rintro t rfl); (refine Yd hu' ?_; rintro t' rfl)
 refine max_two_ints hh fun h' tk hk => k h' tk _ ?_ hk
 split
 · show I _ = I _; congr 1; omega
 · show I _ = I _; congr 1; omega) q
theorem Zsn {l : List Nat} {Q : Value -> St -> Prop} (q : Q (.bool true) σ) : Zv B A ψ (.builtin "isinstance") [] [T l, .type "str"] Q E σ := Ub (fun us hus φ s d r E R k => by
 (refine Xp (Jr hus) ?_; rintro u u' rfl hu hu')
 (refine Kz hu ?_; rintro t rfl)
 rw [Zbm hu']
 exact PySem.IsiPair.str_str (k s.toks _ rfl)) q
theorem Zso {l : List Nat} {Q : Value -> St -> Prop} (hz : l.length <= sizeLine) (q : Q (I l.length) σ) : Zv B A ψ (.builtin "len") [] [T l] Q E σ := Ub (fun us hus φ s d r E R k => by
 (refine Zb (Xl hus) ?_; rintro u rfl hu)
 (refine Kz hu ?_; rintro t rfl)
 refine PySem.P.len_str (by rw [Js]; have := Rw hz; omega) (k _ _ ?_)
 rw [Js]; rfl) q
theorem Rep.isP {n : Nat} (h : Rep B σ s) (e : σ a = some (.plst n ys)) : ∃ items k us, IsL s.heap a items k /\ us.length = n /\ items.toList.map er = us ++ ys := by
 obtain ⟨_, _, _, _, δ, k1, _⟩ := h
 exact (k1 a _ e).2
theorem Zsp {n : Nat} {Q : Value -> St -> Prop} (hl : σ a = some (.plst n ys)) (hz : n + ys.length <= sizeLine) (q : Q (I (n + ys.length : Nat)) σ) : Zv B A ψ (.builtin "len") [] [.ref a] Q E σ := Ub (fun us hus φ s d r E R k => by
 refine Ox (r.isP (Zn hl)) fun items k' us' h1 h2 h3 => ?_
 have hs : items.size = n + ys.length := by have := congrArg List.length h3; simpa [h2] using this
 (refine Zb (Xl hus) ?_; rintro u rfl hu)
 rw [Yc hu]
 exact call_len_list ⟨_, h1, rfl, k', rfl⟩ (hs ▸ Rw hz) (k _ _ (by rw [hs]; rfl))) q
theorem Zsq {n : Nat} {k : Int} {v : Value} {Q : Value -> St -> Prop} (hl : σ a = some (.plst n ys)) (h0 : (n : Int) <= k) (hf : k < 2 ^ 63) (hx : ys[k.toNat - n]? = some v) (q : Q v σ) : Oq B σ (.ref a) /\ ∀ u j, er u = .ref a -> er j = I k -> J B A ψ er (getItem u j) Q E σ := by
 refine ⟨fun u hu φ s d r => ?_, fun u j hu hj => J.lift fun φ d u₀ s r => ?_⟩
 · refine Ox (r.isP (Zn hl)) fun items n us h1 _ h2 => ?_
   rw [Yc hu]
   exact Om ("list") _ ⟨_, h1, rfl⟩ slot_list_getitem.lookup
 · refine Ox (r.isP (Zn hl)) fun items c us h1 h3 h2 => ?_
   (refine Zb (Gf h2 (k := k.toNat) (v := v) (by rw [List.getElem?_append_right (by exact gl (L3 (N3 _ _ _) (V1 _) 1 nC vA h0 1 nA nC (Wv h3) 1 vA nB (Zl (@Int.toNat_of_nonneg k (L1 (N1 _) (V1 _) 1 nA vA h0 kZ vA rfl))) nA nB rfl)), h3]; exact hx)) fun w hw e => ?_)
   rw [Yc hu]; (refine Yd hj ?_; rintro _ rfl)
   exact wpAny_getItem_list ⟨_, h1, rfl, c, rfl⟩ (by exact L1 (N1 _) (V1 _) 1 nA vA h0 kZ vA rfl) hf hw ⟨σ, d, r, e ▸ q⟩
theorem Zsr {n : Nat} {nm : Str} {id : String} {pl : Sem Bool} {Q : Value × List Value -> St -> Prop} (slot : Slot "list" nm id) (hty : typeOf (.builtin id) = pure (.type "method_descriptor")) (hl : σ a = some (.plst n ys)) (q : Q (.builtin id, [.ref a]) σ) : J B A ψ Jo (getMethod (.ref a) nm pl) Q E σ :=
 J.lift fun φ d u s r => by
  refine Ox (r.isP (Zn hl)) fun items n us h1 _ h2 => ?_
  exact getMethod_builtin ⟨_, h1, rfl⟩ PySem.F.plainAttrs_list slot hty (fun b e => by (injection e with e; subst e); exact Zp _ h1 rfl) ⟨σ, d, r, q⟩
theorem Zss {n : Nat} {v : Value} {Q : Value -> St -> Prop} (hl : σ a = some (.plst n xs)) (hz : n + xs.length <= sizeLine) (q : Q .none (upd σ a (.plst n (xs ++ [v])))) : Zv B A ψ (.builtin "list.append") [.ref a] [v] Q E σ := fun us hus => J.lift fun φ d u₀ s r => by
 refine Ox (r.isP (Zn hl)) fun items c us' h1 h3 h2 => ?_
 (refine Zb (Xl hus) ?_; rintro u rfl hu)
 have hs : items.size = n + xs.length := by have := congrArg List.length h2; simpa [h3] using this
 refine call_meets F.slot_list_append ⟨_, h1, rfl⟩ F.entry_list_append (F.args_list_append_2 _ _) (list_append a items c u (hs ▸ hz)) ⟨h1, ⟨_, d.upd_some hl _, ?_, q⟩⟩
 rw [<- Xz]
 exact r.set (Zn hl) rfl rfl rfl (Ua h1).1 fun δ _ => ⟨_, _, us', (Ua h1).2, h3, by rw [Zbs, h2, hu, List.append_assoc]⟩
theorem Zgl (bs : List Bool) (items : Array Value) (e : items.toList.map er = bs.map Value.bool) : TruthOf pw B.w A (fun i v => items[i]? = some v) fun i => bs.getD i false := fun i v s Q E hP hQ => by
 have : (bs.map Value.bool)[i]? = some (er v) := by rw [<- e, List.getElem?_map, Array.getElem?_toList, hP]; rfl
 rw [List.getElem?_map] at this
 refine Zb (Option.map_eq_some_iff.mp this) fun b h1 h2 => ?_
 rw [Qa h2.symm]
 refine wpAny_truthy_bool ?_
 have : bs.getD i false = b := by simp [List.getD, h1]
 exact this ▸ hQ
theorem Zgm (bs : List Bool) : (List.range bs.length).map (fun i => bs.getD i false) = bs := by
 apply List.ext_getElem (by simp)
 intro i h1 h2
 simp [List.getD, h2]
theorem Zst {bs : List Bool} {Q : Value -> St -> Prop} (hn : Gh ψ) (hh : A.handled = none) (hl : isLst σ a (bs.map Value.bool)) (q : Q (.bool (bs.any id)) σ) : Zv B A ψ (.builtin "any") [] [.ref a] Q E σ := by
 refine Rx hn (v := .bool (bs.any id)) (fun us hus φ s d r E R k => ?_) q
 refine Zx (r.isL (hl.un.un)) fun items n h1 h2 => ?_
 (refine Zb (Xl hus) ?_; rintro u rfl hu)
 rw [List.nil_append, Yc hu]
 have hl' : s.heap.IsList a items := ⟨_, h1, rfl, n, rfl⟩
 have hlt : a < s.heap.objs.size := Heap.lt_size h1
 refine call_any_walk (wpAny_pyIter_list hl' ?_)
 refine ⟨_, _, _, _, _, _, _, rfl, Walks.list (A := A.in1) hh _ a (Nat.ne_of_lt hlt) items, ⟨⟨_, Heap.get?_push_size _ rfl, rfl, rfl⟩, hl'.at fun o e => Heap.get?_push_of_some _ e⟩, Zgl bs items h2, fun h' tk hk => k h' tk _ ?_ fun b o q => hk b o (fun hm => ?_) (Heap.get?_push_of_some _ q)⟩
 · show Value.bool _ = Value.bool _
   have hs : items.size = bs.length := by have := Xk h2; simpa using this
   have := congrArg (List.any · id) (Zgm bs)
   simp only [List.any_map] at this
   rw [hs, <- this]; rfl
 · rw [List.mem_singleton.mp hm] at q
   exact absurd (Heap.lt_size q) (Nat.lt_irrefl _)
theorem Zsu {bs : List Bool} {Q : Value -> St -> Prop} (hn : Gh ψ) (hh : A.handled = none) (hl : isLst σ a (bs.map Value.bool)) (q : Q (.bool (bs.all id)) σ) : Zv B A ψ (.builtin "all") [] [.ref a] Q E σ := by
 refine Rx hn (v := .bool (bs.all id)) (fun us hus φ s d r E R k => ?_) q
 refine Zx (r.isL (hl.un.un)) fun items n h1 h2 => ?_
 (refine Zb (Xl hus) ?_; rintro u rfl hu)
 rw [List.nil_append, Yc hu]
 have hl' : s.heap.IsList a items := ⟨_, h1, rfl, n, rfl⟩
 have hlt : a < s.heap.objs.size := Heap.lt_size h1
 refine call_all_walk (wpAny_pyIter_list hl' ?_)
 refine ⟨_, _, _, _, _, _, _, rfl, Walks.list (A := A.in1) hh _ a (Nat.ne_of_lt hlt) items, ⟨⟨_, Heap.get?_push_size _ rfl, rfl, rfl⟩, hl'.at fun o e => Heap.get?_push_of_some _ e⟩, Zgl bs items h2, fun h' tk hk => k h' tk _ ?_ fun b o q => hk b o (fun hm => ?_) (Heap.get?_push_of_some _ q)⟩
 · show Value.bool _ = Value.bool _
   have hs : items.size = bs.length := by have := Xk h2; simpa using this
   have := congrArg (List.all · id) (Zgm bs)
   simp only [List.all_map] at this
   rw [hs, <- this]; rfl
 · rw [List.mem_singleton.mp hm] at q
   exact absurd (Heap.lt_size q) (Nat.lt_irrefl _)
theorem Rep.newL {h' : Heap} {c : Addr} {its : Array Value} {n t : Nat} (h : Rep B σ s) (k : ∀ b o, s.heap.get? b = some o -> h'.get? b = some o) (hc : ∀ b o, s.heap.get? b = some o -> b ≠ c) (h0 : B.h₀.objs.size <= c) (hl : IsL h' c its n) (hi : its.toList.map er = ys) :
   Rep B (upd σ c (.lst ys)) { s with heap := h', toks := t } := by
 have hz := h.size
 obtain ⟨h1, h2, h3, h4, δ, k1, k2, k3⟩ := h
 have un : ∀ b C fs, upd σ c (.lst ys) b = some (.inst C fs) -> σ b = some (.inst C fs) := fun b C fs q => by
   by_cases z : b = c
   · subst z; rw [Yz] at q; cases q
   · rwa [Zz z] at q
 refine ⟨fun b o q => k _ _ (h1 b o q), Nat.le_trans h0 (Nat.le_of_lt (Heap.lt_size hl)), h3, h4, δ, fun b ob q => ?_, fun b C fs q => ⟨(k2 b C fs (un _ _ _ q)).1, ?_⟩, fun b C fs b' C' fs' q q' => k3 b C fs b' C' fs' (un _ _ _ q) (un _ _ _ q')⟩
 · by_cases z : b = c
   · subst z; rw [Yz] at q; (replace q := sI q; subst q); exact ⟨fun _ => h0, its, n, hl, hi⟩
   · rw [Zz z] at q
     exact ⟨(k1 b ob q).1, (k1 b ob q).2.keep k⟩
 · rw [Zz (hc _ _ (k1 b _ (un _ _ _ q)).2.dthere.choose_spec)]
   exact (k2 b C fs (un _ _ _ q)).2
theorem Zsv {t : Sem Value} {Q : Value -> St -> Prop}
  (h : ∀ φ s, Dis σ φ -> Rep B (Un σ φ) s -> ∀ R : Value -> Shared -> Prop, (∀ (c : Addr) (its : Array Value) n h' tk, its.toList.map er = ys -> (∀ b o, s.heap.get? b = some o -> b ≠ c) -> B.h₀.objs.size <= c -> (∀ b o, s.heap.get? b = some o -> h'.get? b = some o) -> IsL h' c its n -> R (.ref c) { s with heap := h', toks := tk }) -> wpAny (model pw B.w) A t R E s)
  (q : ∀ a, σ a = none -> Q (.ref a) (upd σ a (.lst ys))) : wA B A er t Q E σ := fun φ d u s r =>
 h φ s d r _ fun c its n h' tk hi hc h0 hk hl => by
  have hn : Un σ φ c = none := by
   cases z : Un σ φ c with
   | none => rfl
   | some o =>
    obtain ⟨_, _, _, _, δ, k1, _⟩ := r
    exact absurd rfl (hc _ _ (k1 c o z).2.there.choose_spec)
  refine ⟨upd σ c (.lst ys), d.upd_new hn _, ?_, q _ (Ye hn)⟩
  rw [<- Xz]
  exact r.newL hk hc h0 hl hi
theorem Zsw (O : B.Ok) : sysModules < B.h₀.objs.size := by
 have : (K B.w.params).lookup 28 = some _ := rfl
 have := Heap.lt_size (O.k _ _ this)
 exact Nat.lt_trans (by decide) this
theorem Ry {o : AO} (O : B.Ok) (h : Rep B σ s) (e : σ a = some o) (hs : Kv o = false) : (a == sysModules) = false := by
 obtain ⟨_, _, _, _, δ, k1, _⟩ := h
 have := (k1 a o e).1 hs
 exact beq_eq_false_iff_ne.mpr (Nat.ne_of_gt (Nat.lt_of_lt_of_le (Zsw O) this))
theorem Rep.isD {n : Nat} {f : Int -> Option Value} (h : Rep B σ s) (e : σ a = some (.idct n f)) : ∃ (o : Obj) (es : Array DictEntry) (ep : Nat) (f' : Int -> Option Value), s.heap.get? a = some o /\ o.ExactDict /\ o.data = .dict es ep /\ es.size <= n /\ PySem.KeysOf (intKind pw B.w) es /\ (∀ k, findBy (intKind pw B.w).is es k = f' k) /\ ∀ k, (f' k).map er = f k := by
 obtain ⟨_, _, _, _, δ, k1, _⟩ := h
 exact (k1 a _ e).2
theorem Rep.isPD {f : Int -> Option Value} (h : Rep B σ s) (e : σ a = some (.pdct f)) : ∃ f', s.heap.MapOf (intKind pw B.w) a f' /\ ∀ k v, f k = some v -> (f' k).map er = some v := by
 obtain ⟨_, _, _, _, δ, k1, _⟩ := h
 refine Zng ((k1 a _ e).2) fun o es ep f' h1 h2 h3 h4 h5 h6 => ?_
 exact Zp f' ⟨o, es, ep, h1, h2, h3, h4, h5⟩ h6
theorem Rep.isM {n : Nat} {f : Int -> Option Value} (h : Rep B σ s) (e : σ a = some (.idct n f)) : ∃ f', s.heap.MapOf (intKind pw B.w) a f' /\ ∀ k, (f' k).map er = f k := by
 refine Zbj (h.isD e) fun o es ep f' h1 h2 h3 h4 h5 h6 h7 => ?_
 exact Zp f' ⟨o, es, ep, h1, h2, h3, h5, h6⟩ h7
theorem Zsx {Q : Value -> St -> Prop} (O : B.Ok) (hh : A.handled = none) (hl : σ a = some (.idct 0 fun _ => none)) (q : ∀ b, σ b = none -> Q (.ref b) (upd σ b (.lst []))) : Zv B A ψ (.builtin "sorted") [] [.ref a] Q E σ := fun us hus => J.lift <| Zsv (ys := []) (fun φ s d r R k => by
 refine Zbj (r.isD (Zn hl)) fun o es ep f' h1 h2 h3 h4 h5 h6 h7 => ?_
 (refine Zb (Xl hus) ?_; rintro u rfl hu)
 rw [List.nil_append, Yc hu]
 have hes : es = #[] := Array.eq_empty_of_size_eq_zero (by exact gq (Int.le_antisymm (L1 (N1 _) V0 1 nA kZ (nl h4) nA kZ rfl) (L0 (N1 _) V0 kZ nA rfl)))
 subst hes
 have hD : s.heap.DictAt (intKind pw B.w) a [] ep := ⟨o, #[], h1, h2, h3, h5, .nil, List.nodup_nil⟩
 refine call_function_entry kind_sorted plain_sorted entry_sorted (args_sorted1 _) ?_
 unfold Builtin.«sorted»
 refine wpAny_bind (m := checkCount "sorted" 1 1 _) (wpAny_pure ?_)
 refine wpAny_bind (kdu_collect (A := A.in1) (kdl_dict (Ry O r (Zn hl) rfl)) hh hD (Nat.zero_le _) fun h' tk acc hk hacc => ?_)
 have hz : acc = #[] := Array.eq_empty_of_size_eq_zero hacc.1
 subst hz
 refine wpAny_bind (wpAny_newList ?_ (Nat.zero_le _))
 have ho : (h'.push { cls := .type "list", data := .seq ([] : List Value).toArray }).get? h'.objs.size = some (seqObj "list" #[] 0) := Heap.get?_push_size _ rfl
 have ha0 := (r.objs.choose_spec.at_ a _ (Zn hl)).1 rfl
 have hah : a < h'.objs.size := Heap.lt_size (hk _ _ h1)
 refine wpAny_bind (wpAny_holding (wpAny_call_entry slot_list_sort ⟨_, ho, rfl⟩ entry_list_sort (list_sort_treeK (κ := PyProof.Rows.strKind) (vs := []) strKind_oneLt ho (fun p hp => by simp [pairsOf] at hp) (fun _ _ _ e => (List.cons_ne_nil _ _ e.symm).elim) (by decide) fun st' a1 a2 => ⟨_, rfl, ?_⟩) (args_list_sort _)))
 have hst : (arrOf st').map (·.2) = #[] := by
  have := a1.size_eq
  have h0 : (pairsOf ([] : List Value)).size = 0 := by rw [pairsOf_size]; rfl
  rw [h0] at this
  rw [Array.eq_empty_of_size_eq_zero this]; simp
 rw [hst]
 have hne : ∀ b o, s.heap.get? b = some o -> b ≠ h'.objs.size := fun b o q => Nat.ne_of_lt (Heap.lt_size (hk b o q))
 have e1 := get?_update_seq ho (fun _ => #[])
 have e2 := Heap.get?_push_of_some (seqObj "list" #[] 0) (Heap.get?_push_of_some (seqObj "tuple" ([] : List Value).toArray 0) e1)
 have e3 := get?_update_seq e2 (fun _ => #[])
 refine wpAny_pure ⟨_, rfl, k h'.objs.size #[] _ (sortedHeap (h'.push (seqObj "list" #[] 0)) h'.objs.size [] #[]) tk rfl hne (Nat.le_trans ha0 (Nat.le_of_lt hah)) (fun b o q => ?_) e3⟩
 unfold sortedHeap
 have hb := hne b o q
 exact (Heap.get?_update_other _ _ (Ne.symm hb)).trans (Heap.get?_push_of_some _ (Heap.get?_push_of_some _ ((Heap.get?_update_other _ _ (Ne.symm hb)).trans (Heap.get?_push_of_some _ (hk b o q)))))) q
end
end Mine
end
end
section
set_option genSizeOfSpec false
set_option genInjectivity false
namespace Mine.Ab
inductive V where
 | none | bool (b : Bool) | int (i : Int) | str (l : List Nat) | ref (i : Nat)
inductive O where
 | il (l : List Int)
 | sil (l : List Int)
 | lst (xs : List V)
 | plst (n : Nat) (ys : List V)
 | tup (xs : List V)
 | inst (C : Nat) (fs : List (Nat × V))
 | dct (es : List (Int × V))
 | pdct (es : List (Int × V))
structure Hp where
 nx : Nat
 ob : List (Nat × O)
noncomputable abbrev Fm := List (Nat × V)
inductive Fl where
 | nx | ret (v : V)
inductive E where
 | lit (v : V) | loc (x : Nat) | cel (x : Nat)
 | bin (op : Nat) (a b : E) | cmp (op : Nat) (a b : E) | cmp2 (op op' : Nat) (a b c : E)
 | and (a b : E) | or (a b : E) | not (a : E) | neg (a : E) | ite (t a b : E)
 | fld (a : E) (n : Nat) | item (a i : E) | slc (a lo hi : E)
 | list (es : List E) | tup (es : List E) | dict0
 | call (f : Nat) (es : List E) | make (C : Nat) (es : List E) | meth (a : E) (n : Nat) (es : List E) | bi (b : Nat) (es : List E)
 | comp (x : Nat) (rg : Bool) (it elt cond : E)
 | isi (a : E)
inductive S where
 | asg (x : Nat) (e : E) | asgT (xs : List Nat) (e : E)
 | setf (o : E) (n : Nat) (e : E) | seti (o i e : E) | sets (o lo hi e : E)
 | ex (e : E) | ret (e : E) | ret0
 | ite (t : E) (a b : List S)
 | forN (x : Nat) (rg : Bool) (it : E) (b : List S) | forT (xs : List Nat) (rg : Bool) (it : E) (b : List S)
 | whl (t : E) (b : List S)
 | rais (a b : E) | tri (e h : E)
structure Fn where
 ps : List Nat
 dfl : List V
 body : List S
noncomputable def Ze {α : Type} (x : Nat) : List (Nat × α) -> Option α
 | [] => .none
 | (k, v) :: r => match Nat.beq k x with
   | true => some v
   | false => Ze x r
noncomputable def Yk {α : Type} (x : Nat) (v : α) : List (Nat × α) -> List (Nat × α)
 | [] => [(x, v)]
 | (k, u) :: r => match Nat.beq k x with
   | true => (k, v) :: r
   | false => (k, u) :: Yk x v r
noncomputable def Ww {α : Type} (x : Nat) (v : α) : List (Nat × α) -> (List (Nat × α) -> Prop) -> Prop
 | [], k => k [(x, v)]
 | (a, u) :: r, k => match Nat.beq a x with
   | true => k ((a, v) :: r)
   | false => Ww x v r fun r' => k ((a, u) :: r')
theorem Ju {α : Type} {x : Nat} {v : α} : ∀ {l : List (Nat × α)} {k : List (Nat × α) -> Prop}, Ww x v l k = k (Yk x v l)
 | [], k => rfl
 | (a, u) :: r, k => by
  unfold Ww Yk
  cases Nat.beq a x with
  | true => rfl
  | false => exact Ju
noncomputable def Hp.look (H : Hp) (i : Nat) : Option O := Ze i H.ob
noncomputable def Hp.set (H : Hp) (i : Nat) (o : O) : Hp := ⟨H.nx, Yk i o H.ob⟩
noncomputable def Hp.new (H : Hp) (o : O) : Hp := ⟨H.nx + 1, (H.nx, o) :: H.ob⟩
noncomputable def Gi (i : Nat) : List (Nat × O) -> (O -> Prop) -> Prop
 | [], _ => False
 | (a, o) :: r, k => match Nat.beq a i with
   | true => k o
   | false => Gi i r k
theorem lkL_eq {i : Nat} {k : O -> Prop} : ∀ {l : List (Nat × O)}, Gi i l k ↔ ∃ o, Ze i l = some o /\ k o
 | [] => ⟨fun h => h.elim, fun ⟨_, h, _⟩ => nomatch h⟩
 | (a, o) :: r => by
  unfold Gi Ze
  cases Nat.beq a i with
  | true => exact ⟨fun h => ⟨o, rfl, h⟩, fun ⟨o', h, q⟩ => by (replace h := sI h; subst h); exact q⟩
  | false => exact lkL_eq
noncomputable def Hp.lk (H : Hp) (i : Nat) (k : O -> Prop) : Prop := match H with
 | ⟨n, ob⟩ => Gi i ob k
theorem lk_eq {H : Hp} {i : Nat} {k : O -> Prop} : H.lk i k ↔ ∃ o, H.look i = some o /\ k o := lkL_eq
theorem kE {H : Hp} {i : Nat} {k : O -> Prop} {C : Prop} (h : H.lk i k) (q : ∀ o, H.look i = some o -> k o -> C) : C := by obtain ⟨i, e, h⟩ := lk_eq.mp h; exact q i e h
noncomputable def Hp.setK (H : Hp) (i : Nat) (o : O) (k : Hp -> Prop) : Prop := match H with
 | ⟨n, ob⟩ => Ww i o ob fun L => k ⟨n, L⟩
theorem Rz {H : Hp} {i : Nat} {o : O} {k : Hp -> Prop} : H.setK i o k = k (H.set i o) := Ju
inductive br (c : Bool) (A B : Prop) : Prop where
 | t (e : c = true) (h : A) | f (e : c = false) (h : B)
theorem br_T {c : Bool} {A B : Prop} (e : c = true) (h : A) : br c A B := .t e h
theorem br_N {c : Bool} {A B : Prop} (e : c = false) (h : B) : br c A B := .f e h
theorem Qc {c : Bool} {P Q : Prop} (h : br c P Q) (e : c = true) : P := by
 cases h with
 | t _ h => exact h
 | f e' _ => rw [e] at e'; exact Xf e'
theorem Qd {c : Bool} {P Q : Prop} (h : br c P Q) (e : c = false) : Q := by
 cases h with
 | t e' _ => rw [e] at e'; exact Yb e'
 | f _ h => exact h
inductive ap (Q : V -> Hp -> Prop) (v : V) (H : Hp) : Prop where
 | mk (h : Q v H)
theorem ap.h {Q : V -> Hp -> Prop} {v : V} {H : Hp} : ap Q v H -> Q v H
 | .mk h => h
theorem Gj {A B : Prop} (h : A) : br true A B := br_T rfl h
theorem Jv {A B : Prop} (h : B) : br false A B := br_N rfl h
theorem bT {c : Bool} {A B : Prop} (h : A) (e : c = true := by with_reducible first | rfl | assumption) : br c A B := br_T e h
theorem bN {c : Bool} {A B : Prop} (h : B) (e : c = false := by with_reducible first | rfl | assumption) : br c A B := br_N e h
theorem aI {Q : Prop} {α : Sort u} {a : α} (h : Q) : a = a /\ Q := ⟨rfl, h⟩
theorem aT {Q : Prop} (h : Q) : True /\ Q := ⟨trivial, h⟩
theorem Xd {c : Bool} {A B : Prop} (h1 : c = true -> A) (h2 : c = false -> B) : br c A B := match c, h1, h2 with
 | true, h1, _ => Gj (h1 rfl)
 | false, _, h2 => Jv (h2 rfl)
theorem Ur {p : Prop} [Decidable p] {A B : Prop} (h1 : p -> A) (h2 : ¬ p -> B) : br (decide p) A B := Xd (fun h => h1 (of_decide_eq_true h)) fun h => h2 (of_decide_eq_false h)
theorem Zgn {p : Prop} [Decidable p] {A B : Prop} (h1 : ¬ p -> A) (h2 : p -> B) : br (!decide p) A B := Xd (fun h => h1 (by simpa using h)) fun h => h2 (by simpa using h)
noncomputable def Yh (v : V) (k : Int -> Prop) : Prop := match v with
 | .int i => k i
 | _ => False
noncomputable def Qr (v : V) (k : List Nat -> Prop) : Prop := match v with
 | .str l => k l
 | _ => False
noncomputable def Uh (v : V) (k : Nat -> Prop) : Prop := match v with
 | .ref i => k i
 | _ => False
noncomputable def Wp (v : V) (k : Bool -> Prop) : Prop := match v with
 | .bool b => k b
 | _ => False
noncomputable def Tg (v : V) (P : Prop) : Prop := match v with
 | .none => P
 | _ => False
noncomputable def Xe {α : Type} (o : Option α) (k : α -> Prop) : Prop := match o with
 | some a => k a
 | .none => False
noncomputable def Xm {α : Type} (l : List α) (P : Prop) : Prop := match l with
 | [] => P
 | _ :: _ => False
noncomputable def Xh {α : Type} (l : List α) (k : α -> Prop) : Prop := match l with
 | [] => False
 | a :: r => Xm r (k a)
noncomputable def Sa {α : Type} (l : List α) (k : α -> α -> Prop) : Prop := match l with
 | [] => False
 | a :: r => Xh r (k a)
noncomputable def Ui (o : O) (k : List Int -> Prop) : Prop := match o with
 | .il l => k l
 | _ => False
noncomputable def Zgo (o : O) (k : List V -> Prop) : Prop := match o with
 | .lst l => k l
 | _ => False
noncomputable def Zgp (o : O) (k : List V -> Prop) : Prop := match o with
 | .tup l => k l
 | _ => False
noncomputable def Sb (o : O) (k : Nat -> List (Nat × V) -> Prop) : Prop := match o with
 | .inst C fs => k C fs
 | _ => False
theorem Ja {v : V} {k : Int -> Prop} (h : Yh v k) : ∃ i, v = .int i /\ k i := by cases v <;> first | exact Zp _ rfl h | exact False.elim h
theorem iE {v : V} {k : Int -> Prop} {C : Prop} (h : Yh v k) (q : ∀ i, v = .int i -> k i -> C) : C := by obtain ⟨i, e, h⟩ := Ja h; exact q i e h
theorem Zgq {v : V} {k : List Nat -> Prop} (h : Qr v k) : ∃ i, v = .str i /\ k i := by cases v <;> first | exact Zp _ rfl h | exact False.elim h
theorem sE {v : V} {k : List Nat -> Prop} {C : Prop} (h : Qr v k) (q : ∀ i, v = .str i -> k i -> C) : C := by obtain ⟨i, e, h⟩ := Zgq h; exact q i e h
theorem Sd {v : V} {k : Nat -> Prop} (h : Uh v k) : ∃ i, v = .ref i /\ k i := by cases v <;> first | exact Zp _ rfl h | exact False.elim h
theorem rE {v : V} {k : Nat -> Prop} {C : Prop} (h : Uh v k) (q : ∀ i, v = .ref i -> k i -> C) : C := by obtain ⟨i, e, h⟩ := Sd h; exact q i e h
theorem Se {v : V} {k : Bool -> Prop} (h : Wp v k) : ∃ i, v = .bool i /\ k i := by cases v <;> first | exact Zp _ rfl h | exact False.elim h
theorem Zbu {v : V} {P : Prop} (h : Tg v P) : v = .none /\ P := by cases v <;> first | exact ⟨rfl, h⟩ | exact False.elim h
theorem Zgr {α : Type} {o : Option α} {k : α -> Prop} (h : Xe o k) : ∃ i, o = some i /\ k i := by cases o <;> first | exact Zp _ rfl h | exact False.elim h
theorem oE {α : Type} {o : Option α} {k : α -> Prop} {C : Prop} (h : Xe o k) (q : ∀ i, o = some i -> k i -> C) : C := by obtain ⟨i, e, h⟩ := Zgr h; exact q i e h
theorem Xu {α : Type} {l : List α} {P : Prop} (h : Xm l P) : l = [] /\ P := by cases l <;> first | exact ⟨rfl, h⟩ | exact False.elim h
theorem Xn {α : Type} {l : List α} {k : α -> Prop} (h : Xh l k) : ∃ a, l = [a] /\ k a := by
 cases l with
 | nil => exact False.elim h
 | cons a r => (refine Zg (Xu h) ?_; clear h; rintro rfl h); exact Zp a rfl h
theorem Zbv {α : Type} {l : List α} {k : α -> α -> Prop} (h : Sa l k) : ∃ a b, l = [a, b] /\ k a b := by
 cases l with
 | nil => exact False.elim h
 | cons a r => (refine Zb (Xn h) ?_; clear h; rintro b rfl h); exact Om a b rfl h
theorem Zgs {o : O} {k : List Int -> Prop} (h : Ui o k) : ∃ l, o = .il l /\ k l := by cases o <;> first | exact Zp _ rfl h | exact False.elim h
theorem Os {o : O} {k : List Int -> Prop} {C : Prop} (h : Ui o k) (q : ∀ l, o = .il l -> k l -> C) : C := by obtain ⟨i, e, h⟩ := Zgs h; exact q i e h
theorem Zsy {o : O} {k : List V -> Prop} (h : Zgo o k) : ∃ l, o = .lst l /\ k l := by cases o <;> first | exact Zp _ rfl h | exact False.elim h
theorem Zgt {o : O} {k : List V -> Prop} (h : Zgp o k) : ∃ l, o = .tup l /\ k l := by cases o <;> first | exact Zp _ rfl h | exact False.elim h
theorem Zgu {o : O} {k : Nat -> List (Nat × V) -> Prop} (h : Sb o k) : ∃ C fs, o = .inst C fs /\ k C fs := by cases o <;> first | exact Om _ _ rfl h | exact False.elim h
noncomputable def V.lt (n : Nat) : V -> Prop
 | .ref i => i < n
 | _ => True
noncomputable def O.lt (n : Nat) : O -> Prop
 | .il _ => True
 | .sil _ => True
 | .lst xs => ∀ v ∈ xs, v.lt n
 | .plst _ ys => ∀ v ∈ ys, v.lt n
 | .tup xs => ∀ v ∈ xs, v.lt n
 | .inst _ fs => ∀ p ∈ fs, p.2.lt n
 | .dct es => ∀ p ∈ es, p.2.lt n
 | .pdct es => ∀ p ∈ es, p.2.lt n
noncomputable def Qs (n : Nat) (k : Nat -> Prop) : Prop := match n with
 | 0 => k 0
 | m + 1 => k (m + 1)
theorem Gk {n : Nat} {k : Nat -> Prop} : Qs n k = k n := by cases n <;> rfl
noncomputable def Hp.newK (H : Hp) (o : O) (k : Nat -> Hp -> Prop) : Prop := match H with
 | ⟨n, ob⟩ => Qs (n + 1) fun n' => k n ⟨n', (n, o) :: ob⟩
noncomputable def Jb (i : Nat) : List Nat -> Nat -> (Nat -> Prop) -> Prop
 | [], _, _ => False
 | a :: r, n, k => match Nat.beq a i with
   | true => Qs n k
   | false => Jb i r (n + 1) k
noncomputable def Jw (i : Nat) : List Nat -> Nat -> Option Nat
 | [], _ => .none
 | a :: r, n => match Nat.beq a i with
   | true => some n
   | false => Jw i r (n + 1)
noncomputable def Jx (j b : Nat) : List Nat -> (Nat -> Prop) -> Prop
 | [], k => Qs (b + j) k
 | a :: r, k => match j with
   | 0 => k a
   | j + 1 => Jx j b r k
noncomputable def rV (f : Nat -> (Nat -> Prop) -> Prop) (v : V) (k : V -> Prop) : Prop := match v with
 | .ref i => f i fun j => k (.ref j)
 | .none => k .none
 | .bool b => k (.bool b)
 | .int i => k (.int i)
 | .str l => k (.str l)
noncomputable def Jc (f : Nat -> (Nat -> Prop) -> Prop) : List V -> (List V -> Prop) -> Prop
 | [], k => k []
 | v :: r, k => rV f v fun u => Jc f r fun r' => k (u :: r')
noncomputable def Th {α : Type} (f : Nat -> (Nat -> Prop) -> Prop) : List (α × V) -> (List (α × V) -> Prop) -> Prop
 | [], k => k []
 | (a, v) :: r, k => rV f v fun u => Th f r fun r' => k ((a, u) :: r')
noncomputable def rO (f : Nat -> (Nat -> Prop) -> Prop) (o : O) (k : O -> Prop) : Prop := match o with
 | .il l => k (.il l)
 | .sil l => k (.sil l)
 | .lst xs => Jc f xs fun ys => k (.lst ys)
 | .plst n xs => Jc f xs fun ys => k (.plst n ys)
 | .tup xs => Jc f xs fun ys => k (.tup ys)
 | .inst C fs => Th f fs fun gs => k (.inst C gs)
 | .dct es => Th f es fun gs => k (.dct gs)
 | .pdct es => Th f es fun gs => k (.pdct gs)
inductive Dr where
 | fst (n : Nat) | keys (ks : List Int)
noncomputable def Ti (xs : List V) : Nat -> (List V -> Prop) -> Prop
 | 0, k => k xs
 | n + 1, k => match xs with
   | [] => False
   | _ :: r => Ti r n k
noncomputable def Yn (k : Int) : List (Int × V) -> Option V
 | [] => .none
 | (j, v) :: r => match decide (j = k) with
   | true => some v
   | false => Yn k r
noncomputable def Tj (es : List (Int × V)) : List Int -> (List (Int × V) -> Prop) -> Prop
 | [], k => k []
 | a :: r, k => match Yn a es with
   | some v => Tj es r fun gs => k ((a, v) :: gs)
   | .none => False
noncomputable def drK (d : Option Dr) (o : O) (k : O -> Prop) : Prop := match d with
 | .none => k o
 | some (.fst n) => match o with
   | .lst xs => Ti xs n fun ys => k (.plst n ys)
   | .plst m xs => Ti xs n fun ys => k (.plst (m + n) ys)
   | .il l => Xm l (match n with
     | 0 => k (.plst 0 [])
     | _ + 1 => False)
   | _ => False
 | some (.keys ks) => match o with
   | .dct es => Tj es ks fun gs => k (.pdct gs)
   | .pdct es => Tj es ks fun gs => k (.pdct gs)
   | _ => False
noncomputable def Jy (sel : List Nat) (dr : List (Nat × Dr)) (ob : List (Nat × O)) : List Nat -> Nat -> (List (Nat × O) -> Prop) -> Prop
 | [], _, k => k []
 | a :: r, j, k => match Ze a ob with
   | some o => drK (Ze a dr) o fun o => rO (fun i k => Jb i sel 0 k) o fun o' => Jy sel dr ob r (j + 1) fun l => Qs j fun j => k ((j, o') :: l)
   | .none => Jy sel dr ob r (j + 1) k
noncomputable def Ki : List Nat -> Bool
 | [] => true
 | a :: r => (r.all fun b => !(Nat.beq a b)) && Ki r
noncomputable def Gl (n : Nat) : List Nat -> Bool
 | [] => true
 | a :: r => Nat.blt a n && Gl n r
noncomputable def Ot : List Nat -> Nat -> Nat
 | [], n => n
 | _ :: r, n => Ot r (n + 1)
noncomputable def Jd (sel : List Nat) (dr : List (Nat × Dr)) (vs : List V) (H : Hp) (k : List V -> Hp -> Prop) : Prop := match H with
 | ⟨n, ob⟩ => (Ki sel && Gl n sel) = true /\ Jc (fun i k => Jb i sel 0 k) vs fun us => Jy sel dr ob sel 0 fun l => Qs (Ot sel 0) fun n' => k us ⟨n', l⟩
noncomputable def Qe : Nat -> Nat -> List Nat -> Bool
 | 0, _, _ => true
 | _ + 1, _, [] => false
 | n + 1, i, a :: r => Nat.beq a i && Qe n (i + 1) r
noncomputable def Gm (f : Nat -> (Nat -> Prop) -> Prop) (sel : List Nat) (ob' : List (Nat × O)) : List (Nat × O) -> (List (Nat × O) -> Prop) -> Prop
 | [], k => k []
 | (a, o) :: r, k => match Jw a sel 0 with
   | .none => Gm f sel ob' r fun l => k ((a, o) :: l)
   | some j => match Ze j ob' with
     | .none => Gm f sel ob' r k
     | some o' => rO f o' fun o'' => Gm f sel ob' r fun l => k ((a, o'') :: l)
noncomputable def Tl (f : Nat -> (Nat -> Prop) -> Prop) (n b : Nat) : List (Nat × O) -> List (Nat × O) -> (List (Nat × O) -> Prop) -> Prop
 | [], l, k => k l
 | (j, o) :: r, l, k => match Nat.blt j n with
   | true => Tl f n b r l k
   | false => rO f o fun o' => Tl f n b r l fun l' => Qs (b + (j - n)) fun j => k ((j, o') :: l')
noncomputable def Sf (sel : List Nat) (H : Hp) (v : V) (h : Hp) (k : V -> Hp -> Prop) : Prop := match H, h with
 | ⟨n, ob⟩, ⟨n', ob'⟩ => rV (fun j k => Jx j n sel k) v fun u => Gm (fun j k => Jx j n sel k) sel ob' ob fun l =>
  Tl (fun j k => Jx j n sel k) (Ot sel 0) n ob' l fun l' => Qs (n + (n' - Ot sel 0)) fun n => k u ⟨n, l'⟩
noncomputable def Sg (m : Fm) : List Nat -> (List V -> Prop) -> Prop
 | [], k => k []
 | x :: r, k => match Ze x m with
   | some v => Sg m r fun vs => k (v :: vs)
   | .none => False
noncomputable def Gn : List Nat -> List V -> Fm
 | x :: xs, v :: vs => (x, v) :: Gn xs vs
 | _, _ => []
noncomputable def Zgv (N : Nat) (m : Fm) (H : Hp) (ks sel : List Nat) (dr : List (Nat × Dr)) (k : Fm -> Hp -> Prop) : Prop :=
 Qe N 0 sel = true /\ Sg m ks fun vs => Jd sel dr vs H fun us H' => k (Gn ks us) H'
noncomputable def Zsz (xs : List V) (k : List (List Nat) -> Prop) : Prop := ∃ l : List (List Nat), xs = l.map .str /\ k l
noncomputable def Zta (xs : List V) (k : List Bool -> Prop) : Prop := ∃ l : List Bool, xs = l.map .bool /\ k l
noncomputable def Jz {α : Type} : List α -> Nat -> (α -> Prop) -> Prop
 | [], _, _ => False
 | a :: r, n, k => match n with
   | 0 => k a
   | n + 1 => Jz r n k
theorem getK_eq {α : Type} {k : α -> Prop} : ∀ {l : List α} {n : Nat}, Jz l n k ↔ ∃ v, l[n]? = some v /\ k v
 | [], n => ⟨fun h => h.elim, fun ⟨_, h, _⟩ => by simp at h⟩
 | a :: r, 0 => ⟨fun h => ⟨a, rfl, h⟩, fun ⟨v, h, q⟩ => by (replace h := sI h; subst h); exact q⟩
 | a :: r, n + 1 => by
  show Jz r n k ↔ _
  rw [getK_eq]
  simp
theorem Us {α : Type} {k : α -> Prop} {l : List α} {n : Nat} {v : α} (h : l[n]? = some v) (q : k v) : Jz l n k := getK_eq.mpr ⟨v, h, q⟩
noncomputable def Tm {α : Type} (xs : List α) (i : Int) (k : α -> Prop) : Prop := br (decide (0 <= i /\ i < 4611686018427387904)) (Jz xs i.toNat k) False
noncomputable def Go : List V -> Option (List Int)
 | [] => some []
 | v :: r => match v with
   | .int i => match Go r with
     | some l => some (i :: l)
     | .none => .none
   | _ => .none
noncomputable def Si (vs : List V) (k : O -> Prop) : Prop := match Go vs with
 | some l => k (.il l)
 | .none => k (.lst vs)
noncomputable def sz (n : Nat) : Bool := Nat.ble n 1000000
noncomputable def Xv : Nat -> Nat -> List Nat -> List Nat
 | 0, _, acc => acc
 | f + 1, n, acc => match decide (n < 10) with
   | true => (48 + n) :: acc
   | false => Xv f (n / 10) ((48 + n % 10) :: acc)
noncomputable def Zgw (a b : V) (Q : V -> Hp -> Prop) (H : Hp) : Prop := match a with
 | .int i => Yh b fun j => Q (.int (i + j)) H
 | .str x => Qr b fun y => br (sz (x.length + y.length)) (Q (.str (x ++ y)) H) False
 | .ref i => Uh b fun j => H.lk i fun o => Ui o fun xs => H.lk j fun o' => Ui o' fun ys => br (sz (xs.length + ys.length)) (H.newK (.il (xs ++ ys)) fun a H => Q (.ref a) H) False
 | _ => False
noncomputable def Zgx (a b : V) (Q : V -> Hp -> Prop) (H : Hp) : Prop := match a with
 | .int i => Yh b fun j => br (decide (-18446744073709551616 < i /\ i < 18446744073709551616 /\ -18446744073709551616 < j /\ j < 18446744073709551616)) (Q (.int (i * j)) H) False
 | .ref i => Yh b fun k => H.lk i fun o => Ui o fun xs => Xh xs fun v => br (decide (-4611686018427387904 < k /\ k <= 1000000)) (H.newK (.il (List.replicate k.toNat v)) fun a H => Q (.ref a) H) False
 | _ => False
noncomputable def opS (op : Nat) (a b : V) (Q : V -> Hp -> Prop) (H : Hp) : Prop := match op with
 | 0 => Zgw a b Q H
 | 1 => Yh a fun i => Yh b fun j => Q (.int (i - j)) H
 | 2 => Zgx a b Q H
 | 3 => Yh a fun i => Yh b fun j => br (decide (0 < j /\ j < 1152921504606846976)) (Q (.int (i / j)) H) False
 | 4 => Yh a fun i => Yh b fun j => br (decide (0 < j /\ j < 1152921504606846976)) (Q (.int (i % j)) H) False
 | 5 => Yh a fun i => Yh b fun j => br (decide (0 <= i /\ i <= 16 /\ 0 <= j /\ j <= 100)) (Q (.int (i ^ j.toNat)) H) False
 | _ => False
noncomputable def Sj (a b : V) (H : Hp) (k : Bool -> Prop) : Prop := match a with
 | .int i => Yh b fun j => k (decide (i = j))
 | .str x => Qr b fun y => k (decide (x = y))
 | .ref i => Uh b fun j => H.lk i fun o => Ui o fun x => H.lk j fun o' => Ui o' fun y => k (decide (x = y))
 | _ => False
noncomputable def isN : V -> Bool
 | .none => true
 | _ => false
noncomputable def Ha (op : Nat) (a b : V) (H : Hp) (k : Bool -> Prop) : Prop := match op with
 | 0 => Sj a b H k
 | 1 => Sj a b H fun c => k (!c)
 | 2 => Yh a fun i => Yh b fun j => k (decide (i < j))
 | 3 => Yh a fun i => Yh b fun j => k (decide (i <= j))
 | 4 => Yh a fun i => Yh b fun j => k (decide (j < i))
 | 5 => Yh a fun i => Yh b fun j => k (decide (j <= i))
 | 6 => Tg b (k (isN a))
 | 7 => Tg b (k (!isN a))
 | 8 => Qr a fun x => Qr b fun y => Xh x fun c => k (y.any fun d => Nat.beq d c)
 | 9 => Qr a fun x => Qr b fun y => Xh x fun c => k (!y.any fun d => Nat.beq d c)
 | _ => False
noncomputable def Ztb (o : O) (k : Int) (q : V -> Prop) : Prop := match o with
 | .il xs => Tm xs k fun v => q (.int v)
 | .lst xs => Tm xs k q
 | .tup xs => Tm xs k q
 | .plst n ys => br (decide ((n : Int) <= k /\ k < 4611686018427387904)) (Jz ys (k.toNat - n) q) False
 | .dct es => Xe (Yn k es) q
 | _ => False
noncomputable def Zgy (a i : V) (H : Hp) (q : V -> Prop) : Prop := match a with
 | .ref a => Yh i fun k => H.lk a fun o => Ztb o k q
 | .str l => Yh i fun k => Tm l k fun c => q (.str [c])
 | _ => False
noncomputable def Zbw (v : V) (q : Option Nat -> Prop) : Prop := match v with
 | .none => q .none
 | .int k => br (decide (0 <= k /\ k < 4611686018427387904)) (q (some k.toNat)) False
 | _ => False
noncomputable def Wt {α : Type} (l : List α) : Option Nat -> Option Nat -> List α
 | some i, some j => (l.drop i).take (j - i)
 | .none, some j => l.take j
 | some i, .none => l.drop i
 | .none, .none => l
noncomputable def Zgz (o : O) (i j : Option Nat) (k : List Int -> Prop) : Prop := match o with
 | .il xs => br (sz xs.length) (k (Wt xs i j)) False
 | .sil xs => br (sz xs.length) (k (Wt xs i j)) False
 | _ => False
noncomputable def Ztc (a lo hi : V) (Q : V -> Hp -> Prop) (H : Hp) : Prop := Zbw lo fun i => Zbw hi fun j => match a with
 | .ref a => H.lk a fun o => Zgz o i j fun l => H.newK (.il l) fun a H => Q (.ref a) H
 | .str l => br (sz l.length) (Q (.str (Wt l i j)) H) False
 | _ => False
noncomputable def calm (cm : Bool) (P : Prop) : Prop := match cm with
 | true => P
 | false => False
noncomputable def Ztd (o : O) (k : Nat -> Prop) : Prop := match o with
 | .il xs => k xs.length
 | .lst xs => k xs.length
 | .plst n ys => k (n + ys.length)
 | _ => False
noncomputable def Zha (v : V) (H : Hp) (k : Nat -> Prop) : Prop := match v with
 | .ref i => H.lk i fun o => Ztd o fun n => br (sz n) (k n) False
 | .str l => br (sz l.length) (k l.length) False
 | _ => False
noncomputable def Zbx (v : V) (H : Hp) (k : List Bool -> Prop) : Prop := Uh v fun i => H.lk i fun o => Zgo o fun xs => Zta xs fun bs => br (sz xs.length) (k bs) False
noncomputable def Zte (o : O) (P : Prop) : Prop := match o with
 | .dct es => Xm es P
 | _ => False
noncomputable def biS (cm : Bool) (b : Nat) (vs : List V) (Q : V -> Hp -> Prop) (H : Hp) : Prop := match b with
 | 0 => Xh vs fun v => Zha v H fun n => Q (.int n) H
 | 1 => Xh vs fun v => Uh v fun i => H.lk i fun o => Ui o fun xs => br (sz xs.length) (H.newK (.il xs) fun a H => Q (.ref a) H) False
 | 3 => Xh vs fun v => Qr v fun l => Xh l fun c => Q (.int c) H
 | 4 => Xh vs fun v => Yh v fun i => Q (.int i.natAbs) H
 | 5 => Sa vs fun v w => Yh v fun i => Yh w fun j => calm cm (Q (.int (min i j)) H)
 | 6 => Sa vs fun v w => Yh v fun i => Yh w fun j => calm cm (Q (.int (max i j)) H)
 | 7 => Xh vs fun v => calm cm <| Zbx v H fun bs => Q (.bool (bs.any id)) H
 | 8 => Xh vs fun v => calm cm <| Zbx v H fun bs => Q (.bool (bs.all id)) H
 | 9 => Xh vs fun v => calm cm <| Uh v fun i => H.lk i fun o => Zte o (H.newK (.il []) fun a H => Q (.ref a) H)
 | 10 => Xh vs fun v => calm cm <| Yh v fun i => br (decide (0 <= i /\ i < 1000000)) (Q (.str (Xv 20 i.toNat [])) H) False
 | _ => False
noncomputable def Wc (c : Nat) : Bool := Nat.ble 65 c && Nat.ble c 90
noncomputable def Wd (c : Nat) : Bool := Nat.ble 97 c && Nat.ble c 122
noncomputable def Hb (c : Nat) : Bool := Nat.ble 48 c && Nat.ble c 57
noncomputable def upC (c : Nat) : Nat := match Wd c with
 | true => c - 32
 | false => c
noncomputable def loC (c : Nat) : Nat := match Wc c with
 | true => c + 32
 | false => c
noncomputable def Zs (l : List Nat) : Bool := l.all fun c => Nat.ble 32 c && Nat.ble c 126
noncomputable def Xi : List Nat -> List Nat -> List (List Nat)
 | [], acc => match acc with
   | [] => []
   | _ => [acc]
 | c :: r, acc => match Nat.beq c 32 with
   | true => match acc with
     | [] => Xi r []
     | _ => acc :: Xi r []
   | false => Xi r (acc ++ [c])
noncomputable def Ut (sep : List Nat) : List (List Nat) -> List Nat
 | [] => []
 | [x] => x
 | x :: r => x ++ sep ++ Ut sep r
noncomputable def Ztf (l : List Nat) (o : O) (k : List Nat -> Prop) : Prop := match o with
 | .il xs => Xm xs (k [])
 | .lst xs => Zsz xs fun ss => br (sz (Ut l ss).length && sz (ss.length * l.length)) (k (Ut l ss)) False
 | _ => False
noncomputable def smS (nm : Nat) (l : List Nat) (vs : List V) (Q : V -> Hp -> Prop) (H : Hp) : Prop := match nm with
 | 5 => Xh vs fun v => Uh v fun i => H.lk i fun o => Ztf l o fun x => Q (.str x) H
 | 6 => Xm vs <| br (Zs l) (Q (.bool (!l.isEmpty && l.all fun c => Wc c || Wd c || Hb c)) H) False
 | 7 => Xm vs <| br (Zs l && sz l.length) (H.newK (.lst ((Xi l []).map .str)) fun a H => Q (.ref a) H) False
 | 8 => Xm vs <| br (Zs l) (Q (.bool (!l.isEmpty && l.all fun c => Wc c || Wd c)) H) False
 | 9 => Xm vs <| br (Zs l) (Q (.bool (l.any Wd && !l.any Wc)) H) False
 | 10 => Xm vs <| br (Zs l) (Q (.bool (l.any Wc && !l.any Wd)) H) False
 | 11 => Xm vs <| br (Zs l && sz l.length) (Q (.str (l.map upC)) H) False
 | 12 => Xm vs <| br (Zs l && sz l.length) (Q (.str (l.map loC)) H) False
 | _ => False
noncomputable def Ztg (l : List Int) (v : V) (k : O -> Prop) : Prop := match v with
 | .int x => br (sz l.length) (k (.il (l ++ [x]))) False
 | v => Xm l (k (.lst [v]))
noncomputable def apO (v : V) (o : O) (k : O -> Prop) : Prop := match o with
 | .il l => Ztg l v k
 | .lst xs => br (sz xs.length) (k (.lst (xs ++ [v]))) False
 | .plst n xs => br (sz (n + xs.length)) (k (.plst n (xs ++ [v]))) False
 | _ => False
noncomputable def Zth (l : List Int) (k : Int -> List Int -> Prop) : Prop := match l with
 | [] => False
 | v :: xs => br (sz xs.length) (k v xs) False
noncomputable def is0 (i : Int) (P : Prop) : Prop := match i with
 | .ofNat 0 => P
 | _ => False
noncomputable def lmS (nm : Nat) (i : Nat) (vs : List V) (Q : V -> Hp -> Prop) (H : Hp) : Prop := H.lk i fun o => match nm with
 | 0 => Xh vs fun v => apO v o fun o' => H.setK i o' fun H => Q .none H
 | 1 => Xh vs fun v => Yh v fun k => is0 k <| Ui o fun l => Zth l fun v xs => H.setK i (.il xs) fun H => Q (.int v) H
 | 2 => Sa vs fun w v => Yh w fun k => is0 k <| Yh v fun v => Ui o fun xs => br (sz xs.length) (H.setK i (.il (v :: xs)) fun H => Q .none H) False
 | 3 => Xh vs fun v => Yh v fun k => Ui o fun l => Xh l fun j => br (decide (j = k)) (H.setK i (.il []) fun H => Q .none H) False
 | _ => False
noncomputable def Sk (o : Option V) (d : V) : V := match o with
 | some v => v
 | .none => d
noncomputable def Zti (o : O) (k : Int) (d : V) (q : V -> Prop) : Prop := match o with
 | .dct es => q (Sk (Yn k es) d)
 | .pdct es => Xe (Yn k es) q
 | _ => False
noncomputable def Ztj (o : O) (k : Int) (q : V -> Prop) : Prop := match o with
 | .dct es => q (Sk (Yn k es) .none)
 | _ => False
noncomputable def Zhb (vs : List V) (o : O) (q : V -> Prop) : Prop := match vs with
 | [] => False
 | a :: r => Yh a fun k => match r with
   | [] => Ztj o k q
   | d :: r => Xm r (Zti o k d q)
noncomputable def dmS (nm : Nat) (i : Nat) (vs : List V) (Q : V -> Hp -> Prop) (H : Hp) : Prop := H.lk i fun o => match nm with
 | 4 => Zhb vs o fun v => Q v H
 | _ => False
noncomputable def Xw (a b : Int) : List V := (List.range (b - a).toNat).map fun (k : Nat) => V.int (a + (k : Int))
noncomputable def Ztk (o : O) (k : Int) (v : V) (q : O -> Prop) : Prop := match o with
 | .il xs => Yh v fun x => br (decide (0 <= k /\ k.toNat < xs.length) && sz xs.length) (q (.il (xs.set k.toNat x))) False
 | .lst xs => br (decide (0 <= k /\ k.toNat < xs.length) && sz xs.length) (q (.lst (xs.set k.toNat v))) False
 | .dct es => br (sz es.length) (q (.dct ((k, v) :: es))) False
 | _ => False
noncomputable def Zby (o i v : V) (Q : Hp -> Prop) (H : Hp) : Prop := Uh o fun a => Yh i fun k => H.lk a fun o => Ztk o k v fun o' => H.setK a o' Q
noncomputable def Zhc (o lo hi v : V) (Q : Hp -> Prop) (H : Hp) : Prop := Uh o fun a => Yh lo fun i => Yh hi fun j => Uh v fun e => H.lk a fun p => Ui p fun xs => H.lk e fun q => Ui q fun ys =>
 br (decide (0 <= i /\ i <= j /\ j.toNat <= xs.length) && sz (xs.length + ys.length)) (H.setK a (.il (xs.take i.toNat ++ ys ++ xs.drop j.toNat)) Q) False
structure Tabs where
 fn : Nat -> Option Fn
 mt : Nat -> Nat -> Option Nat
 ini : Nat -> Option Nat
 fo : Nat -> Nat -> Bool
 bm : Nat -> Option Nat
 wk : Nat -> Bool
structure Sys where
 e : E -> (V -> Hp -> Prop) -> Fm -> Hp -> Prop
 a : List E -> (List V -> Hp -> Prop) -> Fm -> Hp -> Prop
 s : Nat -> List S -> (Fl -> Fm -> Hp -> Prop) -> Fm -> Hp -> Prop
 c : Nat -> List V -> (V -> Hp -> Prop) -> Hp -> Prop
noncomputable def Uu (chk : Hp -> Prop) (elt cond : V -> (V -> Hp -> Prop) -> Hp -> Prop) (Q : List V -> Hp -> Prop) : List V -> List V -> Hp -> Prop
 | [], acc, H => chk H /\ Q acc H
 | x :: xs, acc, H => chk H /\ cond x (fun c H1 => Wp c fun b => br b (elt x (fun r H2 => Uu chk elt cond Q xs (acc ++ [r]) H2) H1) (Uu chk elt cond Q xs acc H1)) H
noncomputable def Kj : List Nat -> List V -> Fm -> (Fm -> Prop) -> Prop
 | [], vs, m, k => Xm vs (k m)
 | x :: xs, vs, m, k => match vs with
   | [] => False
   | v :: vs => Ww x v m fun m => Kj xs vs m k
noncomputable def Gp (v : V) (H : Hp) (k : List V -> Prop) : Prop := Uh v fun i => H.lk i fun o => Zgp o k
noncomputable def Gq : List Nat -> List V -> List V -> (Fm -> Prop) -> Prop
 | [], _, vs, k => Xm vs (k [])
 | p :: ps, d, vs, k => match vs with
   | v :: vs => Gq ps d vs fun m => k ((p, v) :: m)
   | [] => Xm ps (Xh d fun v => k [(p, v)])
noncomputable def itO (o : O) (i : Nat) (k : (Hp -> Prop) -> List V -> Prop) : Prop := match o with
 | .il l => br (sz l.length) (k (fun H' => H'.look i = some (.il l)) (l.map .int)) False
 | .lst xs => br (sz xs.length) (k (fun H' => H'.look i = some (.lst xs)) xs) False
 | .tup xs => br (sz xs.length) (k (fun H' => H'.look i = some (.tup xs)) xs) False
 | _ => False
noncomputable def itV (cm : Bool) (v : V) (H : Hp) (k : (Hp -> Prop) -> List V -> Prop) : Prop := match v with
 | .ref i => calm cm <| H.lk i fun o => itO o i k
 | .str l => br (sz l.length) (k (fun _ => True) (l.map fun c => .str [c])) False
 | _ => False
noncomputable def Ztl (vs : List V) (k : List V -> Prop) : Prop := match vs with
 | [] => False
 | a :: r => Yh a fun a => match r with
   | [] => br (decide (-1000000 <= a /\ a <= 1000000)) (k (Xw 0 a)) False
   | b :: r => Xm r (Yh b fun b => br (decide (-1000000 <= a /\ a <= 1000000 /\ -1000000 <= b /\ b <= 1000000)) (k (Xw a b)) False)
noncomputable def Ztm (e : E) (k : List E -> Prop) : Prop := match e with
 | .list es => k es
 | _ => False
noncomputable def Hc (cm : Bool) (w : Sys) (rg : Bool) (it : E) (k : (Hp -> Prop) -> List V -> Hp -> Prop) (m : Fm) (H : Hp) : Prop := match rg with
 | true => calm cm <| Ztm it fun es => w.a es (fun vs H => Ztl vs fun xs => k (fun _ => True) xs H) m H
 | false => w.e it (fun v H => itV cm v H fun chk xs => k chk xs H) m H
noncomputable def Sl (acc : List V) (H : Hp) (k : Nat -> Hp -> Prop) : Prop := (∃ l : List Int, acc = l.map .int /\ H.newK (.il l) k) \/ H.newK (.lst acc) k
noncomputable def Ztn (t : Tabs) (n : Nat) (o : O) (ki : Nat -> Prop) (kd kl : Nat -> Prop) : Prop := match o with
 | .inst C fs => match Ze n fs with
   | .none => Xe (t.mt C n) ki
   | some _ => False
 | .dct _ => Xe (t.bm n) fun b => calm (Nat.beq b 4) (kd b)
 | .pdct _ => Xe (t.bm n) fun b => calm (Nat.beq b 4) (kd b)
 | .il _ => Xe (t.bm n) fun b => calm (Nat.ble b 3) (kl b)
 | .lst _ => Xe (t.bm n) fun b => calm (Nat.ble b 3) (kl b)
 | .plst _ _ => Xe (t.bm n) fun b => calm (Nat.ble b 3) (kl b)
 | _ => False
noncomputable def Zto (t : Tabs) (n : Nat) (v : V) (H : Hp) (ki kd kl : Nat -> Nat -> Prop) (ks : List Nat -> Nat -> Prop) : Prop := match v with
 | .ref i => H.lk i fun o => Ztn t n o (ki i) (kd i) (kl i)
 | .str l => Xe (t.bm n) fun b => calm (Nat.ble 5 b) (ks l b)
 | _ => False
noncomputable def Yu (t : Tabs) (cm : Bool) (w : Sys) (e : E) (Q : V -> Hp -> Prop) (m : Fm) (H : Hp) : Prop := match e with
 | .lit v => Q v H
 | .loc x => Xe (Ze x m) fun v => Q v H
 | .cel x => Xe (Ze x m) fun v => Q v H
 | .bin op a b => w.e a (fun va H => w.e b (fun vb H => opS op va vb Q H) m H) m H
 | .cmp op a b => w.e a (fun va H => w.e b (fun vb H => Ha op va vb H fun c => Q (.bool c) H) m H) m H
 | .cmp2 op op' a b c => w.e a (fun va H => w.e b (fun vb H => Ha op va vb H fun x => br x (w.e c (fun vc H => Ha op' vb vc H fun c => Q (.bool c) H) m H) (Q (.bool false) H)) m H) m H
 | .and a b => w.e a (fun v H => Wp v fun x => br x (w.e b Q m H) (ap Q (.bool false) H)) m H
 | .or a b => w.e a (fun v H => Wp v fun x => br x (ap Q (.bool true) H) (w.e b Q m H)) m H
 | .not a => w.e a (fun v H => Wp v fun x => Q (.bool (!x)) H) m H
 | .neg a => w.e a (fun v H => Yh v fun i => Q (.int (-i)) H) m H
 | .ite c a b => w.e c (fun v H => Wp v fun x => br x (w.e a Q m H) (w.e b Q m H)) m H
 | .fld a n => w.e a (fun v H => Uh v fun i => H.lk i fun o => Sb o fun _ fs => Xe (Ze n fs) fun u => Q u H) m H
 | .item a i => w.e a (fun va H => w.e i (fun vi H => Zgy va vi H fun v => Q v H) m H) m H
 | .slc a lo hi => w.e a (fun va H => w.e lo (fun vl H => w.e hi (fun vh H => Ztc va vl vh Q H) m H) m H) m H
 | .list es => w.a es (fun vs H => br (sz vs.length) (Si vs fun o => H.newK o fun a H => Q (.ref a) H) False) m H
 | .tup es => w.a es (fun vs H => br (sz vs.length) (H.newK (.tup vs) fun a H => Q (.ref a) H) False) m H
 | .dict0 => H.newK (.dct []) fun a H => Q (.ref a) H
 | .call f es => w.a es (fun vs H => w.c f vs Q H) m H
 | .make C es => w.a es (fun vs H => Xe (t.ini C) fun f => H.newK (.inst C []) fun a H => w.c f (.ref a :: vs) (fun v H' => Tg v (Q (.ref a) H')) H) m H
 | .meth a n es => w.e a (fun v H => Zto t n v H (fun i f => w.a es (fun vs H => w.c f (.ref i :: vs) Q H) m H) (fun i b => w.a es (fun vs H => dmS b i vs Q H) m H)
     (fun i b => w.a es (fun vs H => lmS b i vs Q H) m H) (fun l b => w.a es (fun vs H => smS b l vs Q H) m H)) m H
 | .bi b es => w.a es (fun vs H => biS cm b vs Q H) m H
 | .isi a => w.e a (fun v H => Qr v fun _ => Q (.bool true) H) m H
 | .comp x rg it elt cond => Hc cm w rg it (fun chk xs H => Uu chk (fun v Q H => w.e elt Q ((x, v) :: m) H) (fun v Q H => w.e cond Q ((x, v) :: m) H)
     (fun acc H => Sl acc H fun a H => Q (.ref a) H) xs [] H) m H
noncomputable def Zhd (w : Sys) (es : List E) (Q : List V -> Hp -> Prop) (m : Fm) (H : Hp) : Prop := match es with
 | [] => Q [] H
 | e :: es => w.e e (fun v H => w.a es (fun vs H => Q (v :: vs) H) m H) m H
noncomputable def Xj (k : Fm -> Hp -> Prop) (Q : Fl -> Fm -> Hp -> Prop) (fl : Fl) (m : Fm) (H : Hp) : Prop := match fl with
 | .nx => k m H
 | .ret v => Q (.ret v) m H
noncomputable def Oe (chk : Hp -> Prop) (put : V -> Fm -> Hp -> (Fm -> Prop) -> Prop) (body : (Fl -> Fm -> Hp -> Prop) -> Fm -> Hp -> Prop) (Q : Fl -> Fm -> Hp -> Prop) : List V -> Fm -> Hp -> Prop
 | [], m, H => chk H /\ Q .nx m H
 | x :: xs, m, H => chk H /\ put x m H fun m' => body (Xj (Oe chk put body Q xs) Q) m' H
noncomputable def Ztp (t : Tabs) (cm : Bool) (w : Sys) (N : Nat) (ss : List S) (Q : Fl -> Fm -> Hp -> Prop) (m : Fm) (H : Hp) : Prop := match ss with
 | [] => Q .nx m H
 | st :: rest => match st with
   | .asg x e => w.e e (fun v H => Ww x v m fun m => w.s N rest Q m H) m H
   | .asgT xs e => calm cm <| w.e e (fun v H => Gp v H fun ys => Kj xs ys m fun m => w.s N rest Q m H) m H
   | .setf o n e => w.e e (fun v H => w.e o (fun ov H => Uh ov fun i => H.lk i fun o => Sb o fun C fs =>
       br ((t.fo C n || (Ze n fs).isSome) && Nat.ble fs.length 100) (Ww n v fs fun fs => H.setK i (.inst C fs) fun H => w.s N rest Q m H) False) m H) m H
   | .seti o i e => w.e e (fun v H => w.e o (fun ov H => w.e i (fun iv H => Zby ov iv v (fun H => w.s N rest Q m H) H) m H) m H) m H
   | .sets o lo hi e => w.e e (fun v H => w.e o (fun ov H => w.e lo (fun vl H => w.e hi (fun vh H => Zhc ov vl vh v (fun H => w.s N rest Q m H) H) m H) m H) m H) m H
   | .ex e => w.e e (fun _ H => w.s N rest Q m H) m H
   | .ret e => w.e e (fun v H => Q (.ret v) m H) m H
   | .ret0 => Q (.ret .none) m H
   | .ite c a b => w.e c (fun v H => Wp v fun x => br x (w.s N a (Xj (w.s N rest Q) Q) m H) (w.s N b (Xj (w.s N rest Q) Q) m H)) m H
   | .forN x rg it b => Hc cm w rg it (fun chk xs H => Oe chk (fun v m _ k => Ww x v m k) (fun Q m H' => w.s H.nx b Q m H') (Xj (w.s N rest Q) Q) xs m H) m H
   | .forT ns rg it b => calm cm <| Hc cm w rg it (fun chk xs H => Oe chk (fun v m H k => Gp v H fun ys => Kj ns ys m k) (fun Q m H' => w.s H.nx b Q m H') (Xj (w.s N rest Q) Q) xs m H) m H
   | .whl c b => ∃ ks sel dr, Zgv N m H ks sel dr fun m' H' => w.e c (fun v H => Wp v fun x => br x (w.s N b (Xj (w.s N (.whl c b :: rest) Q) Q) m' H) (w.s N rest Q m' H)) m' H'
   | .rais _ _ => False
   | .tri _ _ => False
noncomputable def Je : Fl -> V
 | .nx => .none
 | .ret v => v
inductive Run (t : Tabs) (w : Sys) (f : Nat) (vs : List V) (h : Hp) (P : V -> Hp -> Prop) : Prop where
 | mk (q : match t.fn f with
   | some F => Gq F.ps F.dfl vs fun m => match h with
     | ⟨n, ob⟩ => w.s n F.body (fun fl _ h' => ∃ sel dr, Qe n 0 sel = true /\ Jd sel dr [Je fl] h' fun us h'' => match us with
       | [v] => P v h''
       | _ => False) m ⟨n, ob⟩
   | .none => False)
inductive callD (t : Tabs) (w : Sys) (f : Nat) (vs : List V) (Q : V -> Hp -> Prop) (H : Hp) : Prop where
 | mk (sel : List Nat) (dr : List (Nat × Dr)) (q : Jd sel dr vs H fun us h => Run t w f us h fun v h' => Sf sel H v h' Q)
noncomputable def Zbz (t : Tabs) (w : Sys) (f : Nat) (vs : List V) (Q : V -> Hp -> Prop) (H : Hp) : Prop := match t.wk f with
 | true => callD t w f vs Q H
 | false => match t.fn f with
   | some F => Gq F.ps F.dfl vs fun m => match H with
     | ⟨n, ob⟩ => w.s n F.body (fun fl _ H' => Q (Je fl) H') m ⟨n, ob⟩
   | .none => False
noncomputable def W (t : Tabs) : Nat -> Bool -> Sys
 | 0, _ => ⟨fun _ _ _ _ => False, fun _ _ _ _ => False, fun _ _ _ _ _ => False, fun _ _ _ _ => False⟩
 | n + 1, c => ⟨Yu t c (W t n c), Zhd (W t n c), Ztp t c (W t n c), Zbz t (W t n c)⟩
end Mine.Ab
end
section
open PySem PySem.W PySem.Calls PyProof.Rows
noncomputable section
namespace Mine
open Mine.Ab (Wc Wd Hb upC loC Zs Xi Ut Xv)
theorem Ztq : ((List.range 127).all fun c => Nat.blt c 32 || (Unicode.isAlnum c == (Wc c || Wd c || Hb c) && Unicode.isAlpha c == (Wc c || Wd c) && Unicode.isLower c == Wd c && Unicode.isUpper c == Wc c && !Unicode.isTitle c && Unicode.isSpace c == Nat.beq c 32 &&
 Unicode.upperOf c == [upC c] && Unicode.lowerOf c == [loC c])) = true := by decide +kernel
theorem Qf {l : List Nat} (h : Zs l = true) {c : Nat} (hc : c ∈ l) : Unicode.isAlnum c = (Wc c || Wd c || Hb c) /\ Unicode.isAlpha c = (Wc c || Wd c) /\ Unicode.isLower c = Wd c /\ Unicode.isUpper c = Wc c /\ Unicode.isTitle c = false /\ Unicode.isSpace c = Nat.beq c 32 /\
  Unicode.upperOf c = [upC c] /\ Unicode.lowerOf c = [loC c] /\ c ≠ 0x3A3 := by
 have h1 := List.all_eq_true.mp h c hc
 rw [Bool.and_eq_true] at h1
 have h2 := Nat.le_of_ble_eq_true h1.1
 have h3 := Nat.le_of_ble_eq_true h1.2
 have h4 := List.all_eq_true.mp Ztq c (List.mem_range.mpr (by exact Nat.lt_succ_of_le (by assumption)))
 have h5 : Nat.blt c 32 = false := by
  cases z : Nat.blt c 32 with
  | false => rfl
  | true => have : c < 32 := Nat.le_of_ble_eq_true z; exact gf (L2 (N1 _) V0 1 (.k 32) nA (nl h2) 1 (.a nA kI) (.k 32) (Wi this) kI kZ rfl)
 rw [h5, Bool.false_or] at h4
 simp only [Bool.and_eq_true, beq_iff_eq, Bool.not_eq_true'] at h4
 (refine Zg h4 ?_; clear h4; intro e1e a8; obtain ⟨⟨⟨⟨⟨⟨a1, a2⟩, a3⟩, a4⟩, a5⟩, a6⟩, a7⟩ := e1e)
 exact Znl a1 a2 a3 a4 a5 a6 a7 a8 (by exact fun zz => gf (L2 (N1 _) V0 1 nA (.k 126) (nl h3) 1 (.k 931) nA (Yq zz) kI kZ rfl))
theorem Zhe {l : List Nat} {p q : Nat -> Bool} (h : ∀ c ∈ l, p c = q c) : l.all p = l.all q := by
 induction l with
 | nil => rfl
 | cons a r ih => rw [List.all_cons, List.all_cons, h a (.head _), ih fun c hc => h c (.tail _ hc)]
theorem Sm {l : List Nat} {p q : Nat -> Bool} (h : ∀ c ∈ l, p c = q c) : l.any p = l.any q := by
 induction l with
 | nil => rfl
 | cons a r ih => rw [List.any_cons, List.any_cons, h a (.head _), ih fun c hc => h c (.tail _ hc)]
theorem Zhf (l : List Nat) : decide ((Str.mk l.toArray).length > 0) = !l.isEmpty := by cases l <;> simp [Str.length]
theorem Ztr {l : List Nat} (h : Zs l = true) : Txt.isalnum ⟨l.toArray⟩ = (!l.isEmpty && l.all fun c => Wc c || Wd c || Hb c) := by
 unfold Txt.isalnum
 rw [Zhf]
 show (_ && l.toArray.all _) = _
 rw [List.all_toArray', Zhe fun c hc => (Qf h hc).1] <;> simp
theorem Zts {l : List Nat} (h : Zs l = true) : Txt.isalpha ⟨l.toArray⟩ = (!l.isEmpty && l.all fun c => Wc c || Wd c) := by
 unfold Txt.isalpha
 rw [Zhf]
 show (_ && l.toArray.all _) = _
 rw [List.all_toArray', Zhe fun c hc => (Qf h hc).2.1] <;> simp
theorem Ztt {l : List Nat} (h : Zs l = true) : Txt.islower ⟨l.toArray⟩ = (l.any Wd && !l.any Wc) := by
 unfold Txt.islower
 show (l.toArray.any _ && !l.toArray.any _) = _
 simp only [List.any_toArray]
 rw [Sm (p := Unicode.isLower) (q := Wd) fun c hc => (Qf h hc).2.2.1, Sm (p := fun c => Unicode.isUpper c || Unicode.isTitle c) (q := Wc) fun c hc => by rw [(Qf h hc).2.2.2.1, (Qf h hc).2.2.2.2.1, Bool.or_false]]
theorem Ztu {l : List Nat} (h : Zs l = true) : Txt.isupper ⟨l.toArray⟩ = (l.any Wc && !l.any Wd) := by
 unfold Txt.isupper
 show (l.toArray.any _ && !l.toArray.any _) = _
 simp only [List.any_toArray]
 rw [Sm (p := Unicode.isUpper) (q := Wc) fun c hc => (Qf h hc).2.2.2.1, Sm (p := fun c => Unicode.isLower c || Unicode.isTitle c) (q := Wd) fun c hc => by rw [(Qf h hc).2.2.1, (Qf h hc).2.2.2.2.1, Bool.or_false]]
theorem Zhg {l : List Nat} {f : Nat -> Nat -> List Nat} {g : Nat -> Nat} (h : ∀ i c, l[i]? = some c -> f i c = [g c]) : placed ⟨l.toArray⟩ f = (l.map g).toArray := by
 unfold placed
 apply Array.toList_inj.mp
 have : (l.toArray.mapIdx fun i c => (f i c).toArray) = (l.toArray.mapIdx fun i c => #[g c]) := by
  apply Array.ext (by simp)
  intro i h1 h2
  simp only [Array.getElem_mapIdx]
  rw [h i _ (by simp at h1; simp [h1])]
 rw [show (Str.mk l.toArray).cps = l.toArray from rfl, this]
 simp only [Array.toList_flatten]
 rw [show (l.toArray.mapIdx fun i c => #[g c]) = l.toArray.map fun c => #[g c] by apply Array.ext (by simp); intro i h1 h2; simp]
 rw [Array.toList_map, List.map_map, List.toList_toArray]
 show ((l.map fun c => [g c])).flatten = _
 clear this h
 induction l with
 | nil => rfl
 | cons a r ih => simp [ih]
theorem Zhh {l : List Nat} (h : Zs l = true) : Txt.upper ⟨l.toArray⟩ = ⟨(l.map upC).toArray⟩ := congrArg Str.mk (Zhg fun i c hc => (Qf h (List.mem_of_getElem? hc)).2.2.2.2.2.2.1)
theorem Zhi {l : List Nat} (h : Zs l = true) : Txt.lower ⟨l.toArray⟩ = ⟨(l.map loC).toArray⟩ := congrArg Str.mk (Zhg fun i c hc => by
 have m := (Qf h (List.mem_of_getElem? hc)).2.2.2.2.2.2.2
 unfold Unicode.lowerAt
 rw [show (Str.mk l.toArray).cps[i]? = some c by simpa using hc]
 dsimp only
 rw [beq_eq_false_iff_ne.mpr m.2, Bool.false_and]
 exact m.1)
theorem Sn : ∀ (l acc : List Nat) (ws : List Str), Zs l = true ->
  KWd.fin (l.foldl KWd.step (ws, ⟨acc.toArray⟩)) = ws ++ (Xi l acc).map fun w => Str.mk w.toArray
 | [], acc, ws, _ => by
  unfold Xi KWd.fin
  cases acc with
  | nil => simp [Str.length]
  | cons a r => simp [Str.length]
 | c :: r, acc, ws, h => by
  have hc := (Qf h (.head _)).2.2.2.2.2.1
  have hr : Zs r = true := by
   have := h
   unfold Zs at this ⊢
   rw [List.all_cons, Bool.and_eq_true] at this
   exact this.2
  rw [List.foldl_cons]
  unfold Xi
  cases z : Nat.beq c 32 with
  | false =>
   rw [z] at hc
   unfold KWd.step
   rw [if_neg (by rw [hc]; exact Bool.false_ne_true)]
   have e : (⟨acc.toArray⟩ : Str) ++ ⟨#[c]⟩ = ⟨(acc ++ [c]).toArray⟩ := by
    show Str.mk (acc.toArray ++ #[c]) = _
    simp
   dsimp only
   rw [e]
   exact Sn r (acc ++ [c]) ws hr
  | true =>
   rw [z] at hc
   unfold KWd.step
   rw [if_pos hc]
   cases acc with
   | nil =>
    rw [if_pos (by rfl)]
    exact Sn r [] ws hr
   | cons a t =>
    rw [if_neg (by simp [Str.length])]
    dsimp only
    exact (Sn r [] (ws ++ [⟨(a :: t).toArray⟩]) hr).trans (by rw [List.append_assoc]; first | done | rfl)
theorem Ztv {l : List Nat} (h : Zs l = true) : Txt.words ⟨l.toArray⟩ = (Xi l []).map fun w => Str.mk w.toArray := by
 rw [KWd.words_scan]
 unfold KWd.scan
 exact (Sn l [] [] h).trans (List.nil_append _)
theorem Ztw (sep : List Nat) : ∀ ss : List (List Nat), Txt.join ⟨sep.toArray⟩ (ss.map fun w => Str.mk w.toArray) = ⟨(Ut sep ss).toArray⟩ := fun ss => by
 show Builtin.Str.glued _ _ = _
 rw [StrLaws.glued_eq_join]
 induction ss with
 | nil => rfl
 | cons x r ih =>
  cases r with
  | nil => rfl
  | cons y r =>
   have cat : ∀ x y : List Nat, (Str.mk x.toArray ++ Str.mk y.toArray) = Str.mk (x ++ y).toArray := fun x y => by
    show Str.mk (x.toArray ++ y.toArray) = _
    rw [List.append_toArray]
   show Str.mk x.toArray ++ Str.mk sep.toArray ++ Str.join _ (List.map _ (y :: r)) = _
   rw [ih, cat, cat]
   rfl
theorem Zhj (sep : List Nat) : ∀ (ss : List (List Nat)) (n : Nat), List.foldl (fun a (w : Str) => a + w.length + (Str.mk sep.toArray).length) n (ss.map fun w => Str.mk w.toArray) = n + (ss.map List.length).sum + ss.length * sep.length
 | [], n => by simp
 | x :: r, n => by
  rw [List.map_cons, List.foldl_cons, Zhj sep r, Js, Js, List.map_cons, List.sum_cons, List.length_cons, Nat.succ_mul]
  exact gq (M0 (N5 _ _ _ _ _) V0 (.a (.a (.a (.a nA nB) nC) nD) nE) (.a (.a nA (.a nB nD)) (.a nE nC)) rfl)
theorem Zhk (sep : List Nat) : ∀ ss : List (List Nat), (ss.map List.length).sum <= (Ut sep ss).length
 | [] => Nat.zero_le _
 | [x] => by simp [Ut]
 | x :: y :: r => by
  have := Zhk sep (y :: r)
  rw [List.map_cons, List.sum_cons]
  show _ <= (x ++ sep ++ Ut sep (y :: r)).length
  simp only [List.length_append]
  exact gl (L1 (N4 _ _ _ _) V0 1 nB nD (nl this) (.a nA nB) (.a (.a nA nC) nD) rfl)
section
variable {α β : Type} {B : Bgd} {A : Around} {E : Value -> Shared -> Prop} {σ : St} {env : Env} {L a b C : Addr} {m : Zc} {ψ χ : St} {xs ys : List Value} {s : Shared} {l : List Nat}
theorem Zca {n : Nat} (h : n <= sizeLine) : Builtin.Str.tooLong n = false := by
 unfold Builtin.Str.tooLong
 rw [decide_eq_false_iff_not]
 exact Nat.not_lt.mpr h
theorem Ztx {t : Tok} {Q : Value -> St -> Prop} (h : Zs l = true) (q : Q (.bool (!l.isEmpty && l.all fun c => Wc c || Wd c || Hb c)) σ) : Zv B A ψ (.builtin "str.isalnum") [.str ⟨l.toArray⟩ t] [] Q E σ := Ub (fun us hus φ s d r E R k => by
 rw [Jt hus]; exact SC.isalnum (by rw [Ztr h]; exact k s.toks _ rfl)) q
theorem Zty {t : Tok} {Q : Value -> St -> Prop} (h : Zs l = true) (q : Q (.bool (!l.isEmpty && l.all fun c => Wc c || Wd c)) σ) : Zv B A ψ (.builtin "str.isalpha") [.str ⟨l.toArray⟩ t] [] Q E σ := Ub (fun us hus φ s d r E R k => by
 rw [Jt hus]; exact SC.isalpha (by rw [Zts h]; exact k s.toks _ rfl)) q
theorem Ztz {t : Tok} {Q : Value -> St -> Prop} (h : Zs l = true) (q : Q (.bool (l.any Wd && !l.any Wc)) σ) : Zv B A ψ (.builtin "str.islower") [.str ⟨l.toArray⟩ t] [] Q E σ := Ub (fun us hus φ s d r E R k => by
 rw [Jt hus]; exact SC.islower (by rw [Ztt h]; exact k s.toks _ rfl)) q
theorem Zua {t : Tok} {Q : Value -> St -> Prop} (h : Zs l = true) (q : Q (.bool (l.any Wc && !l.any Wd)) σ) : Zv B A ψ (.builtin "str.isupper") [.str ⟨l.toArray⟩ t] [] Q E σ := Ub (fun us hus φ s d r E R k => by
 rw [Jt hus]; exact SC.isupper (by rw [Ztu h]; exact k s.toks _ rfl)) q
theorem Zub {t : Tok} {Q : Value -> St -> Prop} (h : Zs l = true) (hz : l.length <= sizeLine) (q : Q (T (l.map upC)) σ) : Zv B A ψ (.builtin "str.upper") [.str ⟨l.toArray⟩ t] [] Q E σ := Ub (fun us hus φ s d r E R k => by
 rw [Jt hus]; exact SC.upper (Zca (by rw [Zhh h, Js, List.length_map]; exact hz)) (by rw [Zhh h]; exact k _ _ rfl)) q
theorem Zuc {t : Tok} {Q : Value -> St -> Prop} (h : Zs l = true) (hz : l.length <= sizeLine) (q : Q (T (l.map loC)) σ) : Zv B A ψ (.builtin "str.lower") [.str ⟨l.toArray⟩ t] [] Q E σ := Ub (fun us hus φ s d r E R k => by
 rw [Jt hus]; exact SC.lower (Zca (by rw [Zhi h, Js, List.length_map]; exact hz)) (by rw [Zhi h]; exact k _ _ rfl)) q
theorem Zud (l : List (Str × Tok)) : (strValues l).map er = (l.map (·.1)).map S := by
 induction l with
 | nil => rfl
 | cons p r ih =>
  obtain ⟨x, t⟩ := p
  exact congrArg (S x :: ·) ih
theorem Zue {t : Tok} {Q : Value -> St -> Prop} (h : Zs l = true) (hz : l.length <= 1000000) (q : ∀ a, σ a = none -> Q (.ref a) (upd σ a (.lst ((Xi l []).map T)))) : Zv B A ψ (.builtin "str.split") [.str ⟨l.toArray⟩ t] [] Q E σ := fun us hus => by
 rw [Jt hus]
 refine J.lift (Tf (ys := (Xi l []).map T) (fun φ s d r R k => ?_) q)
 have hx : (Str.mk l.toArray).length <= 1000000 := by rw [Js]; exact hz
 have hz' : (Str.mk l.toArray).length <= sizeLine := by rw [sizeLine_eq]; exact Nat.le_trans (by assumption) (Nat.le_add_left _ _)
 have hn : (Builtin.Str.spaceWords ⟨l.toArray⟩ ((Str.mk l.toArray).length + 1)).length <= sizeLine := by
   have e1 := (StrLaws.sw_weight ⟨l.toArray⟩).1
   have e2 := StrLaws.len_le_wsum (Builtin.Str.spaceWords ⟨l.toArray⟩ ((Str.mk l.toArray).length + 1))
   rw [sizeLine_eq]; omega
 have tw := Ztv h
 unfold Txt.words at tw
 refine call_meets PySem.F.slot_str_split (typeIs_str _ _ _) PySem.F.entry_str_split (PySem.F.args_str_split_1 _) (meets_str_split_space ⟨l.toArray⟩ t hz' hn) ?_
 cases hw : Builtin.Str.spaceWords ⟨l.toArray⟩ ((Str.mk l.toArray).length + 1) == [(0, (Str.mk l.toArray).length)]
 · rw [hw] at tw
   simp only [Bool.false_eq_true, if_false] at tw ⊢
   rw [strsFrom_eq]
   refine k _ _ ?_
   rw [List.toList_toArray, Zud, numbered_texts, tw, List.map_map]; rfl
 · rw [hw] at tw
   simp only [if_true] at tw ⊢
   refine k _ s.toks ?_
   have e2 : (Xi l []).map T = (List.map (fun w => Str.mk w.toArray) (Xi l [])).map S := by rw [List.map_map]; rfl
   rw [e2, <- tw]; rfl
theorem Zuf {vs : List Value} {ss : List (List Nat)} (e : vs.map er = ss.map T) : ∃ l : List (Str × Tok), vs = strValues l /\ l.map (·.1) = ss.map fun w => Str.mk w.toArray := by
 induction ss generalizing vs with
 | nil => cases vs with
   | nil => exact Zp ([]) rfl rfl
   | cons v r => contradiction
 | cons x r ih => cases vs with
   | nil => contradiction
   | cons v t =>
     refine Zg (List.cons.inj e) fun h1 h2 => ?_
     (refine Oz h1 ?_; rintro u rfl)
     (refine Zb (ih h2) ?_; rintro l rfl h3)
     exact Zp ((_, u) :: l) rfl (by rw [List.map_cons, h3]; rfl)
theorem Zhl {t : Tok} {ss : List (List Nat)} {Q : Value -> St -> Prop} (hl : isLst σ a (ss.map T)) (h1 : (Ut l ss).length <= 1000000) (h2 : ss.length * l.length <= 1000000) (q : Q (T (Ut l ss)) σ) : Zv B A ψ (.builtin "str.join") [.str ⟨l.toArray⟩ t] [.ref a] Q E σ := Ub (fun us hus φ s d r E R k => by
 refine Zx (r.isL hl.un) fun items n e1 e2 => ?_
 (refine Zb (Xl hus) ?_; rintro u rfl hu)
 rw [Yc hu]
 refine Zb (Zuf e2) fun lt e3 e4 => ?_
 have hI : s.heap.IsList a (strValues lt).toArray := ⟨_, e1, rfl, n, by rw [<- e3]⟩
 refine SC.join hI e4 ?_ fun t' k' => by rw [Ztw]; exact k _ _ rfl
 unfold JoinOk
 rw [Zca]; · rfl
 rw [List.foldl_toArray', Zhj]
 · have := Zhk l ss
   rw [sizeLine_eq]; omega
 · simp) q
theorem Zug {t : Tok} {Q : Value -> St -> Prop} (hl : isLst σ a []) (q : Q (T []) σ) : Zv B A ψ (.builtin "str.join") [.str ⟨l.toArray⟩ t] [.ref a] Q E σ := Zhl (ss := []) hl (Nat.zero_le _) (by simp) q
theorem Zuh {nm : Str} {id : String} {pl : Sem Bool} {Q : Value × List Value -> St -> Prop} (slot : Slot "str" nm id) (hty : typeOf (.builtin id) = pure (.type "method_descriptor")) (q : Q (.builtin id, [T l]) σ) : ∀ u, er u = T l -> J B A ψ Jo (getMethod u nm pl) Q E σ := fun u hu =>
 J.lift fun φ d u₀ s r => by
  (refine Kz hu ?_; rintro t rfl)
  exact getMethod_builtin (typeIs_str _ _ _) PySem.F.plainAttrs_str slot hty (fun b e => nomatch e) ⟨σ, d, r, q⟩
theorem Zui {c : Nat} {Q : Bool -> St -> Prop} (q : Q (l.any fun d => Nat.beq d c) σ) : Wj B A ψ .In (T [c]) (T l) Q E σ := Oo (c := l.any fun d => Nat.beq d c) (fun u v hu hv s R k => by
 (refine Kz hu ?_; rintro _ rfl); (refine Kz hv ?_; rintro _ rfl)
 refine PySem.P.in_str ?_
 rw [show (Str.mk [c].toArray) = ⟨#[c]⟩ from rfl, StrLaws.found_one]
 have : decide (c ∈ (Str.mk l.toArray).cps.toList) = l.any fun d => Nat.beq d c := by
  rw [Bool.eq_iff_iff, decide_eq_true_eq, List.any_eq_true]
  exact ⟨fun h => ⟨c, by simpa using h, Nat.beq_refl c⟩, fun zp => Zb zp fun d h1 h2 => by rw [<- Nat.eq_of_beq_eq_true h2]; simpa using h1⟩
 rw [this]; exact k s.toks) q
theorem Zuj {c : Nat} {Q : Bool -> St -> Prop} (q : Q (!l.any fun d => Nat.beq d c) σ) : Wj B A ψ .NotIn (T [c]) (T l) Q E σ := Oo (c := !l.any fun d => Nat.beq d c) (fun u v hu hv s R k => by
 (refine Kz hu ?_; rintro _ rfl); (refine Kz hv ?_; rintro _ rfl)
 refine PySem.P.notIn_str ?_
 rw [show (Str.mk [c].toArray) = ⟨#[c]⟩ from rfl, StrLaws.found_one]
 have : decide (c ∈ (Str.mk l.toArray).cps.toList) = l.any fun d => Nat.beq d c := by
  rw [Bool.eq_iff_iff, decide_eq_true_eq, List.any_eq_true]
  exact ⟨fun h => ⟨c, by simpa using h, Nat.beq_refl c⟩, fun zp => Zb zp fun d h1 h2 => by rw [<- Nat.eq_of_beq_eq_true h2]; simpa using h1⟩
 rw [this]; exact k s.toks) q
end
end Mine
end
noncomputable section
namespace Mine
open Mine.Ab (Xv)
theorem Zuk : ∀ (n f g : Nat) (cs : List Char) (acc : List Nat), n < f -> n < 10 ^ (g + 1) -> cs.map Char.toNat = acc -> (Nat.toDigitsCore 10 f n cs).map Char.toNat = Xv (g + 1) n acc := by
 intro n
 induction n using Nat.strongRecOn with
 | _ n ih =>
   intro f g cs acc hf hg hc
   have dc : (Nat.digitChar (n % 10)).toNat = 48 + n % 10 := by
     exact (show ∀ d : Fin 10, (Nat.digitChar d).toNat = 48 + d by decide) ⟨n % 10, Nat.mod_lt _ (by decide)⟩
   cases f with
   | zero => exact gf (L1 (N1 _) V0 1 (.a nA kI) kZ (Wi hf) kI kZ rfl)
   | succ f =>
     unfold Nat.toDigitsCore Xv
     by_cases h : n < 10
     · have e : n / 10 = 0 := Nat.div_eq_of_lt h
       rw [e, if_pos rfl, decide_eq_true h]
       simp only [List.map_cons, dc, hc]
       rw [Nat.mod_eq_of_lt h]
     · rw [decide_eq_false h, if_neg (fun e => h ((Nat.div_eq_zero_iff_lt (by decide)).mp e))]
       cases g with
       | zero => exact absurd hg (by simp; exact gl (L1 (N1 _) V0 1 (.k 10) nA (nl (Nat.not_lt.mp h)) (.k 10) nA rfl))
       | succ g =>
         have hl : n / 10 < n := Nat.div_lt_self (Nat.lt_of_lt_of_le (by decide) (Nat.not_lt.mp h)) (by decide)
         exact ih (n / 10) hl f g _ _ (Nat.lt_of_lt_of_le hl (Nat.le_of_lt_succ hf)) (Nat.div_lt_of_lt_mul (by rw [Nat.mul_comm]; exact hg)) (by simp [dc, hc])
theorem Zul {i : Int} (h0 : 0 <= i) (h1 : i < 1000000) : Str.ofString (toString i) = ⟨(Xv 20 i.toNat []).toArray⟩ := by
 (refine Xg (Int.eq_ofNat_of_zero_le h0) ?_; rintro n rfl)
 rw [Str.ofString_eq_toList]
 congr 2
 show ((toString (n : Int)).toList.map Char.toNat) = _
 have : (toString (n : Int)) = String.ofList (Nat.toDigits 10 n) := rfl
 rw [this, String.toList_ofList]
 unfold Nat.toDigits
 exact Zuk n (n + 1) 19 [] [] (by omega) (by have : (10 : Nat) ^ 20 = 100000000000000000000 := (by decide); omega) rfl
section
variable {α β : Type} {B : Bgd} {A : Around} {E : Value -> Shared -> Prop} {σ : St} {env : Env} {L a b C : Addr} {m : Zc} {ψ χ : St} {xs ys : List Value} {s : Shared} {l : List Nat}
theorem Zum {i : Int} {Q : Value -> St -> Prop} (O : B.Ok) (hh : A.handled = none) (h0 : 0 <= i) (h1 : i < 1000000) (q : Q (T (Xv 20 i.toNat [])) σ) : Zv B A ψ (.type "str") [] [I i] Q E σ := Ub (fun us hus φ s d r E R k => by
 (refine Zb (Xl hus) ?_; rintro u rfl hu)
 (refine Yd hu ?_; rintro t rfl)
 refine str_of_int_or hh (O.digits.keeps r.keep) (fun _ => by rw [Zul h0 h1]; exact k _ _ rfl) fun hge => absurd hge ?_
 have : i.natAbs < 10 ^ 6 := by omega
 have h2 : (10 : Nat) ^ 6 <= 10 ^ 4300 := Nat.pow_le_pow_right (by decide) (by decide)
 exact fun h => Nat.lt_irrefl _ (Nat.lt_of_lt_of_le this (Nat.le_trans h2 h))) q
theorem So {vs : List Value} {ns : List Int} (e : vs.map er = ns.map I) : IntsAre vs ns := by
 induction ns generalizing vs with
 | nil => cases vs with
   | nil => exact .nil
   | cons v r => contradiction
 | cons x r ih => cases vs with
   | nil => contradiction
   | cons v t =>
     refine Zg (List.cons.inj e) fun h1 h2 => ?_
     (refine Yd h1 ?_; rintro u rfl)
     exact .cons _ _ (ih h2)
theorem IsL.list {items : Array Value} {n : Nat} (h : IsL s.heap a items n) : s.heap.IsList a items.toList.toArray := ⟨_, h, rfl, n, by simp⟩
theorem Zun {k : Nat} {ns ms : List Int} {Q : Bool -> St -> Prop} (R : Room A k) (hx : isLst σ a (ns.map I)) (hy : isLst σ b (ms.map I)) (q : Q (decide (ns = ms)) σ) : Wj B A ψ .Eq (.ref a) (.ref b) Q E σ := fun u v hu hv => J.lift fun φ d u₀ s r => by
 rw [Yc hu, Yc hv]
 refine Zx (r.isL hx.un) fun i1 n1 h1 h2 => ?_
 refine Zx (r.isL hy.un) fun i2 n2 h3 h4 => ?_
 exact eq_intsK (IsL.list h1) (So h2) (IsL.list h3) (So h4) (by have := R.line; omega) ⟨σ, d, r, _, rfl, q⟩
theorem Zuo {k : Nat} {ns ms : List Int} {Q : Bool -> St -> Prop} (R : Room A k) (hx : isLst σ a (ns.map I)) (hy : isLst σ b (ms.map I)) (q : Q (!decide (ns = ms)) σ) : Wj B A ψ .NotEq (.ref a) (.ref b) Q E σ := fun u v hu hv => J.lift fun φ d u₀ s r => by
 rw [Yc hu, Yc hv]
 refine Zx (r.isL hx.un) fun i1 n1 h1 h2 => ?_
 refine Zx (r.isL hy.un) fun i2 n2 h3 h4 => ?_
 exact ne_intsK (IsL.list h1) (So h2) (IsL.list h3) (So h4) (by have := R.line; omega) ⟨σ, d, r, _, rfl, q⟩
theorem Zup {v : Value} {Q : Value -> St -> Prop} (hl : σ a = some (.lst xs)) (hz : xs.length <= sizeLine) (q : Q .none (upd σ a (.lst (v :: xs)))) : Zv B A ψ (.builtin "list.insert") [.ref a] [I 0, v] Q E σ := fun us hus => J.lift <| Gg (ys := v :: xs) hl fun φ s d r items n h1 h2 R k => by
 (refine Xp (Jr hus) ?_; rintro u u' rfl hu hu')
 (refine Yd hu ?_; rintro t rfl)
 refine call_meets PySem.F.slot_list_insert ⟨_, h1, rfl⟩ PySem.F.entry_list_insert (PySem.F.args_list_insert_3 _ _ _) (AutoListH.list_insert_list_int_val_1 a items n 0 t u' (by decide) (Xk h2 ▸ hz)) ⟨h1, k _ _ _ s.toks .none ?_ (Ua h1).1 (Ua h1).2 q⟩
 simp [<- h2, hu']
theorem Zuq {i : Int} {Q : Value -> St -> Prop} (hl : σ a = some (.lst [I i])) (q : Q .none (upd σ a (.lst []))) : Zv B A ψ (.builtin "list.remove") [.ref a] [I i] Q E σ := fun us hus => J.lift <| Gg (ys := []) hl fun φ s d r items n h1 h2 R k => by
 (refine Zb (Xl hus) ?_; rintro u rfl hu)
 (refine Yd hu ?_; rintro t rfl)
 have hs : items.size = 1 := by have := Xk h2; simpa using this
 obtain ⟨w, hw⟩ : ∃ w, items = #[w] := by
  obtain ⟨l⟩ := items
  obtain ⟨w, rfl⟩ := List.length_eq_one_iff.mp hs
  exact ⟨w, rfl⟩
 subst hw
 obtain ⟨t', rfl⟩ : ∃ t', w = .int i t' := Ku (by simpa using h2)
 refine call_meets PySem.F.slot_list_remove ⟨_, h1, rfl⟩ PySem.F.entry_list_remove (PySem.F.args_list_remove_2 _ _) (MeetsSeq.list_remove a #[.int i t'] n (.int i t) (fun _ => true) (fun y hy => ?_) 0 (by simp) rfl (fun m hm h => absurd h (Nat.not_lt_zero _)) (by rw [sizeLine_eq]; simp)) ⟨h1, k _ _ _ s.toks .none (by simp [Array.eraseIdxIfInBounds]) (Ua h1).1 (Ua h1).2 q⟩
 have : y = .int i t' := by simpa using hy
 subst this
 have := MeetsSeq.EqGives.int i i t' t
 simpa using this
theorem Tn (w : World) (k : Int) (t : Tok) : (intKind pw w).is k (.int k t) = true := by show Value.isInt k (.int k t) = true; simp [Value.isInt]
theorem Zur {n : Nat} {f : Int -> Option Value} {k : Int} {Q : Value -> St -> Prop} (O : B.Ok) (hl : σ a = some (.idct n f)) (q : Q ((f k).getD .none) σ) : Zv B A ψ (.builtin "dict.get") [.ref a] [I k] Q E σ := Ub (fun us hus φ s d r E R kk => by
 (refine Zb (Xl hus) ?_; rintro u rfl hu)
 (refine Yd hu ?_; rintro t rfl)
 refine Zb (r.isM (Zn hl)) fun f' h1 h2 => ?_
 refine call_meetsIn PySem.F.slot_dict_get h1.typeIs PySem.F.entry_dict_get (PySem.F.args_dict_get_2 _ _) (meets_dict_get (intKind pw B.w) a (Tn _ k t) (Ry O r (Zn hl) rfl)) ⟨f', h1, kk _ _ ?_⟩
 rw [<- h2]
 cases f' k <;> rfl) q
theorem Zus {n : Nat} {f : Int -> Option Value} {k : Int} {v : Value} {Q : Value -> St -> Prop} (O : B.Ok) (hl : σ a = some (.idct n f)) (q : Q ((f k).getD v) σ) : Zv B A ψ (.builtin "dict.get") [.ref a] [I k, v] Q E σ := Ub (fun us hus φ s d r E R kk => by
 (refine Xp (Jr hus) ?_; rintro u u' rfl hu hu')
 (refine Yd hu ?_; rintro t rfl)
 refine Zb (r.isM (Zn hl)) fun f' h1 h2 => ?_
 refine call_meetsIn PySem.F.slot_dict_get h1.typeIs PySem.F.entry_dict_get (PySem.F.args_dict_get_3 _ _ _) (meets_dict_get_default (intKind pw B.w) a (Tn _ k t) (Ry O r (Zn hl) rfl) u') ⟨f', h1, kk _ _ ?_⟩
 rw [<- h2]
 cases f' k <;> first | rfl | exact hu') q
theorem Zut {f : Int -> Option Value} {k : Int} {v w : Value} {Q : Value -> St -> Prop} (O : B.Ok) (hl : σ a = some (.pdct f)) (hw : f k = some w) (q : Q w σ) : Zv B A ψ (.builtin "dict.get") [.ref a] [I k, v] Q E σ := Ub (fun us hus φ s d r E R kk => by
 (refine Xp (Jr hus) ?_; rintro u u' rfl hu hu')
 (refine Yd hu ?_; rintro t rfl)
 refine Zb (r.isPD (Zn hl)) fun f' h1 h2 => ?_
 refine Zb (Tb (h2 k w hw)) fun w' e1 e2 => ?_
 refine call_meetsIn PySem.F.slot_dict_get h1.typeIs PySem.F.entry_dict_get (PySem.F.args_dict_get_3 _ _ _) (meets_dict_get_default (intKind pw B.w) a (Tn _ k t) (Ry O r (Zn hl) rfl) u') ⟨f', h1, kk _ _ ?_⟩
 rw [e1]; exact e2) q
noncomputable def isDc : AO -> Bool
 | .idct .. => true
 | .pdct _ => true
 | _ => false
theorem Rep.isDc {o : AO} (h : Rep B σ s) (e : σ a = some o) (hd : Mine.isDc o = true) : ∃ f', s.heap.MapOf (intKind pw B.w) a f' := by
 cases o with
 | idct n f => refine Zb (h.isM e) fun f' h1 _ => ?_; exact ⟨f', h1⟩
 | pdct f => refine Zb (h.isPD e) fun f' h1 _ => ?_; exact ⟨f', h1⟩
 | _ => exact Yb hd
theorem Zhm {o : AO} {nm : Str} {id : String} {pl : Sem Bool} {Q : Value × List Value -> St -> Prop} (slot : Slot "dict" nm id) (hty : typeOf (.builtin id) = pure (.type "method_descriptor")) (hl : σ a = some o) (hd : Mine.isDc o = true) (q : Q (.builtin id, [.ref a]) σ) : J B A ψ Jo (getMethod (.ref a) nm pl) Q E σ :=
 J.lift fun φ d u s r => by
  refine Xg (r.isDc (Zn hl) hd) fun f' h1 => ?_
  exact getMethod_builtin h1.typeIs PySem.F.plainAttrs_dict slot hty h1.noDict ⟨σ, d, r, q⟩
theorem Zuu {n : Nat} {f : Int -> Option Value} {k : Int} {v : Value} {Q : Value -> St -> Prop} (hl : σ a = some (.idct n f)) (hv : f k = some v) (q : Q v σ) : Oq B σ (.ref a) /\ ∀ u j, er u = .ref a -> er j = I k -> J B A ψ er (getItem u j) Q E σ := by
 refine ⟨fun u hu φ s d r => ?_, fun u j hu hj => J.lift fun φ d u₀ s r => ?_⟩
 · refine Zb (r.isM (Zn hl)) fun f' h1 h2 => ?_
   rw [Yc hu]
   exact Om ("dict") _ h1.typeIs slot_dict_getitem.lookup
 · refine Zb (r.isM (Zn hl)) fun f' h1 h2 => ?_
   (refine Zb (Tb ((h2 k).trans hv)) ?_; rintro w e1 rfl)
   rw [Yc hu]; (refine Yd hj ?_; rintro _ rfl)
   exact wpAny_getItem_of (Tn _ k _) h1 e1 ⟨σ, d, r.toks _, q⟩
theorem Zuv {d : Addr} {o : Obj} {es : Array DictEntry} {ep : Nat} {f : Int -> Option Value} {k : Int} {t : Tok} {v : Value} {Q : Unit -> Shared -> Prop} {n : Nat} (ho : s.heap.get? d = some o) (hc : o.ExactDict) (hd : o.data = .dict es ep) (hs : es.size <= n) (hn : n <= sizeLine)
  (hk : PySem.KeysOf (intKind pw B.w) es) (hf : ∀ k, findBy (intKind pw B.w).is es k = f k)
  (hQ : ∀ h' (o' : Obj) es' ep', h'.get? d = some o' -> o'.ExactDict -> o'.data = .dict es' ep' -> es'.size <= n + 1 -> PySem.KeysOf (intKind pw B.w) es' -> (∀ x, findBy (intKind pw B.w).is es' x = if x = k then some v else f x) -> Heap.SameBut d s.heap h' -> Q () { s with heap := h', toks := s.toks + 1 }) :
  wpAny (model pw B.w) A (dictSet d (.int k t) v) Q E s := by
 have key := Tn B.w k t
 unfold dictSet
 try with_reducible refine wpAny_holding ?_
 refine wpAny_bind ((intKind pw B.w).pyHash key ?_)
 unfold dictSetHashed
 try with_reducible refine wpAny_holding ?_
 refine wpAny_bind (wpAny_dictFind_of (s := { s with toks := s.toks + 1 }) key ho hd hk ?_)
 cases hi : es.findIdx? fun e => (intKind pw B.w).is k e.key with
 | some i =>
  refine wpAny_bind (wpAny_rule (wpAny_bind (wpAny_updateDict (s := { s with toks := s.toks + 1 }) ho hd (wpAny_point (hQ _ _ _ ep (Heap.get?_update_self _ ho (Obj.isFreed_of_dict (Obj.data_mapDict hd _)))
   (hc.mapDict _) (Obj.data_mapDict hd _) (by simp only [Array.size_modify]; exact Nat.le_succ_of_le (by assumption)) (hk.modify _ _) (fun x => ?_) (Heap.SameBut.update ..))))))
  rw [findBy_modify (intKind pw B.w).is (intKind pw B.w).inj es k x v i hi, hf]
 | none =>
  refine wpAny_bind (wpAny_rule (wpAny_updateDictKeys (hz := Nat.le_trans hs hn) (s := { s with toks := s.toks + 1 }) ho hd (hQ _ _ _ (ep + 1) (Heap.get?_update_self _ ho (Obj.isFreed_of_dict (Obj.data_mapDictKeys hd _)))
   (hc.mapDictKeys _) (Obj.data_mapDictKeys hd _) (by simp only [Array.size_push]; exact Nat.lt_succ_of_le (by assumption)) (hk.push key _) (fun x => ?_) (Heap.SameBut.update ..))))
  rw [findBy_push (intKind pw B.w).is es k x _ _ v (KeyKind.is_eq_decide key) hi, hf]
theorem Zuw {n : Nat} {f : Int -> Option Value} {k : Int} {v : Value} {Q : Unit -> St -> Prop} (hl : σ a = some (.idct n f)) (hz : n <= 1000000) (q : Q () (upd σ a (.idct (n + 1) fun j => if j = k then some v else f j))) : ∀ v' o' i', er v' = v -> er o' = .ref a -> er i' = I k -> J B A ψ (_root_.id : Unit -> Unit) (setItem o' i' v') Q E σ := fun v' o' i' hv ho hi => J.lift fun φ d u₀ s r => by
 rw [Yc ho]; (refine Yd hi ?_; rintro t rfl)
 refine Zbj (r.isD (Zn hl)) fun o es ep f' h1 h2 h3 h4 h5 h6 h7 => ?_
 have hT : s.TypeIs (.ref a) "dict" := ⟨o, h1, h2.1⟩
 unfold setItem
 try with_reducible refine wpAny_holding ?_
 refine wpAny_bind (wpAny_sequenceKey hT (by decide) ?_)
 refine wpAny_bind (wpAny_callSpecial?_slot (name := Str.ofString "__setitem__") hT slot_dict_setitem
   (wpAny_call_entry slot_dict_setitem hT entry_dict_setitem ?_ (args_dict_setitem _ _ _)))
 show wpAny _ _ (Builtin.Dict.notOrdered "__setitem__" ⟨[.ref a, .int k t, v'], []⟩ >>= _) _ _ s
 refine wpAny_bind (wpAny_notOrdered_dict hT ?_)
 show wpAny _ _ (dictSet a (.int k t) v' >>= _) _ _ s
 refine wpAny_bind (Zuv h1 h2 h3 h4 (by rw [sizeLine_eq]; exact Nat.le_trans (by assumption) (Nat.le_add_left _ _)) h5 h6 fun h' o' es' ep' e1 e2 e3 e4 e5 e6 e7 => wpAny_pure ⟨.none, rfl, wpAny_pure ⟨_, d.upd_some hl _, ?_, q⟩⟩)
 rw [<- Xz]
 refine r.set (Zn hl) rfl rfl rfl e7 fun δ _ => ⟨o', es', ep', _, e1, e2, e3, e4, e5, e6, fun x => ?_⟩
 by_cases z : x = k
 · simp only [z, if_true]; exact congrArg some hv
 · simp only [z, if_false]; exact h7 x
theorem Zhn {lo up : Option Expr} {p : Pos} {Q : Value -> St -> Prop}
  (h : J B A ψ er (evalPart lo env) (fun l σ₁ => J B A ψ er (evalPart up env) (fun u σ₂ => ∃ x y, l = bV x /\ u = bV y /\ ∀ a vl vu, σ₂ a = none -> IsPart vl (bI x) -> IsPart vu (bI y) -> Q (.ref a) (upd σ₂ a (.raw (Qq vl vu)))) E σ₁) E σ) : JE B A env ψ (.Slice lo up none p) Q E σ := by
 show J B A ψ er (do
  let l <- evalPart lo env
  let u <- PySem.holding [l] (evalPart up env)
  let s <- PySem.holding [l, u] (evalPart none env)
  newFields "slice" [l, u, s]) Q E σ
 refine J.bind (J.mono h fun l₀ σ₁ h₁ l hl => J.bind (J.holding (J.mono h₁ fun u₀ σ₂ ⟨x, y, e1, e2, q⟩ u hu => J.bind (e := er) (J.holding (J.pure fun st hst => ?_)))))
 have := Vz hst
 subst this
 refine J.lift fun φ d _ s r => ?_
 have hn := r.size_none
 refine wpAny_newObj_type ⟨_, d.upd_new hn _, ?_, q _ l u (Ye hn) (Zge (hl.trans e1)) (Zge (hu.trans e2))⟩
 rw [<- Xz]
 exact r.push rfl fun δ => Heap.get?_push_size _ rfl
theorem Zux {Q : Value -> St -> Prop} (q : Q .none σ) : J B A ψ er (evalPart none env) Q E σ := J.pure (a := Value.none) q
theorem Zuy {x : Expr} {Q : Value -> St -> Prop} (h : JE B A env ψ x Q E σ) : J B A ψ er (evalPart (some x) env) Q E σ := h
theorem Zuz {c : Addr} {vl vu : Value} {i j : Option Nat} {Q : Value -> St -> Prop} (hl : isLst σ a xs) (hz : xs.length <= sizeLine) (hc : σ c = none) (pl : IsPart vl (bI i)) (pu : IsPart vu (bI j))
   (q : ∀ b, σ b = none -> Q (.ref b) (upd σ b (.lst (cut xs i j)))) : Oq B (upd σ c (.raw (Qq vl vu))) (.ref a) /\ ∀ u jv, er u = .ref a -> er jv = .ref c -> J B A ψ er (getItem u jv) (fun b τ => ∃ σ', Sub σ' τ /\ Q b σ') E (upd σ c (.raw (Qq vl vu))) := by
 have hl' : isLst (upd σ c (.raw (Qq vl vu))) a xs := hl.sub (Sub.upd_new hc)
 refine ⟨Zfw hl', fun u jv hu hj => J.lift ?_⟩
 rw [Yc hu, Yc hj]
 refine Tf (ys := cut xs i j) (fun φ s d r R k => ?_) fun b hb => ?_
 · refine Zx (r.isL hl'.un) fun items n h1 h2 => ?_
   have hs : s.heap.IsSliceOf c vl vu .none := by
     have := (r.objs.choose_spec.at_ c _ (Zn (Yz ..))).2
     exact Yi _ this rfl rfl
   exact wpAny_getItem_list_slice ⟨_, h1, rfl, n, rfl⟩ hs pl pu .none (by simp) (k _ s.toks (by rw [Zrt, Zgd, h2])) (Xk h2 ▸ hz)
 · have hs := Sub.upd_new (o := .raw (Qq vl vu)) hc
   exact Zp _ hs.upd (q b (hs.none hb))
theorem Zva {c : Addr} {vl vu : Value} {i j : Option Nat} {Q : Value -> St -> Prop} (hz : l.length <= sizeLine) (hc : σ c = none) (pl : IsPart vl (bI i)) (pu : IsPart vu (bI j))
   (q : Q (T (cut l i j)) σ) : Oq B (upd σ c (.raw (Qq vl vu))) (T l) /\ ∀ u jv, er u = T l -> er jv = .ref c -> J B A ψ er (getItem u jv) (fun b τ => ∃ σ', Sub σ' τ /\ Q b σ') E (upd σ c (.raw (Qq vl vu))) := by
 refine ⟨Zfx, fun u jv hu hj => J.lift fun φ d _ s r => ?_⟩
 (refine Oz hu ?_; rintro t rfl)
 rw [Yc hj]
 have hs := (r.objs.choose_spec.at_ c _ (Zn (Yz ..))).2
 obtain ⟨pl', e1, e1'⟩ : ∃ o, vl = partValue o /\ o.map (·.1) = bI i := by
   generalize bI i = z at pl
   cases pl with
   | none => exact Zp none rfl rfl
   | int k t => exact Zp (some (k, t)) rfl rfl
 obtain ⟨pu', e2, e2'⟩ : ∃ o, vu = partValue o /\ o.map (·.1) = bI j := by
   generalize bI j = z at pu
   cases pu with
   | none => exact Zp none rfl rfl
   | int k t => exact Zp (some (k, t)) rfl rfl
 subst e1 e2
 refine wpAny_getItem_str_slice (l := pl') (u := pu') (st := none) ⟨_, hs, rfl, rfl⟩ rfl ?_
 have hsub := Sub.upd_new (o := .raw (Qq (partValue pl') (partValue pu'))) hc
 have fin : ∀ t' k, PA B φ (fun b τ => ∃ σ', Sub σ' τ /\ Q b σ') (er (.str ⟨(cut l i j).toArray⟩ t')) { s with toks := k } := fun t' k => ⟨_, d, r.toks k, σ, hsub, q⟩
 have hp : slicePicked ⟨l.toArray⟩ pl' pu' none = Builtin.Str.strSliceIndices (bI i) (bI j) 1 l.length := by
   unfold slicePicked
   rw [e1', e2']; rfl
 unfold sliceMade
 rw [hp]
 have hlen : (Str.mk l.toArray).length = l.length := by simp [Str.length]
 rw [hlen, Zrv]
 split
 · rename_i hc'
   have : cut l i j = l := Zrw l i j (by simpa using hc')
   have := fin t s.toks
   rw [‹cut l i j = l›] at this
   exact this
 · refine ⟨?_, ?_⟩
   · show (Str.mk _).length <= sizeLine
     rw [show (Str.mk ((List.filterMap (fun x => (Str.mk l.toArray).cps[x]?) (Builtin.Str.strSliceIndices (bI i) (bI j) 1 l.length)).toArray)) = Str.mk (cut l i j).toArray from congrArg (fun z => Str.mk (List.toArray z)) (Zgg l i j)]
     simp only [Str.length, List.size_toArray]
     exact Nat.le_trans (Zru ..) hz
   · have := fin s.toks (s.toks + 1)
     rw [show (Str.mk ((List.filterMap (fun x => (Str.mk l.toArray).cps[x]?) (Builtin.Str.strSliceIndices (bI i) (bI j) 1 l.length)).toArray)) = Str.mk (cut l i j).toArray from congrArg (fun z => Str.mk (List.toArray z)) (Zgg l i j)]
     exact this
theorem Zvb {c e : Addr} {vl vu : Value} {i j : Nat} {Q : Unit -> St -> Prop} (he : isLst σ e ys) (hl : σ a = some (.lst xs)) (hc : σ c = none) (pl : IsPart vl (some (i : Int))) (pu : IsPart vu (some (j : Int))) (h1 : i <= j) (h2 : j <= xs.length) (h3 : xs.length + ys.length <= sizeLine)
  (q : ∀ τ, Sub (upd σ a (.lst (xs.take i ++ ys ++ xs.drop j))) τ -> Q () τ) : ∀ v' o' i', er v' = .ref e -> er o' = .ref a -> er i' = .ref c -> J B A ψ (_root_.id : Unit -> Unit) (setItem o' i' v') Q E (upd σ c (.raw (Qq vl vu))) := fun v' o' i' hv' ho' hi' => by
 rw [Yc hv', Yc ho', Yc hi']
 have hsub := Sub.upd_new (o := .raw (Qq vl vu)) hc
 refine J.lift (Gg (ys := xs.take i ++ ys ++ xs.drop j) (hsub _ _ hl) fun φ s d r items n l1 l2 R k => ?_)
 have hsl : s.heap.IsSliceOf c vl vu .none := ⟨_, (r.objs.choose_spec.at_ c _ (Zn (Yz ..))).2, rfl, rfl⟩
 refine Zx (r.isL (he.sub hsub).un) fun new n' e1 e2 => ?_
 have z1 := Xk l2
 have z2 := Xk e2
 refine Zsa l1 hsl pl pu e1 h1 (z1 ▸ h2) (by rw [z1, z2]; exact h3) (k _ _ _ s.toks () ?_ (Ua l1).1 (Ua l1).2 (q _ hsub.upd))
 rw [Zsb, l2, e2]
end
end Mine
end
noncomputable section
namespace Mine
noncomputable def one (a : Addr) (o : AO) : St := fun b => if b = a then some o else none
section
variable {α β γ δ : Type} {B : Bgd} {A : Around} {E : Value -> Shared -> Prop} {σ τ φ ψ χ : St} {env : Env} {L a b C I : Addr} {m : Zc} {xs ys : List Value} {s : Shared} {o o' : Obj}
theorem Kk {o : AO} : one a o a = some o := if_pos rfl
theorem Uv {o : AO} (h : b ≠ a) : one a o b = none := if_neg h
theorem Zcb (h1 : σ I = none) (h2 : φ I = none) {o : AO} : Un σ (Un φ (one I o)) I = some o := by unfold Un; rw [h1, h2, Kk]; rfl
theorem Zvc (h1 : σ I = none) (h2 : φ I = none) {o o' : AO} : upd (Un σ (Un φ (one I o))) I o' = Un σ (Un φ (one I o')) := by
 funext b
 by_cases z : b = I
 · subst z; rw [Yz, Zcb h1 h2]
 · rw [Zz z]; unfold Un; rw [Uv z, Uv z]
theorem Zcc (h1 : σ I = none) (h2 : φ I = none) {o : AO} : upd (Un σ φ) I o = Un σ (Un φ (one I o)) := by
 funext b
 by_cases z : b = I
 · subst z; rw [Yz, Zcb h1 h2]
 · rw [Zz z]; unfold Un; rw [Uv z]
   cases σ b <;> cases φ b <;> rfl
theorem Zvd {o o' : AO} (d : Dis σ (Un φ (one I o))) : Dis σ (Un φ (one I o')) := fun b => by
 rcases d b with h | h
 · exact .inl h
 · refine .inr ?_
   unfold Un at h ⊢
   by_cases z : b = I
   · subst z; rw [Kk] at h; cases y : φ b <;> rw [y] at h <;> exact Wh h
   · rw [Uv z] at h ⊢; exact h
theorem Zcd {o : AO} (d : Dis σ φ) (h : σ I = none) : Dis σ (Un φ (one I o)) := fun b => by
 by_cases z : b = I
 · subst z; exact .inl h
 · rcases d b with e | e
   · exact .inl e
   · refine .inr ?_; unfold Un; rw [e, Uv z]; rfl
theorem Zve {o : AO} (d : Dis σ (Un φ (one I o))) (h : φ I = none) : σ I = none := by
 rcases d I with e | e
 · exact e
 · unfold Un at e; rw [h, Kk] at e; exact Wh e
theorem Zho {o : AO} (h : σ I = none \/ True) : Sub (Un σ φ) (Un σ (Un φ (one I o))) := fun b x e => by
 unfold Un at e ⊢
 cases z : σ b with
 | some y => rw [z] at e; exact e
 | none =>
  rw [z] at e
  have e' : φ b = some x := e
  rw [e']; rfl
theorem Zhp {o : AO} (d : Dis σ (Un φ (one I o))) : Dis σ φ := fun b => by
 rcases d b with h | h
 · exact .inl h
 · exact .inr (Ye h)
theorem Rep.drop {h' : Heap} {t : Nat} {c : Addr} {x y : AO} (r : Rep B τ s) (q : Sub σ τ) (hI : τ I = some x) (hs : Kv x = false) (hn : σ I = none) (hc : σ c = some y) (hy : Kv y = false) (k : Heap.ExtBut I s.heap h') : Rep B σ { s with heap := h', toks := t } := by
 have r' := r.sub q
 obtain ⟨h1, h2, h3, h4, δ, k1, k2, k3⟩ := r
 have hI0 := (k1 I x hI).1 hs
 refine ⟨fun b o e => k b o (fun z => ?_) (h1 b o e), ?_, h3, h4, δ, fun b o e => ?_, fun b C fs e => ⟨(k2 b C fs (q _ _ e)).1, ?_⟩, fun b C fs b' C' fs' e e' => k3 b C fs b' C' fs' (q _ _ e) (q _ _ e')⟩
 · subst z; rw [Kf hI0] at e; exact Zk e
 · refine Zg (k1 c y (q _ _ hc)) fun q1 q2 => ?_
   refine Xg q2.there fun ob hob => ?_
   have hcI : c ≠ I := fun z => by rw [z, hn] at hc; exact Zk hc
   exact Nat.le_trans (q1 hy) (Nat.le_of_lt (Heap.lt_size (k c ob hcI hob)))
 · refine Zg (k1 b o (q _ _ e)) fun q1 q2 => ?_
   have hb : b ≠ I := fun z => by rw [z, hn] at e; exact Zk e
   refine ⟨q1, q2.same ((k _ _ hb q2.there.choose_spec).trans q2.there.choose_spec.symm) fun y => ⟨rfl, ?_⟩⟩
   cases o with
   | inst C fs =>
     have hd : δ b ≠ I := fun z => by have := (k2 b C fs (q _ _ e)).2; rw [z, hI] at this; exact Wh this
     exact (k _ _ hd q2.dthere.choose_spec).trans q2.dthere.choose_spec.symm
   | _ => exact Yb y
 · have := (k2 b C fs (q _ _ e)).2
   cases z : σ (δ b) with
   | none => rfl
   | some o => rw [q _ _ z] at this; exact Wh this
structure Itr (B : Bgd) (A : Around) (I : Addr) (n : Nat) (X : Nat -> Value) (src : St -> Prop) (Ob : Nat -> Obj -> Prop) : Prop where
 cls : ∀ i o, Ob i o -> ∃ T, o.cls = .type T /\ (["enumerate", "zip", "dict_itemiterator", "dict_reverseitemiterator", "odict_iterator", "itertools.zip_longest", "itertools.pairwise"] : List String).contains T = false
 item : ∀ i o τ (s : Shared) (Q : Option Value -> Shared -> Prop) (E : Value -> Shared -> Prop), i < n -> Ob i o -> src τ -> Rep B τ s -> s.heap.get? I = some o ->
  (∀ v o' h' tk, er v = X i -> Ob (i + 1) o' -> h'.get? I = some o' -> Heap.SameBut I s.heap h' -> Q (some v) { s with heap := h', toks := tk }) -> wpAny (model pw B.w) A (pyNext (.ref I)) Q E s
 done : ∀ o τ (s : Shared) (Q : Option Value -> Shared -> Prop) (E : Value -> Shared -> Prop), Ob n o -> src τ -> HOK A τ -> Rep B τ s -> s.heap.get? I = some o ->
  (∀ h' tk, Heap.ExtBut I s.heap h' -> Q none { s with heap := h', toks := tk }) -> wpAny (model pw B.w) A (pyNext (.ref I)) Q E s
 self : ∀ i o (s : Shared) (Q : Value -> Shared -> Prop) (E : Value -> Shared -> Prop), Ob i o -> s.heap.get? I = some o -> Q (.ref I) s -> wpAny (model pw B.w) A (pyIter (.ref I)) Q E s
structure IterV (B : Bgd) (A : Around) (v : Value) (σ : St) (n : Nat) (X : Nat -> Value) (src : St -> Prop) : Prop where
 mono : ∀ σ τ, src σ -> Sub σ τ -> src τ
 iter : ∀ u, er u = v -> ∀ τ s, Sub σ τ -> Rep B τ s -> ∀ (R : Value -> Shared -> Prop) E,
  (∀ o Ob, Ob 0 o -> o.isFreed = false -> Itr B A s.heap.objs.size n X src Ob -> R (.ref s.heap.objs.size) { s with heap := s.heap.push o }) -> wpAny (model pw B.w) A (pyIter u) R E s
theorem HOK.sub (h : HOK A φ) (q : Sub φ τ) : HOK A τ := h.elim .inl fun zp => Ox zp fun e o vs h1 h2 h3 => .inr ⟨e, o, vs, h1, q _ _ h2, h3⟩
theorem Zvf {I : Addr} (hh : A.handled = none) : Itr B A I xs.length (fun i => xs.getD i .none) (fun τ => isLst τ a xs) (fun i o => o.cls = .type "list_iterator" /\ o.data = .fields #[.ref a, .int i 0]) where
 cls := fun i o h => ⟨_, h.1, by decide⟩
 item := fun i o τ s Q E hi ho hsrc r hg k => by
  refine Zx (r.isL hsrc) fun items n h1 h2 => ?_
  refine Zb (Gf h2 (k := i) (v := xs.getD i .none) (by simp [List.getD, hi])) fun w hw e => ?_
  refine wpAny_pyNext_list_item (l := a) ⟨o, hg, ho.1, ho.2⟩ ⟨_, h1, rfl, n, rfl⟩ hw fun h' ⟨o', g', c', d'⟩ hs => k w o' h' s.toks e ⟨c', d'⟩ g' hs
 done := fun o τ s Q E ho hsrc hk r hg k => by
  refine Zx (r.isL hsrc) fun items n h1 h2 => ?_
  exact wpAny_pyNext_list_end hh (l := a) ⟨o, hg, ho.1, ho.2⟩ ⟨_, h1, rfl, n, rfl⟩ (Array.getElem?_eq_none (by rw [Xk h2]; exact Nat.le_refl _)) fun h' hx => k h' s.toks hx
 self := fun i o s Q E ho hg k => wpAny_pyIter_listiter (l := a) ⟨o, hg, ho.1, ho.2⟩ k
theorem Zvg (hh : A.handled = none) (hl : isLst σ a xs) : IterV B A (.ref a) σ xs.length (fun i => xs.getD i .none) (fun τ => isLst τ a xs) where
 mono := fun σ τ h q => h.sub q
 iter := fun u hu τ s q r R E k => by
  refine Zx (r.isL (hl.sub q)) fun items n h1 h2 => ?_
  rw [Yc hu]
  exact wpAny_pyIter_list ⟨_, h1, rfl, n, rfl⟩ (k _ _ ⟨rfl, rfl⟩ rfl (Zvf hh))
theorem Zvh {I : Addr} (hh : A.handled = none) : Itr B A I xs.length (fun i => xs.getD i .none) (fun τ => τ a = some (.tup xs)) (fun i o => o.cls = .type "tuple_iterator" /\ o.data = .fields #[.ref a, .int i 0]) where
 cls := fun i o h => ⟨_, h.1, by decide⟩
 item := fun i o τ s Q E hi ho hsrc r hg k => by
  refine Zx (r.isT hsrc) fun items n h1 h2 => ?_
  refine Zb (Gf h2 (k := i) (v := xs.getD i .none) (by simp [List.getD, hi])) fun w hw e => ?_
  refine wpAny_pyNext_tuple_item (t := a) ⟨o, hg, ho.1, ho.2⟩ ⟨_, h1, rfl, n, rfl⟩ hw fun h' ⟨o', g', c', d'⟩ hs => k w o' h' s.toks e ⟨c', d'⟩ g' hs
 done := fun o τ s Q E ho hsrc hk r hg k => by
  refine Zx (r.isT hsrc) fun items n h1 h2 => ?_
  exact wpAny_pyNext_tuple_end hh (t := a) ⟨o, hg, ho.1, ho.2⟩ ⟨_, h1, rfl, n, rfl⟩ (Array.getElem?_eq_none (by rw [Xk h2]; exact Nat.le_refl _)) fun h' hx => k h' s.toks hx
 self := fun i o s Q E ho hg k => wpAny_pyIter_tupleiter (t := a) ⟨o, hg, ho.1, ho.2⟩ k
theorem Zvi (hh : A.handled = none) (hl : σ a = some (.tup xs)) : IterV B A (.ref a) σ xs.length (fun i => xs.getD i .none) (fun τ => τ a = some (.tup xs)) where
 mono := fun σ τ h q => q _ _ h
 iter := fun u hu τ s q r R E k => by
  refine Zx (r.isT (q _ _ hl)) fun items n h1 h2 => ?_
  rw [Yc hu]
  exact wpAny_pyIter_tuple ⟨_, h1, rfl, n, rfl⟩ (k _ _ ⟨rfl, rfl⟩ rfl (Zvh hh))
noncomputable abbrev Zhq (x left : Int) : Obj := { cls := .type "range_iterator", dict := none, data := .fields #[rawInt x, rawInt left, rawInt 1], slots := #[] }
theorem Zvj {I : Addr} {x : Int} {n : Nat} (hh : A.handled = none) : Itr B A I n (fun i => Mine.I (x + i)) (fun τ => True) (fun i o => i <= n /\ o = Zhq (x + i) ((n : Int) - i)) where
 cls := fun i o h => ⟨"range_iterator", by rw [h.2], by decide⟩
 item := fun i o τ s Q E hi ho hsrc r hg k => by
  (refine Zg ho ?_; clear ho; rintro _ rfl)
  refine wpAny_pyNext_range_item hg (by exact il (L1 (N2 _ _) V0 1 (.a nB kI) nA (Wi hi) (.a kZ kI) (.s nA nB) rfl)) fun h' hit hs => k _ (Zhq (x + (i + 1 : Nat)) ((n : Int) - (i + 1 : Nat))) h' _ rfl ⟨by assumption, rfl⟩ ?_ hs
  have e1 : x + ((i + 1 : Nat) : Int) = x + i + 1 := by exact M0 (N1 _) (V1 _) (.a vA (.a nA kI)) (.a (.a vA nA) kI) rfl
  have e2 : (n : Int) - ((i + 1 : Nat) : Int) = (n : Int) - i - 1 := by exact M0 (N2 _ _) V0 (.s nA (.a nB kI)) (.s (.s nA nB) kI) rfl
  rw [e1, e2]; exact hit
 done := fun o τ s Q E ho hsrc hk r hg k => by
  (refine Zg ho ?_; clear ho; rintro _ rfl)
  exact wpAny_pyNext_range_end hh hg (by exact L0 (N1 _) V0 (.s nA nA) kZ rfl) fun h' hx => k h' s.toks hx
 self := fun i o s Q E ho hg k => by
  (refine Zg ho ?_; clear ho; rintro _ rfl)
  exact wpAny_pyIter_rangeiter hg k
noncomputable abbrev Gr (x y : Int) (t u v : Tok) : Obj := { cls := .type "range", dict := none, data := .fields #[.int x t, .int y u, .int 1 v], slots := #[] }
theorem Zvk {x y : Int} {t u v : Tok} (hh : A.handled = none) (hl : σ a = some (.raw (Gr x y t u v))) (h1 : -(2 ^ 62) <= x) (h2 : x < 2 ^ 62) (h3 : -(2 ^ 62) <= y) (h4 : y < 2 ^ 62) : IterV B A (.ref a) σ (y - x).toNat (fun i => Mine.I (x + i)) (fun τ => True) where
 mono := fun σ τ h q => trivial
 iter := fun u hu τ s q r R E k => by
  have ho := (r.objs.choose_spec.at_ a _ (q _ _ hl)).2
  rw [Yc hu]
  refine wpAny_pyIter_range ho (small_one h1 h2 h3 h4) ?_
  have e : Builtin.Range.rangeSize x y 1 = ((y - x).toNat : Int) := by
   rw [rangeSize_one]; split <;> omega
  rw [e]
  exact k _ _ ⟨Nat.zero_le _, by simp [rawInt]⟩ rfl (Zvj hh)
end
end Mine
end
noncomputable section
namespace Mine
section
variable {α β γ δ : Type} {B : Bgd} {A : Around} {E : Value -> Shared -> Prop} {σ τ φ ψ χ : St} {env : Env} {L a b C I : Addr} {m : Zc} {xs ys : List Value} {s : Shared} {o o' : Obj}
noncomputable def Gs (A : Around) (h : Heap) : Prop := A.handled = none \/ ∃ e o vs, A.handled = some (.ref e) /\ h.get? e = some o /\ o.data = .fields vs /\ vs[2]? = some .none
theorem Zvl : entryFor table "proto.unchain" = some Builtin.«proto.unchain» := entryFor_of_tree (by kernel_rfl)
theorem Zhr {w : World} {a : Addr} {Q : α -> Shared -> Prop} (hk : Gs A s.heap) (ho : s.heap.get? a = some o) (hd : ∃ vs, o.data = .fields vs /\ 2 < vs.size) (hf : o.isFreed = false) (hne : ∀ e, A.handled = some (.ref e) -> e ≠ a)
   (hE : ∀ h', Heap.SameBut a s.heap h' -> (∃ o', h'.get? a = some o' /\ o'.cls = o.cls) -> E (.ref a) { s with heap := h' }) : wpAny (model pw w) A (raiseNew (.ref a) : Sem α) Q E s := by
 unfold raiseNew
 refine wpAny_bind (wpAny_handled ?_)
 rcases hk with h | ⟨e, oe, vs, h1, h2, h3, h4⟩
 · rw [h]
   refine wpAny_bind (wpAny_pure (wpAny_throw ?_))
   exact hE s.heap (Heap.SameBut.refl ..) ⟨o, ho, rfl⟩
 · rw [h1]
   (refine Zb hd ?_; clear hd; intro us hd1 hd2)
   have hea := hne e h1
   have hb : (Value.ref e != Value.ref a) = true := by
     show (!(Value.ref e == Value.ref a)) = true
     cases z : (Value.ref e == Value.ref a) with
     | false => rfl
     | true => exact absurd (by simpa using z) hea
   show wpAny _ _ (if (Value.ref e != Value.ref a) = true then _ else _) _ _ s
   rw [if_pos hb]
   refine wpAny_bind (wpAny_holding (wpAny_runValue (codeAny_builtin Zvl ?_)))
   show wpAny _ _ (field (.ref e) 2 >>= _) _ _ s
   refine wpAny_bind (wpAny_field h2 h3 h4 ?_)
   show wpAny _ _ (do if (Value.none == Value.none) = true then return <- ret .none else _) _ _ s
   refine wpAny_pure ?_
   show wpAny _ _ (updateField a 2 (.ref e) >>= _) _ _ s
   refine wpAny_bind ?_
   simp only [updateField]
   refine wpAny_bind (wpAny_load ho ?_)
   rw [hd1]
   dsimp only
   rw [if_pos hd2]
   refine wpAny_update ho (wpAny_throw (hE _ (Heap.SameBut.update ..) ⟨_, Heap.get?_update_self _ ho (by exact Obj.isFreed_of_fields (Obj.data_mapFields hd1 _)), Obj.cls_mapFields ..⟩))
theorem Zvm {w : World} {it : Addr} {x : Str} {t : Tok} {i : Nat} {Q : Option Value -> Shared -> Prop} (hk : Gs A s.heap)
   (hit : s.heap.IsStrIter it "str_ascii_iterator" x t i) (hx : x.cps[i]? = none)
   (hQ : ∀ h', Heap.ExtBut it s.heap h' -> Q none { s with heap := h' }) : wpAny (model pw w) A (pyNext (.ref it)) Q E s := by
 refine Yg (id hit) fun o ho hc hd => ?_
 have hk : Gs A.in1 s.heap := hk
 have hlt := Heap.lt_size ho
 unfold pyNext
 refine wpAny_bind (wpAny_attempt (wpAny_callSpecial?_slot (name := Str.ofString "__next__") hit.typeIs F.slot_str_ascii_iterator_next
   (wpAny_call_entry F.slot_str_ascii_iterator_next hit.typeIs F.entry_str_ascii_iterator_next ?_ (F.args_str_ascii_iterator_next_1 _))))
 show wpAny _ _ (field (.ref it) 0 >>= _) _ _ s
 refine wpAny_bind (wpAny_field ho hd (x := .str x t) rfl ?_)
 show wpAny _ _ (field (.ref it) 1 >>= _) _ _ s
 refine wpAny_bind (wpAny_field ho hd (x := .int i 0) rfl ?_)
 simp only [Int.toNat_natCast, hx]
 refine wpAny_bind (wpAny_rule (wpAny_bind (wpAny_setField ho hd (by simp) (wpAny_bind (wpAny_letGo ?_)))))
 show wpAny _ _ (newExc (.type "StopIteration") [] >>= _) _ _ _
 refine wpAny_bind ?_
 simp only [newExc, newTuple]
 refine wpAny_bind (wpAny_newObj_type ?_ (by size_fits))
 refine wpAny_bind (m := firstArgMember _ _) (wpAny_of_eq (a := Value.none) (by first | rfl | (simp only [firstArgMember]; rfl)) ?_)
 refine wpAny_newObj_type ?_ (by size_fits)
 have hb : ∀ b o, b ≠ it -> s.heap.get? b = some o -> (((s.heap.update it (Obj.mapFields fun vs => vs.setIfInBounds 0 .none)).push { cls := .type "tuple", data := .seq #[] 0 }).get? b = some o) := fun b o hb e => ((Heap.SameBut.update ..).extBut.push _) b o hb e
 refine Zhr (hk.elim .inl fun ⟨e, oe, vs, h1, h2, h3, h4⟩ => .inr ⟨e, oe, vs, h1, ?_, h3, h4⟩) (Heap.get?_push_size _ rfl) ⟨_, rfl, by simp; exact Nat.le_add_left _ _⟩ rfl (fun e he => ?_) fun h' hs zp => Zb zp fun o' ho' hc' => ?_
 · refine (((Heap.SameBut.update ..).extBut.push _).push _) e oe (fun z => ?_) h2
   rw [z, ho] at h2; (replace h2 := sI h2; subst h2); rw [hd] at h3; (injection h3 with h3; subst h3); simp at h4
 · rcases hk with h | ⟨e', oe, vs, h1, h2, h3, h4⟩
   · rw [h] at he; exact Zk he
   · rw [h1] at he; cases he
     refine Nat.ne_of_lt (Heap.lt_size (hb e oe (fun z => ?_) h2))
     rw [z, ho] at h2; (replace h2 := sI h2; subst h2); rw [hd] at h3; (injection h3 with h3; subst h3); simp at h4
 · refine wpAny_bind (wpAny_isInstance (T := "StopIteration") (b := true) ⟨_, ho', hc'⟩ isSubtype_stop ?_)
   refine wpAny_pure (hQ _ fun b o' hne hb' => hs.extBut b o' (Nat.ne_of_lt (Heap.lt_size (hb b o' hne hb'))) ((((Heap.SameBut.update ..).extBut.push _).push _) b o' hne hb'))
theorem Zvn {w : World} {it : Addr} {x : Str} {t : Tok} {i : Nat} {Q : Option Value -> Shared -> Prop} (hk : Gs A s.heap)
   (hit : s.heap.IsStrIter it "str_iterator" x t i) (hx : x.cps[i]? = none)
   (hQ : ∀ h', Heap.ExtBut it s.heap h' -> Q none { s with heap := h' }) : wpAny (model pw w) A (pyNext (.ref it)) Q E s := by
 refine Yg (id hit) fun o ho hc hd => ?_
 have hk : Gs A.in1 s.heap := hk
 have hlt := Heap.lt_size ho
 unfold pyNext
 refine wpAny_bind (wpAny_attempt (wpAny_callSpecial?_slot (name := Str.ofString "__next__") hit.typeIs F.slot_str_iterator_next
   (wpAny_call_entry F.slot_str_iterator_next hit.typeIs F.entry_str_iterator_next ?_ (F.args_str_iterator_next_1 _))))
 show wpAny _ _ (field (.ref it) 0 >>= _) _ _ s
 refine wpAny_bind (wpAny_field ho hd (x := .str x t) rfl ?_)
 show wpAny _ _ (field (.ref it) 1 >>= _) _ _ s
 refine wpAny_bind (wpAny_field ho hd (x := .int i 0) rfl ?_)
 simp only [Int.toNat_natCast, hx]
 refine wpAny_bind (wpAny_rule (wpAny_bind (wpAny_setField ho hd (by simp) (wpAny_bind (wpAny_letGo ?_)))))
 show wpAny _ _ (newExc (.type "StopIteration") [] >>= _) _ _ _
 refine wpAny_bind ?_
 simp only [newExc, newTuple]
 refine wpAny_bind (wpAny_newObj_type ?_ (by size_fits))
 refine wpAny_bind (m := firstArgMember _ _) (wpAny_of_eq (a := Value.none) (by first | rfl | (simp only [firstArgMember]; rfl)) ?_)
 refine wpAny_newObj_type ?_ (by size_fits)
 have hb : ∀ b o, b ≠ it -> s.heap.get? b = some o -> (((s.heap.update it (Obj.mapFields fun vs => vs.setIfInBounds 0 .none)).push { cls := .type "tuple", data := .seq #[] 0 }).get? b = some o) := fun b o hb e => ((Heap.SameBut.update ..).extBut.push _) b o hb e
 refine Zhr (hk.elim .inl fun ⟨e, oe, vs, h1, h2, h3, h4⟩ => .inr ⟨e, oe, vs, h1, ?_, h3, h4⟩) (Heap.get?_push_size _ rfl) ⟨_, rfl, by simp; exact Nat.le_add_left _ _⟩ rfl (fun e he => ?_) fun h' hs zp => Zb zp fun o' ho' hc' => ?_
 · refine (((Heap.SameBut.update ..).extBut.push _).push _) e oe (fun z => ?_) h2
   rw [z, ho] at h2; (replace h2 := sI h2; subst h2); rw [hd] at h3; (injection h3 with h3; subst h3); simp at h4
 · rcases hk with h | ⟨e', oe, vs, h1, h2, h3, h4⟩
   · rw [h] at he; exact Zk he
   · rw [h1] at he; cases he
     refine Nat.ne_of_lt (Heap.lt_size (hb e oe (fun z => ?_) h2))
     rw [z, ho] at h2; (replace h2 := sI h2; subst h2); rw [hd] at h3; (injection h3 with h3; subst h3); simp at h4
 · refine wpAny_bind (wpAny_isInstance (T := "StopIteration") (b := true) ⟨_, ho', hc'⟩ isSubtype_stop ?_)
   refine wpAny_pure (hQ _ fun b o' hne hb' => hs.extBut b o' (Nat.ne_of_lt (Heap.lt_size (hb b o' hne hb'))) ((((Heap.SameBut.update ..).extBut.push _).push _) b o' hne hb'))
theorem HOK.heap {τ : St} (h : HOK A τ) (r : Rep B τ s) : Gs A s.heap := h.elim .inl fun zp => Zef zp fun e o vs h1 h2 h3 h4 => .inr ⟨e, o, vs, h1, (r.objs.choose_spec.at_ e _ h2).2, h3, h4⟩
theorem Zvo {I : Addr} {x : Str} {t : Tok} : Itr B A I x.cps.size (fun i => Mine.S ⟨#[x.cps.getD i 0]⟩) (fun _ => True) (fun i o => o.cls = .type "str_ascii_iterator" /\ o.data = .fields #[.str x t, .int i 0]) where
 cls := fun i o h => ⟨_, h.1, by decide⟩
 item := fun i o τ s Q E hi ho hsrc r hg k => by
  refine wpAny_pyNext_ascii_item ⟨o, hg, ho.1, ho.2⟩ (c := x.cps.getD i 0) (by simp [hi]) fun h' ⟨o', g', c', d'⟩ hs => k _ o' h' _ rfl ⟨c', d'⟩ g' hs
 done := fun o τ s Q E ho hsrc hk r hg k =>
  Zvm (hk.heap r) ⟨o, hg, ho.1, ho.2⟩ (by simp) fun h' hx => k h' s.toks hx
 self := fun i o s Q E ho hg k => wpAny_pyIter_striter_ascii ⟨o, hg, ho.1, ho.2⟩ k
theorem Zvp {I : Addr} {x : Str} {t : Tok} : Itr B A I x.cps.size (fun i => Mine.S ⟨#[x.cps.getD i 0]⟩) (fun _ => True) (fun i o => o.cls = .type "str_iterator" /\ o.data = .fields #[.str x t, .int i 0]) where
 cls := fun i o h => ⟨_, h.1, by decide⟩
 item := fun i o τ s Q E hi ho hsrc r hg k => by
  refine wpAny_pyNext_wide_item ⟨o, hg, ho.1, ho.2⟩ (c := x.cps.getD i 0) (by simp [hi]) fun h' ⟨o', g', c', d'⟩ hs => k _ o' h' _ rfl ⟨c', d'⟩ g' hs
 done := fun o τ s Q E ho hsrc hk r hg k =>
  Zvn (hk.heap r) ⟨o, hg, ho.1, ho.2⟩ (by simp) fun h' hx => k h' s.toks hx
 self := fun i o s Q E ho hg k => wpAny_pyIter_striter_wide ⟨o, hg, ho.1, ho.2⟩ k
theorem Zvq {x : Str} : IterV B A (S x) σ x.cps.size (fun i => Mine.S ⟨#[x.cps.getD i 0]⟩) (fun _ => True) where
 mono := fun σ τ h q => trivial
 iter := fun u hu τ s q r R E k => by
   (refine Oz hu ?_; rintro t rfl)
   by_cases ha : x.cps.all (· < 128) = true
   · exact wpAny_pyIter_ascii ha (k _ _ ⟨rfl, rfl⟩ rfl Zvo)
   · exact wpAny_pyIter_wide (by simpa using ha) (k _ _ ⟨rfl, rfl⟩ rfl Zvp)
end
end Mine
end
noncomputable section
namespace Mine
section
variable {α β γ δ : Type} {B : Bgd} {A : Around} {E : Value -> Shared -> Prop} {σ τ φ ψ χ : St} {env : Env} {L a b C I : Addr} {E₀ : Value -> Shared -> Prop} {m : Zc} {xs ys : List Value} {s : Shared} {o o' : Obj}
theorem Zvr {w : World} {v : Value} {Q : Unit -> Shared -> Prop} (p : Pos) (ho : s.heap.get? I = some o) (hc : ∃ T, o.cls = .type T /\ (["enumerate", "zip", "dict_itemiterator", "dict_reverseitemiterator", "odict_iterator", "itertools.zip_longest", "itertools.pairwise"] : List String).contains T = false)
  (hQ : Q () s) : wpAny (model pw w) A (letOwnedTupleGo (.List [] p) (.ref I) v) Q E s := by
 cases v with
 | ref a =>
  refine wpAny_bind (wpAny_load ho ?_)
  obtain ⟨cls, dict, data, slots⟩ := o
  obtain ⟨T, rfl, h2⟩ := hc
  cases data with
  | fields vs =>
   show wpAny _ A (if _ then _ else _) _ _ _
   rw [h2]
   exact wpAny_pure hQ
  | _ => exact wpAny_pure hQ
 | _ => exact wpAny_pure hQ
theorem Zvs {w : World} {target : Expr} {v : Value} {Q : Unit -> Shared -> Prop} (ho : s.heap.get? I = some o) (hc : ∃ T, o.cls = .type T /\ (["enumerate", "zip", "dict_itemiterator", "dict_reverseitemiterator", "odict_iterator", "itertools.zip_longest", "itertools.pairwise"] : List String).contains T = false)
  (hQ : Q () s) : wpAny (model pw w) A (letOwnedTupleGo target (.ref I) v) Q E s := by
 have key := fun p => Zvr (E := E) (A := A) (w := w) (v := v) p ho hc hQ
 cases target with
 | Tuple a b p => exact key p
 | List a p => exact key p
 | _ => exact wpAny_pure hQ
theorem Sp : Sub σ (Un σ φ) := fun b o e => Zn e
noncomputable def Zvt (B : Bgd) (A : Around) (env : Env) (χ : St) (target : Expr) (b : List Stmt) (X : Nat -> Value) (Q : Flow -> Zc -> St -> Prop) (Inv : Nat -> Zc -> St -> Prop) (i : Nat) : Prop :=
 ∀ m σ, Inv i m σ -> ∀ v, er v = X i -> ∀ E, JS B A env.locals χ (_root_.id : Unit -> Unit) (assign target env v) (fun _ m' σ' => JX B A env χ (execs b env) (fun fl m₂ σ₂ => match fl with
  | .next => ∃ σ₃, Wk σ₃ σ₂ /\ Inv (i + 1) m₂ σ₃
  | .ret v => Q (.ret v) m₂ σ₂
  | _ => False) E m' σ') E m σ
theorem Zvu {target iter : Expr} {b rest : List Stmt} {p : Pos} {Q : Flow -> Zc -> St -> Prop}
   (h : JE B A env (fr env.locals m χ) iter (fun v σ₁ => ∃ n X src, IterV B A v σ₁ n X src /\ ∃ Inv : Nat -> Zc -> St -> Prop, Inv 0 m σ₁ /\ (∀ i m' σ', Inv i m' σ' -> src σ') /\
     (∀ i, i < n -> Zvt B A env χ target b X Q Inv i) /\ ∀ m' σ', Inv n m' σ' -> JX B A env χ (execs rest env) Q E m' σ') E σ)
   (hs : ∀ x, foldedSetIterable iter env x = pure x) : JX B A env χ (execs (.For target iter b [] p :: rest) env) Q E m σ :=
 Od fun hL φ d u₀ s r => by
   refine wpAny_For (wpAny_mono (h hL φ d u₀ s r) (fun v s₁ z => ?_) fun _ _ x => x) hs
   (refine Xc z ?_; clear z; intro σ₁ hL₁ d₁ r₁ zr)
   obtain ⟨n, X, src, iv, Inv, hi, hsrc, turn, fin⟩ := zr
   refine iv.iter v rfl _ s₁ (fun b o e => Zn (Zn e)) r₁ _ _ fun o Ob ho hf it => ?_
   have hn := r₁.size_none
   have hφ : φ s₁.heap.objs.size = none := by
     have h1 := Ye hn
     unfold Un at hn h1; rw [h1] at hn; exact hn
   have rp := r₁.push (t := s₁.toks) (ob := o) (o := .raw o) rfl fun δ => Heap.get?_push_size _ hf
   rw [Zcc (Ye hn) hφ] at rp
   refine codeAny_forLoop_any (fun k s => ∃ i m' σ' o, k = n + 1 - i /\ i <= n /\ Inv i m' σ' /\ Ob i o /\ Dis σ' (fr env.locals m' χ) /\ Dis (Un σ' (fr env.locals m' χ)) (Un φ (one s₁.heap.objs.size (.raw o))) /\
     Rep B (Un (Un σ' (fr env.locals m' χ)) (Un φ (one s₁.heap.objs.size (.raw o)))) s) ?_ (n + 1) ⟨0, m, σ₁, o, rfl, Nat.zero_le _, hi, ho, hL₁, Zcd d₁ (Ye hn), rp⟩
   rintro k s ⟨i, m', σ', o, rfl, hin, hI, ho, hL', d', r'⟩
   have hfree := Zve d' hφ
   have hat := Zcb (o := .raw o) hfree hφ
   have hget : s.heap.get? s₁.heap.objs.size = some o := (r'.objs.choose_spec.at_ _ _ hat).2
   have hsub : Sub σ' (Un (Un σ' (fr env.locals m' χ)) (Un φ (one s₁.heap.objs.size (.raw o)))) := fun b o e => Zn (Zn e)
   have hu : HOK A (Un φ (one s₁.heap.objs.size (.raw o))) := u₀.sub Sp
   rcases Nat.lt_or_ge i n with hlt | hge
   · refine it.item i o _ s _ _ hlt ho (iv.mono _ _ (hsrc _ _ _ hI) hsub) r' hget fun v o' h' tk hv ho' hg' hsb => ?_
     have r2 := r'.set (h' := h') (t := tk) (o' := .raw o') hat rfl rfl rfl hsb fun δ _ => hg'
     rw [Zvc hfree hφ] at r2
     refine Zvs hg' (it.cls _ _ ho') ?_
     refine wpAny_mono (turn i hlt m' σ' hI v hv _ hL' _ (Zvd d') (u₀.sub Sp) _ r2) (fun _ s₂ z => ?_) fun _ _ x => x
     (refine Jp z ?_; clear z; intro m₂ σ₂ hL₂ d₂ r₂ q)
     refine wpAny_mono (q hL₂ _ d₂ (u₀.sub Sp) _ r₂) (fun fl s₃ z => ?_) fun _ _ x => x
     (refine Jp z ?_; clear z; intro m₃ σ₃ hL₃ d₃ r₃ q₃)
     cases fl with
     | next =>
       (refine Zb q₃ ?_; clear q₃; intro σ₄ hs₄ hI₄)
       refine ⟨n + 1 - (i + 1), by exact Qo (L2 (N4 _ _ _ _) V0 1 (.a nA (.a nC kI)) (.a nD kI) (Zj (@Wb (n + 1) (i + 1) (gl (L1 (N2 _ _) V0 1 nA nB (nl hin) (.a nA kI) (.a nB kI) rfl)))) 1 (.a nD kI) (.a nB nC) (Zl (@Wb (n + 1) i (gl (L1 (N2 _ _) V0 1 nA nB (nl hin) nA (.a nB kI) rfl)))) (.a nA kI) nB rfl), i + 1, m₃, σ₄, o', rfl, hlt, hI₄, ho', hL₃.weak hs₄, d₃.weak (hs₄.un hL₃), r₃.weak ((hs₄.un hL₃).un d₃)⟩
     | ret v =>
       have hsb : Sub (Un (Un σ₃ (fr env.locals m₃ χ)) φ) (Un (Un σ₃ (fr env.locals m₃ χ)) (Un φ (one s₁.heap.objs.size (.raw o')))) := Zho (.inr trivial)
       exact ⟨_, Zhp d₃, r₃.sub hsb, m₃, σ₃, hL₃, rfl, q₃⟩
     | brk => exact q₃.elim
     | cont => exact q₃.elim
   · have hn' : i = n := Nat.le_antisymm hin hge
     subst hn'
     refine it.done o _ s _ _ ho (iv.mono _ _ (hsrc _ _ _ hI) hsub) ((u₀.sub Sp).sub (fun b o e => Up d' e)) r' hget fun h' tk hx => wpAny_execs_nil ?_
     have hno : Un (Un σ' (fr env.locals m' χ)) φ s₁.heap.objs.size = none := by
       show (Un σ' (fr env.locals m' χ) s₁.heap.objs.size).or _ = none
       rw [hfree, hφ]; rfl
     exact ⟨_, Zhp d', r'.drop (Zho (.inr trivial)) hat rfl hno (c := env.locals) (y := .ns m') (Zn (Up hL' Wo)) rfl hx, m', σ', hL', rfl, fin m' σ' hI⟩
theorem Rep.ext {h' : Heap} {t : Nat} {c : Addr} {y : AO} (r : Rep B σ s) (hc : σ c = some y) (hy : Kv y = false) (k : ∀ b o, s.heap.get? b = some o -> h'.get? b = some o) : Rep B σ { s with heap := h', toks := t } := by
 obtain ⟨h1, h2, h3, h4, δ, k1, k2, k3⟩ := r
 refine ⟨fun b o e => k b o (h1 b o e), ?_, h3, h4, δ, fun b o e => ⟨(k1 b o e).1, (k1 b o e).2.keep k⟩, k2, k3⟩
 refine Zg (k1 c y hc) fun q1 q2 => ?_
 refine Xg q2.there fun ob hob => ?_
 exact Nat.le_trans (q1 hy) (Nat.le_of_lt (Heap.lt_size (k c ob hob)))
theorem J.ext {e : α -> β} {t : Sem α} {Q : β -> St -> Prop} (hL : ψ L = some (.ns m)) (h : ∀ s, Rep B σ s -> s.gens = #[] -> ∀ R : α -> Shared -> Prop, (∀ h' tk a, (∀ b o, s.heap.get? b = some o -> h'.get? b = some o) -> Q (e a) σ -> R a { s with heap := h', toks := tk }) -> wpAny (model pw B.w) A t R E s) : J B A ψ e t Q E σ := fun d φ d' u s r =>
 h s (r.sub fun b o e => Zn (Zn e)) r.gens _ fun h' tk a k q => ⟨_, d', r.ext (c := L) (Zn (Up d hL)) rfl k, σ, d, rfl, q⟩
theorem Zhs {x : Str} {v : Value} {Q : Unit -> Zc -> St -> Prop} (F : FnEnv env) (hk : env.kindOf x = some .local) (h : Q () (Ym x (er v) m) σ) : JS B A env.locals χ (_root_.id : Unit -> Unit) (bindName env x v) Q E m σ := fun hL => by
 refine Zpl ?_
 exact JS.store F hk h hL
theorem Sq {x : Str} {p : Pos} {v : Value} {Q : Unit -> Zc -> St -> Prop} (F : FnEnv env) (hk : env.kindOf x = some .local) (h : Q () (Ym x (er v) m) σ) : JS B A env.locals χ (_root_.id : Unit -> Unit) (assign (.Name x p) env v) Q E m σ := by
 rw [PySem.assign_Name]
 exact JS.bind (e := _root_.id) (JS.of_J (J.standAt fun _ _ => Zhs F hk h))
noncomputable def putN : List Str -> List Value -> Zc -> Zc
 | x :: xs, v :: vs, m => putN xs vs (Ym x v m)
 | _, _, m => m
theorem Zce (F : FnEnv env) {Q : Unit -> Zc -> St -> Prop} : ∀ (ts : List (Str × (Value -> Sem Unit))) (vs : List Value) (m : Zc), (∀ q ∈ ts, env.kindOf q.1 = some .local) ->
  (∀ q ∈ ts, ∀ v (m : Zc) (Q : Unit -> Zc -> St -> Prop), Q () (Ym q.1 (er v) m) σ -> JS B A env.locals χ (_root_.id : Unit -> Unit) (q.2 v) Q E m σ) -> Q () (putN (ts.map (·.1)) (vs.map er) m) σ ->
  JS B A env.locals χ (_root_.id : Unit -> Unit) (assignInOrder (ts.map (·.2)) vs) Q E m σ
 | [], vs, m, _, _, h => JS.pure (by cases vs <;> exact h)
 | q :: ts, [], m, _, _, h => JS.pure h
 | q :: ts, v :: vs, m, hk, ht, h => by
  show JS B A env.locals χ (_root_.id : Unit -> Unit) (do PySem.holding vs (q.2 v); assignInOrder (ts.map (·.2)) vs) Q E m σ
  refine JS.bind (e := _root_.id) (fun hL => Zbn (ht q List.mem_cons_self v m (fun _ m' σ' => ∀ a, _root_.id a = () -> JS B A env.locals χ (_root_.id : Unit -> Unit) (assignInOrder (ts.map (·.2)) vs) Q E m' σ') ?_ hL))
  exact fun _ _ => Zce F ts vs _ (fun q hq => hk q (List.mem_cons_of_mem _ hq)) (fun q hq => ht q (List.mem_cons_of_mem _ hq)) h
noncomputable def Wx (l : List (Str × Pos)) : List Expr := l.map fun q => .Name q.1 q.2
theorem Zht : ∀ (l : List (Str × Pos)), assignEach (Wx l) env = l.map fun q => (false, assign (.Name q.1 q.2) env)
 | [] => rfl
 | q :: l => by
  show (false, assign (.Name q.1 q.2) env) :: assignEach (Wx l) env = _
  rw [Zht l]; rfl
theorem Zvv (l : List (Str × Pos)) : (l.map fun q => (false, assign (.Name q.1 q.2) env)).findIdx? (·.1) = none := by
 rw [List.findIdx?_eq_none_iff]
 intro x hx
 (refine Zb (List.mem_map.mp hx) ?_; rintro q _ rfl)
 rfl
theorem Zhu {t : Addr} {k : Nat} {Q : List Value -> St -> Prop} (hh : A.handled = none) (hL : ψ L = some (.ns m)) (ht : σ t = some (.tup xs)) (hk : k = xs.length) (h : Q xs σ) : J B A ψ Yj (unpackItems (.ref t) k none) Q E σ :=
 J.ext hL fun s r hg R k' => by
  refine Zx (r.isT ht) fun items n h1 h2 => ?_
  have hsz : k = items.size := by rw [hk, Xk h2]
  subst hsz
  exact wpAny_unpackItems_tuple hh ⟨_, h1, rfl, n, rfl⟩ fun h' he => k' h' s.toks _ (fun b o e => he b o (Nat.ne_of_lt (Heap.lt_size e)) e) (by show Q (List.map er items.toList) σ; rw [h2]; exact h)
theorem Zhv {l : List (Str × Pos)} {k : Nat} {p : Pos} {t : Addr} {Q : Unit -> Zc -> St -> Prop} (F : FnEnv env) (hh : A.handled = none) (ht : σ t = some (.tup xs)) (hn : l.length = xs.length) (hk : ∀ q ∈ l, env.kindOf q.1 = some .local)
  (h : Q () (putN (l.map (·.1)) xs m) σ) : JS B A env.locals χ (_root_.id : Unit -> Unit) (assign (.Tuple (Wx l) k p) env (.ref t)) Q E m σ := by
 rw [arm_assign_Tuple]
 refine JS.bind (e := _root_.id) (JS.of_J (J.standAt fun _ _ => ?_))
 unfold unpack
 rw [Zht, Zvv, List.length_map]
 refine JS.bind (e := Yj) (JS.of_J (J.holding (Zhu hh Wo ht hn fun us hus => ?_)))
 have := Zce (B := B) (A := A) (E := E) (σ := σ) (χ := χ) F (Q := Q) (l.map fun q => (q.1, assign (.Name q.1 q.2) env)) us m (fun q hq => by
  (refine Zb (List.mem_map.mp hq) ?_; rintro q' hq' rfl); exact hk q' hq') (fun q hq v m Q hQ => by
  (refine Zb (List.mem_map.mp hq) ?_; rintro q' hq' rfl); exact Sq F (hk q' hq') hQ) (by rw [List.map_map]; show Q () (putN (l.map (·.1)) (Yj us) m) σ; rw [hus]; exact h)
 rw [List.map_map] at this ⊢
 exact this
theorem Zvw {l : List (Str × Pos)} {k : Nat} {tp p : Pos} {v : Expr} {rest : List Stmt} {Q : Flow -> Zc -> St -> Prop} (F : FnEnv env) (hh : A.handled = none) (hk : ∀ q ∈ l, env.kindOf q.1 = some .local)
  (h : JE B A env (fr env.locals m χ) v (fun u σ₁ => ∃ t xs, u = .ref t /\ σ₁ t = some (.tup xs) /\ l.length = xs.length /\ JX B A env χ (execs rest env) Q E (putN (l.map (·.1)) xs m) σ₁) E σ)
  (hs : swapsWith v (some (.Tuple (Wx l) k tp)) p.line env = pure false) (hw : swappedStores [.Tuple (Wx l) k tp] v env = pure none) : JX B A env χ (execs (.Assign [.Tuple (Wx l) k tp] v p :: rest) env) Q E m σ :=
 Od fun hL φ d u₀ s r => Assign_Tuple (wpAny_mono (h hL φ d u₀ s r) (fun u s₁ zq => by
  (refine Xc zq ?_; clear zq; intro σ₁ hL₁ d₁ r₁ zr)
  obtain ⟨t, xs, eu, ht, hn, q⟩ := zr
  rw [Yc eu]
  exact wpAny_mono (Zhv (Q := fun _ m' σ' => Kh B A env χ rest Q E .next m' σ') F hh ht hn hk q hL₁ φ d₁ u₀ s₁ r₁) (fun _ s₂ zp => psT zp fun _ _ q => q) fun _ _ x => x) fun _ _ x => x) hs hw
theorem Zvx {l : List (Str × Pos)} {k : Nat} {tp p : Pos} {v : Expr} {names : List Str} {rest : List Stmt} {Q : Flow -> Zc -> St -> Prop} (F : FnEnv env) (hh : A.handled = none) (hk : ∀ x ∈ names, env.kindOf x = some .local)
  (h : JE B A env (fr env.locals m χ) v (fun u σ₁ => ∃ t xs, u = .ref t /\ σ₁ t = some (.tup xs) /\ names.length = xs.length /\ JX B A env χ (execs rest env) Q E (putN names.reverse xs.reverse m) σ₁) E σ)
  (hs : swapsWith v (some (.Tuple (Wx l) k tp)) p.line env = pure false) (hw : swappedStores [.Tuple (Wx l) k tp] v env = pure (some names)) : JX B A env χ (execs (.Assign [.Tuple (Wx l) k tp] v p :: rest) env) Q E m σ :=
 Od fun hL φ d u₀ s r => Assign_Tuple_swapped (wpAny_mono (h hL φ d u₀ s r) (fun u s₁ zq => by
  (refine Xc zq ?_; clear zq; intro σ₁ hL₁ d₁ r₁ zr)
  obtain ⟨t, xs, eu, ht, hn, q⟩ := zr
  rw [Yc eu]
  have base : J B A (fr env.locals m χ) Yj (unpackItems (.ref t) names.length none) (fun us σ₂ => us = xs /\ σ₂ = σ₁) E σ₁ := Zhu hh Wo ht hn ⟨rfl, rfl⟩
  refine wpAny_mono (base hL₁ φ d₁ u₀ s₁ r₁) (fun us s₂ zq => ?_) fun _ _ x => x
  (refine Xc zq ?_; clear zq; intro σ₂ hL₂ d₂ r₂ zr)
  obtain ⟨hus, e₃⟩ := zr
  subst e₃
  have := Zce (B := B) (A := A) (E := E) (σ := σ₂) (χ := χ) F (Q := fun _ m' σ' => Kh B A env χ rest Q E .next m' σ') (names.reverse.map fun x => (x, bindName env x)) us.reverse m (fun q hq => by
   (refine Zb (List.mem_map.mp hq) ?_; rintro q' hq' rfl); exact hk q' (List.mem_reverse.mp hq')) (fun q hq v m Q hQ => by
   (refine Zb (List.mem_map.mp hq) ?_; rintro q' hq' rfl); exact Zhs F (hk q' (List.mem_reverse.mp hq')) hQ) (by
   rw [List.map_map]
   show JX B A env χ (execs rest env) Q E (putN (List.map (fun x => x) names.reverse) (List.map er us.reverse) m) σ₂
   rw [List.map_id', List.map_reverse]; rw [show List.map er us = xs from hus]; exact q)
  rw [List.map_map] at this
  exact wpAny_mono (this hL₂ φ d₂ u₀ s₂ r₂) (fun _ s₂ zp => psT zp fun _ _ q => q) fun _ _ x => x) fun _ _ x => x) hs hw
theorem Zvy {test : Expr} {b rest : List Stmt} {p : Pos} {Q : Flow -> Zc -> St -> Prop} (Inv : Nat -> Zc -> St -> Prop) (k₀ : Nat) (h0 : Inv k₀ m σ)
  (turn : ∀ k m σ, Inv k m σ -> ∀ E, JT B A env (fr env.locals m χ) test (fun c σ₁ => (c = true -> JX B A env χ (execs b env) (fun fl m₂ σ₂ => match fl with
   | .next => ∃ j, j < k /\ ∃ σ₃, Wk σ₃ σ₂ /\ Inv j m₂ σ₃
   | .ret v => Q (.ret v) m₂ σ₂
   | _ => False) E m σ₁) /\ (c = false -> JX B A env χ (execs rest env) Q E₀ m σ₁)) E σ) : JX B A env χ (execs (.While test b [] p :: rest) env) Q E₀ m σ :=
 Od fun hL φ d u₀ s r => by
  refine wpAny_While (codeAny_whileLoop (fun k s => ∃ m' σ', Inv k m' σ' /\ Dis σ' (fr env.locals m' χ) /\ Dis (Un σ' (fr env.locals m' χ)) φ /\ Rep B (Un (Un σ' (fr env.locals m' χ)) φ) s) ?_ k₀ ⟨m, σ, h0, hL, d, r⟩)
  rintro k s ⟨m', σ', hI, hL', d', r'⟩
  refine wpAny_mono (turn k m' σ' hI _ hL' φ d' u₀ s r') (fun c s₁ zq => ?_) fun _ _ x => x
  (refine Xc zq ?_; clear zq; intro σ₁ hL₁ d₁ r₁ zr)
  obtain ⟨q1, q2⟩ := zr
  cases c with
  | true =>
   simp only [if_true]
   refine wpAny_mono (q1 rfl hL₁ φ d₁ u₀ s₁ r₁) (fun fl s₂ zq => ?_) fun _ _ x => x
   (refine Jp zq ?_; clear zq; intro m₂ σ₂ hL₂ d₂ r₂ q)
   cases fl with
   | next =>
    (refine Zb q ?_; clear q; intro j hj zr; obtain ⟨σ₃, hs₃, hI₃⟩ := zr)
    exact ⟨j, hj, m₂, σ₃, hI₃, hL₂.weak hs₃, d₂.weak (hs₃.un hL₂), r₂.weak ((hs₃.un hL₂).un d₂)⟩
   | ret v => exact ⟨_, d₂, r₂, m₂, σ₂, hL₂, rfl, q⟩
   | brk => exact q.elim
   | cont => exact q.elim
  | false =>
   simp only [Bool.false_eq_true, if_false]
   exact wpAny_execs_nil ⟨_, d₁, r₁, m', σ₁, hL₁, rfl, q2 rfl⟩
end
end Mine
end
noncomputable section
namespace Mine
section
variable {α β γ δ : Type} {B : Bgd} {A : Around} {E : Value -> Shared -> Prop} {σ τ φ ψ χ ζ : St} {env : Env} {L a b C D I : Addr} {m : Zc} {xs ys : List Value} {s : Shared} {o o' : Obj} {p q : AO}
noncomputable def Yr (φ : St) (I : Addr) (p : AO) (D : Addr) (q : AO) : St := Un (Un φ (one I p)) (one D q)
theorem Zcf (h1 : ζ I = none) (h2 : φ I = none) : Un ζ (Yr φ I p D q) I = some p := by unfold Yr Un; rw [h1, h2, Kk]; rfl
theorem Zcg (h1 : ζ D = none) (h2 : φ D = none) (h3 : D ≠ I) : Un ζ (Yr φ I p D q) D = some q := by unfold Yr Un; rw [h1, h2, Uv h3, Kk]; rfl
theorem Zvz {p' : AO} (h1 : ζ I = none) (h2 : φ I = none) : upd (Un ζ (Yr φ I p D q)) I p' = Un ζ (Yr φ I p' D q) := by
 funext b
 by_cases z : b = I
 · subst z; rw [Yz, Zcf h1 h2]
 · rw [Zz z]; unfold Yr Un; rw [Uv z, Uv z]
theorem Zwa {q' : AO} (h1 : ζ D = none) (h2 : φ D = none) (h3 : D ≠ I) : upd (Un ζ (Yr φ I p D q)) D q' = Un ζ (Yr φ I p D q') := by
 funext b
 by_cases z : b = D
 · subst z; rw [Yz, Zcg h1 h2 h3]
 · rw [Zz z]; unfold Yr Un; rw [Uv z, Uv z]
theorem Zwb (h1 : ζ I = none) (h2 : φ I = none) (h3 : ζ D = none) (h4 : φ D = none) (h5 : D ≠ I) : upd (upd (Un ζ φ) I p) D q = Un ζ (Yr φ I p D q) := by
 rw [Zcc h1 h2, Zcc h3 (by unfold Un; rw [h4, Uv h5]; rfl)]; rfl
theorem Zwc {p' q' : AO} (h : Yr φ I p D q b = none) : Yr φ I p' D q' b = none := by
 unfold Yr Un at h ⊢
 by_cases z : b = I
 · subst z; rw [Kk] at h; cases y : φ b <;> rw [y] at h <;> exact Wh h
 · by_cases z' : b = D
   · subst z'; rw [Uv z, Kk] at h; cases y : φ b <;> rw [y] at h <;> exact Wh h
   · rw [Uv z, Uv z'] at h ⊢; exact h
theorem Zch {p' q' : AO} (d : Dis ζ (Yr φ I p D q)) : Dis ζ (Yr φ I p' D q') := fun b => (d b).imp (fun h => h) Zwc
theorem Zwd (d : Dis ζ (Yr φ I p D q)) : Dis ζ φ := fun b => (d b).imp (fun h => h) fun h => by
 unfold Yr at h; exact Ye (Ye h)
theorem Zwe (d : Dis ζ φ) (h1 : ζ I = none) (h2 : ζ D = none) : Dis ζ (Yr φ I p D q) := Zcd (Zcd d h1) h2
theorem Zwf (d : Dis ζ (Yr φ I p D q)) : ζ I = none := (d I).elim (fun h => h) fun h => by
 unfold Yr Un at h; rw [Kk] at h; cases y : φ I <;> rw [y] at h <;> exact Wh h
theorem Zhw (d : Dis ζ (Yr φ I p D q)) : ζ D = none := (d D).elim (fun h => h) fun h => by
 unfold Yr Un at h; rw [Kk] at h
 cases y : (φ D).or (one I p D) <;> rw [y] at h <;> exact Wh h
theorem Zhx : Sub φ (Yr φ I p D q) := fun b o e => Zn (Zn e)
theorem Zhy (h : σ C = none) : upd (Un σ ψ) C (.ns m) = Un σ (fr C m ψ) := by
 funext b
 unfold upd Un fr
 by_cases z : b = C
 · subst z; simp [h]
 · simp [z]
theorem Zwg (d : Dis σ ψ) (h : σ C = none) : Dis σ (fr C m ψ) := fun b => by
 by_cases z : b = C
 · subst z; exact .inl h
 · exact (d b).imp (fun h => h) fun h => by unfold fr; rw [if_neg z]; exact h
theorem Zwh {I : Addr} {m' : Zc} (h1 : Un σ (fr C m' ψ) D = none) (h2 : φ D = none) (h3 : Un σ (fr C m' ψ) I = none) (h4 : φ I = none) (h5 : D ≠ I) : Sub (Un (Un (upd σ D q) (fr C m' ψ)) φ) (Un (Un σ (fr C m' ψ)) (Yr φ I p D q)) := fun b o e => by
 by_cases z : b = D
 · subst z
   rw [Zcg h1 h2 h5]
   unfold Un at e; rw [Yz] at e; exact e
 · have : Un (Un (upd σ D q) (fr C m' ψ)) φ b = Un (Un σ (fr C m' ψ)) φ b := by unfold Un; rw [Zz z]
   rw [this] at e
   unfold Un at e
   unfold Yr Un
   cases y : σ b with
   | some w => rw [y] at e; exact e
   | none =>
     rw [y] at e
     cases y2 : fr C m' ψ b with
     | some w => rw [y2] at e; exact e
     | none =>
       rw [y2] at e
       have e' : φ b = some o := e
       rw [e']; rfl
noncomputable def Sr (ifs : List Expr) (env : Env) : Sem Bool := forIn ifs true fun c r => if r = true then do let ok <- isTrue c env (eval c env); pure (ForInStep.yield ok) else pure (ForInStep.yield r)
theorem Zwi {Q : Bool -> St -> Prop} (h : Q true σ) : J B A ψ (_root_.id : Bool -> Bool) (Sr [] env) Q E σ := fun hL φ d u s r => wpAny_tests_nil ⟨_, d, r, σ, hL, rfl, h⟩
theorem Zwj {c : Expr} {Q : Bool -> St -> Prop} (h : JT B A env ψ c Q E σ) : J B A ψ (_root_.id : Bool -> Bool) (Sr [c] env) Q E σ := fun hL φ d u s r => wpAny_tests_one (h hL φ d u s r)
noncomputable def Su (B : Bgd) (A : Around) (env : Env) (ψ : St) (scope : Scope) (cl : List (Str × Addr)) (x : Str) (ifs : List Expr) (elt : Expr) (X : Nat -> Value) (Inv : Nat -> List Value -> St -> Prop) (i : Nat) : Prop :=
 ∀ acc σ, Inv i acc σ -> ∀ C E, C ≠ env.locals -> (∀ b o, ψ b = some o -> b ≠ C) -> J B A (fr C [(x, X i)] ψ) (_root_.id : Bool -> Bool) (Sr ifs (compEnvC scope cl C env)) (fun ok σ₁ => (ok = true -> JE B A (compEnvC scope cl C env) (fr C [(x, X i)] ψ) elt (fun y σ₂ => ∃ σ₃, Sub σ₃ σ₂ /\ Inv (i + 1) (acc ++ [y]) σ₃) E σ₁) /\ (ok = false -> ∃ σ₃, Sub σ₃ σ₁ /\ Inv (i + 1) acc σ₃)) E σ
theorem Zhz {elt iter : Expr} {x : Str} {px : Pos} {ifs : List Expr} {scope : Scope} {cl : List (Str × Addr)} {pos : Pos} {v : Value} {n : Nat} {X : Nat -> Value} {src : St -> Prop} {RR : Value -> Addr -> Result -> Shared -> Prop}
   (F : FnEnv env) (hψ : ψ env.locals = some (.ns m)) (hcell : ∀ y ∈ scope.names, y.2 ≠ .cell) (hkind : scope.kind = .function) (hx : scope.names.lookup x = some .local)
   (iv : IterV B A v σ n X src) (hsz : n <= sizeLine) (hL : Dis σ ψ) (d : Dis (Un σ ψ) φ) (u₀ : HOK A φ) (r : Rep B (Un (Un σ ψ) φ) s) {u : Value} (hu : er u = v)
   (Inv : Nat -> List Value -> St -> Prop) (hI : Inv 0 [] σ) (hsrc : ∀ i acc σ', Inv i acc σ' -> src σ') (turn : ∀ i, i < n -> Su B A env ψ scope cl x ifs elt X Inv i)
   (fin : ∀ D C m' acc σ' s', Inv n acc σ' -> σ' D = none -> ψ D = none -> C ≠ env.locals -> (∀ b o, ψ b = some o -> b ≠ C) -> φ C = none -> Dis (upd σ' D (.lst acc)) (fr C m' ψ) -> Dis (Un (upd σ' D (.lst acc)) (fr C m' ψ)) φ -> Rep B (Un (Un (upd σ' D (.lst acc)) (fr C m' ψ)) φ) s' -> RR (.ref D) C (.ok .next) s') :
   wpAny (model pw B.w) A (pyIter u) (fun it s₂ => wpAny (model pw B.w) A (newList []) (fun acc s₃ => wpAny (model pw B.w) A (newFunctionEnv scope env.globals cl [] env.qual none .none (some env)) (fun cenv s₄ =>
     codeAny (model pw B.w) A (.compStart (.ListComp elt [⟨.Name x px, iter, ifs, 0⟩] scope pos) 0 it acc { cenv with scope := relabel scope env }) (RR acc cenv.locals) s₄) E s₃) E s₂) E s := by
 refine iv.iter u hu _ s (fun b o e => Zn (Zn e)) r _ _ fun o Ob ho hf it => ?_
 refine wpAny_newObj_type (wpAny_newFunctionEnv hcell (by intro y hy; simp at hy) (fun h₁ hns₁ hsb₁ => ?_) hkind)
 dsimp only at hns₁ hsb₁ ⊢
 have hIn := r.size_none
 have r1 := r.push (t := s.toks) (ob := o) (o := .raw o) rfl fun δ => Heap.get?_push_size _ hf
 have hDn := r1.size_none
 have r2 := r1.push (t := s.toks) (ob := { cls := .type "list", dict := none, data := .seq ([] : List Value).toArray }) (o := .lst []) rfl fun δ => ⟨#[], 0, Heap.get?_push_size _ rfl, rfl⟩
 have hCn := r2.size_none
 have hsz1 : (s.heap.push o).objs.size = s.heap.objs.size + 1 := Heap.size_push ..
 have hsz2 : ((s.heap.push o).push { cls := .type "list", dict := none, data := .seq ([] : List Value).toArray }).objs.size = s.heap.objs.size + 1 + 1 := by rw [Heap.size_push, hsz1]
 have r3 := r2.pushNs (t := s.toks + ([] : List (Str × Value)).length) (ml := []) (m' := fun x => ([] : List (Str × Value)).reverse.lookup x) (fun b o' e => hsb₁.extBut b o' (Nat.ne_of_lt (Heap.lt_size e)) (Heap.get?_push_of_some _ e)) hns₁ fun x => rfl
 dsimp only at hDn hCn r3
 generalize hD : (s.heap.push o).objs.size = D at *
 generalize hC : ((s.heap.push o).push { cls := .type "list", dict := none, data := .seq ([] : List Value).toArray }).objs.size = C at *
 generalize hIe : s.heap.objs.size = I at *
 have hDI : D ≠ I := by rw [hsz1]; exact Nat.succ_ne_self _
 have hCI : C ≠ I := by rw [hsz2]; exact fun zz => gf (L1 (N1 _) V0 1 (.a (.a nA kI) kI) nA (Wv zz) kI kZ rfl)
 have hCD : C ≠ D := by rw [hsz2, hsz1]; exact fun zz => gf (L1 (N1 _) V0 1 (.a (.a nA kI) kI) (.a nA kI) (Wv zz) kI kZ rfl)
 have hD0 : Un (Un σ ψ) φ D = none := by rw [<- hDn, Zz hDI]
 have hC0 : Un (Un σ ψ) φ C = none := by rw [<- hCn, Zz hCD, Zz hCI]
 have p2 : ∀ b, Un (Un σ ψ) φ b = none -> Un σ ψ b = none /\ φ b = none := fun b h => ⟨Ye h, by have h1 := Ye h; unfold Un at h h1; rw [h1] at h; exact h⟩
 refine Zg (p2 _ hIn) fun i1 i2 => ?_
 refine Zg (p2 _ hD0) fun d1 d2 => ?_
 refine Zg (p2 _ hC0) fun c1 c2 => ?_
 have ψn : ∀ b, Un σ ψ b = none -> ψ b = none := fun b h => by have h1 := Ye h; unfold Un at h; rw [h1] at h; exact h
 have hCψ : ∀ b o, ψ b = some o -> b ≠ C := fun b o e z => by rw [z, ψn _ c1] at e; exact Zk e
 have hCL : C ≠ env.locals := fun z => hCψ _ _ hψ z.symm
 have r4 : Rep B (Un (Un σ (fr C [] ψ)) (Yr φ I (.raw o) D (.lst []))) { s with heap := h₁, toks := s.toks + ([] : List (Str × Value)).length } := by
   rw [Zwb i1 i2 d1 d2 hDI, Xz, Zhy (Ye c1)] at r3; exact r3
 have hfI : fr C [] ψ I = none := by unfold fr; rw [if_neg (Ne.symm hCI)]; exact ψn _ i1
 have hfD : fr C [] ψ D = none := by unfold fr; rw [if_neg (Ne.symm hCD)]; exact ψn _ d1
 have dis1 : Dis σ (fr C [] ψ) := Zwg hL (Ye c1)
 have dis2 : Dis (Un σ (fr C [] ψ)) (Yr φ I (.raw o) D (.lst [])) := by
   refine Zwe ?_ ?_ ?_
   · have := d.upd_new hC0 (.ns [])
     rw [Zhy (Ye c1)] at this; exact this
   · unfold Un; rw [Ye i1, hfI]; rfl
   · unfold Un; rw [Ye d1, hfD]; rfl
 have FC : FnEnv (compEnvC scope cl C env) := ⟨hkind, F.globals, F.builtins⟩
 have hkx : (compEnvC scope cl C env).kindOf x = some .local := lookup_relabel_local hx
 have hsmall : ∀ w : Value, ∀ m' : Zc, (m' = [] \/ ∃ w', m' = [(x, w')]) -> Ym x w m' = [(x, w)] := fun w m' h => by
   rcases h with rfl | ⟨w', rfl⟩
   · rfl
   · unfold Ym; rw [if_pos rfl]
 have loop : ∀ s₃ : Shared, s₃ = { s with heap := h₁, toks := s.toks + ([] : List (Str × Value)).length } -> codeAny (model pw B.w) A (.compLoop (.ListComp elt [⟨.Name x px, iter, ifs, 0⟩] scope pos) 0 (.ref I) (.ref D) (compEnvC scope cl C env)) (RR (.ref D) C) s₃ := by
   rintro s₃ rfl
   refine codeAny_compLoop_tests (fun k s => ∃ i acc m' σ' o, k = n + 1 - i /\ i <= n /\ acc.length <= i /\ Inv i acc σ' /\ Ob i o /\ (m' = [] \/ ∃ w', m' = [(x, w')]) /\ Dis σ' (fr C m' ψ) /\ Dis (Un σ' (fr C m' ψ)) (Yr φ I (.raw o) D (.lst acc)) /\
     Rep B (Un (Un σ' (fr C m' ψ)) (Yr φ I (.raw o) D (.lst acc))) s) ?_ (n + 1) ⟨0, [], [], σ, o, rfl, Nat.zero_le _, Nat.le_refl _, hI, ho, .inl rfl, dis1, dis2, r4⟩
   rintro k s ⟨i, acc, m', σ', o, rfl, hin, hacc, hI, ho, hm', hL', d', r'⟩
   have fI := Zwf d'
   have fD := Zhw d'
   have hat := Zcf (p := .raw o) (D := D) (q := .lst acc) fI i2
   have hget : s.heap.get? I = some o := (r'.objs.choose_spec.at_ _ _ hat).2
   have hsub : Sub σ' (Un (Un σ' (fr C m' ψ)) (Yr φ I (.raw o) D (.lst acc))) := fun b o e => Zn (Zn e)
   rcases Nat.lt_or_ge i n with hlt | hge
   · refine it.item i o _ s _ _ hlt ho (iv.mono _ _ (hsrc _ _ _ hI) hsub) r' hget fun v o' h' tk hv ho' hg' hsb => ?_
     have r2 := r'.set (h' := h') (t := tk) (o' := .raw o') hat rfl rfl rfl hsb fun δ _ => hg'
     rw [Zvz fI i2] at r2
     have hu : HOK A (Yr φ I (.raw o') D (.lst acc)) := u₀.sub Zhx
     refine wpAny_mono (Sq (χ := ψ) (p := px) (v := v) (m := m') (Q := fun _ m₂ σ₂ => m₂ = [(x, X i)] /\ σ₂ = σ') FC hkx ⟨by rw [hsmall _ _ hm', hv], rfl⟩ hL' _ (Zch d') hu _ r2) (fun _ s₂ zq => ?_) fun _ _ x => x
     (refine Jp zq ?_; clear zq; intro m₂ σ₂ hL₂ d₂ r₂ zr)
     obtain ⟨em, eσ⟩ := zr
     subst em eσ
     refine wpAny_mono (turn i hlt acc σ₂ hI C _ hCL hCψ hL₂ _ d₂ hu _ r₂) (fun ok s₃ zq => ?_) fun _ _ x => x
     (refine Xc zq ?_; clear zq; intro σ₃ hL₃ d₃ r₃ zr)
     obtain ⟨q1, q2⟩ := zr
     cases ok with
     | true =>
       simp only [if_true]
       refine wpAny_mono (q1 rfl hL₃ _ d₃ hu _ r₃) (fun y s₄ zq => ?_) fun _ _ x => x
       (refine Xc zq ?_; clear zq; intro σ₄ hL₄ d₄ r₄ zr)
       obtain ⟨σ₅, hs₅, hI₅⟩ := zr
       have gD := Zhw d₄
       have atD := Zcg (I := I) (p := .raw o') (q := .lst acc) gD d2 hDI
       refine Zx (r₄.isL (.inl atD)) fun items c h1 h2 => ?_
       refine call_meets PySem.F.slot_list_append ⟨_, h1, rfl⟩ PySem.F.entry_list_append (PySem.F.args_list_append_2 _ _) (list_append D items c y (Xk h2 ▸ Nat.le_trans (Nat.le_trans hacc hin) hsz)) ⟨h1, ?_⟩
       have r5 := r₄.set (t := s₄.toks) (o' := .lst (acc ++ [er y])) atD rfl rfl rfl (Ua (f := (·.push y)) h1).1 fun δ _ => ⟨_, _, (Ua (f := (·.push y)) h1).2, by rw [Zbs, h2]⟩
       rw [Zwa gD d2 hDI] at r5
       exact ⟨n + 1 - (i + 1), by exact Qo (L2 (N4 _ _ _ _) V0 1 (.a nA (.a nC kI)) (.a nD kI) (Zj (@Wb (n + 1) (i + 1) (gl (L1 (N2 _ _) V0 1 nA nB (nl hin) (.a nA kI) (.a nB kI) rfl)))) 1 (.a nD kI) (.a nB nC) (Zl (@Wb (n + 1) i (gl (L1 (N2 _ _) V0 1 nA nB (nl hin) nA (.a nB kI) rfl)))) (.a nA kI) nB rfl), i + 1, acc ++ [er y], _, σ₅, o', rfl, hlt, by simp; assumption, hI₅, ho', .inr ⟨_, rfl⟩, hL₄.sub hs₅, Zch (d₄.sub (hs₅.un hL₄)), r5.sub ((hs₅.un hL₄).un (Zch d₄))⟩
     | false =>
       simp only [Bool.false_eq_true, if_false]
       refine Zb (q2 rfl) fun σ₅ hs₅ hI₅ => ?_
       exact ⟨n + 1 - (i + 1), by exact Qo (L2 (N4 _ _ _ _) V0 1 (.a nA (.a nC kI)) (.a nD kI) (Zj (@Wb (n + 1) (i + 1) (gl (L1 (N2 _ _) V0 1 nA nB (nl hin) (.a nA kI) (.a nB kI) rfl)))) 1 (.a nD kI) (.a nB nC) (Zl (@Wb (n + 1) i (gl (L1 (N2 _ _) V0 1 nA nB (nl hin) nA (.a nB kI) rfl)))) (.a nA kI) nB rfl), i + 1, acc, _, σ₅, o', rfl, hlt, by exact Nat.le_succ_of_le (by assumption), hI₅, ho', .inr ⟨_, rfl⟩, hL₃.sub hs₅, d₃.sub (hs₅.un hL₃), r₃.sub ((hs₅.un hL₃).un d₃)⟩
   · have hn' : i = n := Nat.le_antisymm hin hge
     subst hn'
     refine it.done o _ s _ _ ho (iv.mono _ _ (hsrc _ _ _ hI) hsub) ((u₀.sub Zhx).sub (fun b o e => Up d' e)) r' hget fun h' tk hx' => ?_
     have hsubE := Zwh (p := .raw o) (q := .lst acc) fD d2 fI i2 hDI
     have hψD : ψ D = none := ψn _ d1
     have hd1 : Dis (upd σ' D (.lst acc)) (fr C m' ψ) := fun b => by
       by_cases z : b = D
       · subst z; refine .inr ?_; unfold fr; rw [if_neg (Ne.symm hCD)]; exact hψD
       · rw [Zz z]; exact hL' b
     have hnoI : Un (Un (upd σ' D (.lst acc)) (fr C m' ψ)) φ I = none := by
       unfold Un at fI ⊢; rw [Zz (Ne.symm hDI), fI, i2]; rfl
     have hd2 : Dis (Un (upd σ' D (.lst acc)) (fr C m' ψ)) φ := fun b => by
       by_cases z : b = D
       · subst z; exact .inr d2
       · have e : Un (upd σ' D (.lst acc)) (fr C m' ψ) b = Un σ' (fr C m' ψ) b := by unfold Un; rw [Zz z]
         rw [e]; exact Zwd d' b
     refine fin D C m' acc σ' _ hI (Ye fD) hψD hCL hCψ c2 hd1 hd2 ?_
     exact r'.drop hsubE hat rfl hnoI (c := C) (y := .ns m') (Zn (Up hd1 Wo)) rfl hx'
 exact codeAny_compStart_list (loop _ rfl) (it.self 0 o _ _ _ ho (by
   have := (r4.objs.choose_spec.at_ _ _ (Zcf (p := .raw o) (D := D) (q := .lst []) (by unfold Un; rw [Ye i1, hfI]; rfl) i2)).2
   exact this) (loop _ rfl))
theorem Zia {m' : Zc} {t : Nat} {h' : Heap} (hψ : ψ L = some (.ns m)) (hLC : L ≠ C) (hCψ : ∀ b o, ψ b = some o -> b ≠ C) (hφ : φ C = none) (d1 : Dis σ (fr C m' ψ)) (d2 : Dis (Un σ (fr C m' ψ)) φ) (r : Rep B (Un (Un σ (fr C m' ψ)) φ) s) (hs : Heap.SameBut C s.heap h') :
   Dis σ ψ /\ Dis (Un σ ψ) φ /\ Rep B (Un (Un σ ψ) φ) { s with heap := h', toks := t } := by
 have hC : ψ C = none := by
   cases z : ψ C with
   | none => rfl
   | some o => exact absurd rfl (hCψ _ _ z)
 have e1 : Dis σ ψ := fun b => by
   by_cases z : b = C
   · subst z; exact .inr hC
   · exact (d1 b).imp (fun h => h) fun h => by unfold fr at h; rw [if_neg z] at h; exact h
 have sub : Sub (Un σ ψ) (Un σ (fr C m' ψ)) := fun b o e => by
   unfold Un at e ⊢
   cases y : σ b with
   | some w => rw [y] at e; exact e
   | none =>
     rw [y] at e
     have e' : ψ b = some o := e
     show fr C m' ψ b = some o
     unfold fr; rw [if_neg (hCψ _ _ e')]; exact e'
 have hσC : σ C = none := d1.off Wo
 refine Xx e1 (d2.sub sub) (r.drop (sub.un d2) (Zn (Up d1 Wo)) rfl ?_ (c := L) (y := .ns m) (Zn (Up e1 hψ)) rfl hs.extBut)
 unfold Un; rw [hσC, hC, hφ]; rfl
theorem Zwk {elt iter : Expr} {x : Str} {px : Pos} {ifs : List Expr} {scope : Scope} {cl : List (Str × Addr)} {pos : Pos} {Q : Value -> St -> Prop}
  (F : FnEnv env) (hψ : ψ env.locals = some (.ns m)) (hclos : closureFor scope env = pure cl) (hcell : ∀ y ∈ scope.names, y.2 ≠ .cell) (hkind : scope.kind = .function) (hnames : ∀ y ∈ scope.names, y.2 = .local -> scope.names.lookup y.1 = some .local) (hx : scope.names.lookup x = some .local)
  (h : JE B A env ψ iter (fun v σ₁ => ∃ n X src, IterV B A v σ₁ n X src /\ n <= sizeLine /\ ∃ Inv : Nat -> List Value -> St -> Prop, Inv 0 [] σ₁ /\ (∀ i acc σ', Inv i acc σ' -> src σ') /\ (∀ i, i < n -> Su B A env ψ scope cl x ifs elt X Inv i) /\
   ∀ acc σ', Inv n acc σ' -> ∀ D, σ' D = none -> Q (.ref D) (upd σ' D (.lst acc))) E σ)
  (hs : ∀ x, foldedSetIterable iter env x = pure x) : JE B A env ψ (.ListComp elt [⟨.Name x px, iter, ifs, 0⟩] scope pos) Q E σ := fun hL φ d u₀ s r => by
 rw [eval_ListComp]
 refine wpAny_comprehension_free (use := none) rfl hs hclos hkind hnames (wpAny_mono (h hL φ d u₀ s r) (fun u s₁ zq => ?_) fun _ _ e => e)
 (refine Xc zq ?_; clear zq; intro σ₁ hL₁ d₁ r₁ zr)
 obtain ⟨n, X, src, iv, hsz, Inv, hi, hsrc, turn, fin⟩ := zr
 refine Zhz F hψ hcell hkind hx iv hsz hL₁ d₁ u₀ r₁ rfl Inv hi hsrc turn fun D C m' acc σ' s' hI hD hψD hCL hCψ hφC hd1 hd2 r' => ?_
 refine Zb (r'.ns (Zn (Up hd1 Wo))) fun m'' hn _ => ?_
 refine Zp m'' hn (fun h' hs' => ?_)
 refine Xo (Zia (t := s'.toks) hψ (Ne.symm hCL) hCψ hφC hd1 hd2 r' hs') fun e1 e2 e3 => ?_
 exact ⟨_, e2, e3, _, e1, rfl, fin _ _ hI _ hD⟩
theorem Zib {m' : Zc} (h : C ≠ L) : fr C m' (fr L m χ) = fr L m (fr C m' χ) := by
 funext b
 unfold fr
 by_cases z : b = C
 · subst z; rw [if_pos rfl, if_neg h, if_pos rfl]
 · rw [if_neg z, if_neg z]
theorem Zwl {elt iter : Expr} {x y : Str} {px p p' : Pos} {ifs : List Expr} {scope : Scope} {cl : List (Str × Addr)} {pos : Pos} {rest : List Stmt} {Q : Flow -> Zc -> St -> Prop}
   (F : FnEnv env) (hclos : closureFor scope env = pure cl) (hcell : ∀ y ∈ scope.names, y.2 ≠ .cell) (hkind : scope.kind = .function) (hnames : ∀ y ∈ scope.names, y.2 = .local -> scope.names.lookup y.1 = some .local) (hx : scope.names.lookup x = some .local)
   (hy : env.kindOf y = some .local)
   (h : JE B A env (fr env.locals m χ) iter (fun v σ₁ => ∃ n X src, IterV B A v σ₁ n X src /\ n <= sizeLine /\ ∃ Inv : Nat -> List Value -> St -> Prop, Inv 0 [] σ₁ /\ (∀ i acc σ', Inv i acc σ' -> src σ') /\ (∀ i, i < n -> Su B A env (fr env.locals m χ) scope cl x ifs elt X Inv i) /\
     ∀ acc σ', Inv n acc σ' -> ∀ D, σ' D = none -> JX B A env χ (execs rest env) Q E (Ym y (.ref D) m) (upd σ' D (.lst acc))) E σ)
   (hs : ∀ x, foldedSetIterable iter env x = pure x) (hw : swapsWith (.ListComp elt [⟨.Name x px, iter, ifs, 0⟩] scope pos) (some (.Name y p')) p.line env = pure true) :
   JX B A env χ (execs (.Assign [.Name y p'] (.ListComp elt [⟨.Name x px, iter, ifs, 0⟩] scope pos) p :: rest) env) Q E m σ :=
 Od fun hL φ d u₀ s r => by
   rw [exec_Assign_Name_used _ _ _ _ hw]
   refine wpAny_bind (wpAny_standAt (wpAny_bind ?_))
   unfold evalThenUse
   refine wpAny_bind ?_
   refine wpAny_comprehension_free (use := some _) rfl hs hclos hkind hnames (wpAny_mono (h hL φ d u₀ s r) (fun u s₁ zq => ?_) fun _ _ e => e)
   (refine Xc zq ?_; clear zq; intro σ₁ hL₁ d₁ r₁ zr)
   obtain ⟨n, X, src, iv, hsz, Inv, hi, hsrc, turn, fin⟩ := zr
   refine Zhz F Wo hcell hkind hx iv hsz hL₁ d₁ u₀ r₁ rfl Inv hi hsrc turn fun D C m' acc σ' s' hI hD hψD hCL hCψ hφC hd1 hd2 r' => ?_
   rw [Zib hCL] at hd1 hd2 r'
   refine wpAny_mono (Sq (χ := fr C m' χ) (p := p') (v := .ref D) (m := m) (Q := fun _ m₂ σ₂ => m₂ = Ym y (.ref D) m /\ σ₂ = upd σ' D (.lst acc)) F hy ⟨rfl, rfl⟩ hd1 _ hd2 u₀ _ r') (fun _ s₂ zq => ?_) fun _ _ x => x
   (refine Jp zq ?_; clear zq; intro m₂ σ₂ hL₂ d₂ r₂ zr)
   obtain ⟨em, eσ⟩ := zr
   subst em eσ
   rw [<- Zib hCL] at hL₂ d₂ r₂
   have hCψ' : ∀ b o, fr env.locals (Ym y (.ref D) m) χ b = some o -> b ≠ C := fun b o e => by
     by_cases z : b = env.locals
     · exact z ▸ Ne.symm hCL
     · unfold fr at e; rw [if_neg z] at e
       exact hCψ b o (by unfold fr; rw [if_neg z]; exact e)
   refine Zb (r₂.ns (Zn (Up hL₂ Wo))) fun m'' hn _ => ?_
   refine Zp m'' hn (fun h' hs' => ?_)
   refine Xo (Zia (t := s₂.toks) Wo (Ne.symm hCL) hCψ' hφC hL₂ d₂ r₂ hs') fun e1 e2 e3 => ?_
   exact wpAny_pure (wpAny_pure ⟨_, e2, e3, _, _, e1, rfl, fin _ _ hI _ hD⟩)
end
end Mine
end
noncomputable section
namespace Mine
section
variable {α β γ δ : Type} {B : Bgd} {A : Around} {E : Value -> Shared -> Prop} {σ τ φ ψ χ ζ : St} {env : Env} {L a b C D I : Addr} {m : Zc} {xs ys : List Value} {s : Shared} {o o' : Obj} {p q : AO}
theorem Rep.many {h' : Heap} {t : Nat} (r : Rep B σ s) (k : ∀ b o, s.heap.get? b = some o -> h'.get? b = some o) (hz : ∀ b o, ζ b = some o -> s.heap.objs.size <= b /\ Kw o = false /\ ∀ δ, RepO B.w h' δ b o) (hsz : s.heap.objs.size <= h'.objs.size) :
   Rep B (Un σ ζ) { s with heap := h', toks := t } := by
 have hB := r.size
 have hlt := fun b o (e : σ b = some o) => r.lt e
 obtain ⟨h1, h2, h3, h4, δ, k1, k2, k3⟩ := r
 have un : ∀ b C fs, Un σ ζ b = some (.inst C fs) -> σ b = some (.inst C fs) := fun b C fs q => by
   unfold Un at q
   cases y : σ b with
   | some o => rw [y] at q; exact q
   | none =>
     rw [y] at q
     have := (hz b _ q).2.1; exact Xf this
 refine ⟨fun b o q => k _ _ (h1 b o q), Nat.le_trans h2 hsz, h3, h4, δ, fun b ob q => ?_, fun b C fs q => ⟨(k2 b C fs (un _ _ _ q)).1, ?_⟩, fun b C fs b' C' fs' q q' => k3 b C fs b' C' fs' (un _ _ _ q) (un _ _ _ q')⟩
 · unfold Un at q
   cases y : σ b with
   | some o => rw [y] at q; (replace q := sI q; subst q); exact ⟨(k1 b _ y).1, (k1 b _ y).2.keep k⟩
   | none =>
     rw [y] at q
     refine Xo (hz b _ q) fun q1 q2 q3 => ?_
     exact ⟨fun _ => Nat.le_trans hB q1, q3 δ⟩
 · have e := un _ _ _ q
   have hd := Heap.lt_size (k1 b _ e).2.dthere.choose_spec
   unfold Un; rw [(k2 b C fs e).2]
   cases y : ζ (δ b) with
   | none => rfl
   | some o => exact absurd (hz _ _ y).1 (Nat.not_le.mpr hd)
theorem Zwm {x : Str} {c : Addr} {v : Value} {Q : Value -> St -> Prop} (F : FnEnv env) (hk : env.kindOf x = some .cell) (hc : env.cells.lookup x = some c) (hm : σ c = some (.cell (some v))) (h : Q v σ) : wA B A er (loadName env x) Q E σ := fun φ d u s r => by
 refine Xp ((r.objs.choose_spec.at_ _ _ (Zn hm)).2) fun o v' h1 h2 h3 => ?_
 (refine Zb (Tb h3) ?_; rintro w rfl hw)
 exact wpAny_loadName_cell F.kind hk hc ⟨o, h1, h2⟩ ⟨σ, d, r, hw ▸ h⟩
theorem Zic {x : Str} {p : Pos} {c : Addr} {v : Value} {Q : Value -> St -> Prop} (F : FnEnv env) (hk : env.kindOf x = some .cell) (hc : env.cells.lookup x = some c) (hm : ψ c = some (.cell (some v))) (hd : (x == ("__debug__" : Str)) = false) (h : Q v σ) :
 JE B A env ψ (.Name x p) Q E σ := fun hL => Zbp hd (Zwm F hk hc (Gc hL hm) ⟨σ, hL, rfl, h⟩)
noncomputable def Uw (cs : List (Str × Addr)) : List (Str × NameKind) -> List (Str × Addr) -> List (Str × Addr)
 | [], acc => acc
 | (n, k) :: r, acc => if (k == .free) = true then Uw cs r ((n, (cs.lookup n).getD 0) :: acc) else Uw cs r acc
theorem Zwn (names : List (Str × NameKind)) : ∀ acc, (∀ y ∈ names, y.2 = .free -> (env.cells.lookup y.1).isSome = true) ->
   (forIn names acc fun (y : Str × NameKind) (cs : List (Str × Addr)) => (if (y.2 == .free) = true then do let a <- cellOf env y.1; pure (ForInStep.yield ((y.1, a) :: cs)) else pure (ForInStep.yield cs) : Sem _)) = pure (Uw env.cells names acc) := by
 induction names with
 | nil => intro acc _; rfl
 | cons y r ih =>
   intro acc h
   obtain ⟨n, k⟩ := y
   rw [List.forIn_cons]
   have hr := fun acc => ih acc fun y hy => h y (List.mem_cons_of_mem _ hy)
   unfold Uw
   by_cases hk : (k == NameKind.free) = true
   · have := h (n, k) List.mem_cons_self (by simpa using hk)
     refine Xg (Option.isSome_iff_exists.mp this) fun c hc => ?_
     have e : cellOf env n = pure c := by unfold cellOf; rw [show env.cells.lookup n = some c from hc]
     simp only [hk, if_true]
     rw [e, show env.cells.lookup n = some c from hc]
     exact hr _
   · simp only [hk, if_false]
     exact hr _
theorem Zwo {scope : Scope} (h : ∀ y ∈ scope.names, y.2 = .free -> (env.cells.lookup y.1).isSome = true) : closureFor scope env = pure (Uw env.cells scope.names []) := by
 unfold closureFor
 have := Zwn (env := env) scope.names [] h
 first | exact this | (rw [this]; rfl) | (simp only [bind_pure]; exact this)
theorem Sv {cs : List (Str × Addr)} {x : Str} {c : Addr} (hc : cs.lookup x = some c) : ∀ (names : List (Str × NameKind)) (acc : List (Str × Addr)), acc.lookup x = some c \/ (acc.lookup x = none /\ (x, NameKind.free) ∈ names) -> (Uw cs names acc).lookup x = some c
 | [], acc, h => h.elim (fun h => h) fun h => absurd h.2 (by simp)
 | (n, k) :: r, acc, h => by
   unfold Uw
   by_cases hk : (k == NameKind.free) = true
   · rw [if_pos hk]
     refine Sv hc r _ ?_
     by_cases hx : x = n
     · subst hx; left; simp [hc]
     · have hl : ((n, (cs.lookup n).getD 0) :: acc).lookup x = acc.lookup x := by simp [List.lookup_cons, beq_eq_false_iff_ne.mpr hx]
       rw [hl]
       refine h.imp (fun h => h) fun ⟨h1, h2⟩ => ⟨h1, ?_⟩
       rcases List.mem_cons.mp h2 with e | e
       · (injection e with e; subst e); exact absurd rfl hx
       · exact e
   · rw [if_neg hk]
     refine Sv hc r _ (h.imp (fun h => h) fun ⟨h1, h2⟩ => ⟨h1, ?_⟩)
     rcases List.mem_cons.mp h2 with e | e
     · cases e; exact absurd rfl hk
     · exact e
theorem Zid {env : Env} (hk : env.scope.kind = .function) : ∀ {names : List (Str × NameKind)} {x : Str} {k : NameKind}, names.lookup x = some k ->
   (names.map fun (n, k) => if (k == NameKind.free && env.scope.kind == .function && env.kindOf n == some .cell) then (n, NameKind.cell) else (n, k)).lookup x = some (if k = .free /\ env.kindOf x = some .cell then .cell else k)
 | [], _, _, h => by simp at h
 | (n, j) :: r, x, k, h => by
   have ih := @Zid env hk r x k
   show List.lookup x ((if (j == NameKind.free && env.scope.kind == .function && env.kindOf n == some .cell) = true then (n, NameKind.cell) else (n, j)) :: _) = _
   cases hx : x == n with
   | true =>
     have e := eq_of_beq hx
     subst e
     simp only [List.lookup_cons, beq_self_eq_true] at h
     (replace h := sI h; subst h)
     rw [hk]
     by_cases h1 : j = NameKind.free /\ env.kindOf x = some .cell
     · rw [if_pos h1, h1.1, h1.2]; simp
     · rw [if_neg h1]
       have : ¬ ((j == NameKind.free && (ScopeKind.function == ScopeKind.function) && env.kindOf x == some .cell) = true) := by simpa using h1
       rw [if_neg this]; simp
   | false =>
     simp only [List.lookup_cons, hx] at h
     split <;> (simp only [List.lookup_cons, hx]; exact ih h)
noncomputable def Uc (k : Str -> Option NameKind) : List (Str × Value) -> Zc -> Zc
 | [], ml => ml
 | (n, v) :: r, ml => Uc k r (if k n = some .local then (n, er v) :: ml else ml)
noncomputable def Xq (k : Str -> Option NameKind) : List (Str × Value) -> Zc -> Zc
 | [], ml => ml
 | (n, v) :: r, ml => Xq k r (if k n = some .local then ml else (n, er v) :: ml)
theorem Zie (k : Str -> Option NameKind) : ∀ (bs : List (Str × Value)) (m : Str -> Option Value) (ml : Zc), (∀ x, (m x).map er = ml.lookup x) -> ∀ x, (bindL k bs m x).map er = (Uc k bs ml).lookup x
 | [], m, ml, h, x => h x
 | (n, v) :: r, m, ml, h, x => by
   unfold bindL Uc
   refine Zie k r _ _ (fun y => ?_) x
   by_cases hk : k n = some .local
   · rw [if_pos hk, if_pos hk]
     by_cases hy : y = n
     · subst hy; simp
     · rw [if_neg hy]; simp only [List.lookup_cons, beq_eq_false_iff_ne.mpr hy]; exact h y
   · rw [if_neg hk, if_neg hk]; exact h y
theorem Zif (k : Str -> Option NameKind) : ∀ (bs : List (Str × Value)) (m : Str -> Option Value) (ml : Zc), (∀ x, (m x).map er = ml.lookup x) -> ∀ x, (bindC k bs m x).map er = (Xq k bs ml).lookup x
 | [], m, ml, h, x => h x
 | (n, v) :: r, m, ml, h, x => by
   unfold bindC Xq
   refine Zif k r _ _ (fun y => ?_) x
   by_cases hk : k n = some .local
   · rw [if_pos hk, if_pos hk]; exact h y
   · rw [if_neg hk, if_neg hk]
     by_cases hy : y = n
     · subst hy; simp
     · rw [if_neg hy]; simp only [List.lookup_cons, beq_eq_false_iff_ne.mpr hy]; exact h y
theorem Sw {x : Str} : ∀ (names : List (Str × NameKind)) (n : Nat) (acc : List (Str × Addr)), (acc.lookup x).isSome = true \/ (x, NameKind.cell) ∈ names -> ((cellsFrom n names acc).lookup x).isSome = true
 | [], _, _, h => h.elim (fun h => h) fun h => absurd h (by simp)
 | (y, k) :: r, n, acc, h => by
   unfold cellsFrom
   by_cases hk : (k == NameKind.cell) = true
   · rw [if_pos hk]
     refine Sw r _ _ ?_
     by_cases hx : x = y
     · subst hx; left; simp
     · have hl : ((y, n) :: acc).lookup x = acc.lookup x := by simp [List.lookup_cons, beq_eq_false_iff_ne.mpr hx]
       rw [hl]
       refine h.imp (fun h => h) fun h => ?_
       rcases List.mem_cons.mp h with e | e
       · (injection e with e; subst e); exact absurd rfl hx
       · exact e
   · rw [if_neg hk]
     refine Sw r _ _ (h.imp (fun h => h) fun h => ?_)
     rcases List.mem_cons.mp h with e | e
     · cases e; exact absurd rfl hk
     · exact e
noncomputable def Ud (cs : List (Str × Addr)) (cm : Zc) : St := fun c => match cs.find? (fun p => p.2 == c && cs.lookup p.1 == some c) with
 | some p => some (.cell (cm.lookup p.1))
 | none => none
theorem Zwp {cs : List (Str × Addr)} {cm : Zc} {n : Str} {c : Addr} (ap : cs.Pairwise fun x y => x.2 ≠ y.2) (h : cs.lookup n = some c) : Ud cs cm c = some (.cell (cm.lookup n)) := by
 unfold Ud
 have hm := mem_of_lookup h
 cases y : cs.find? (fun p => p.2 == c && cs.lookup p.1 == some c) with
 | none =>
  have := List.find?_eq_none.mp y _ hm
  simp [h] at this
 | some p =>
  have h1 := List.find?_some y
  have h2 := List.mem_of_find?_eq_some y
  simp only [Bool.and_eq_true, beq_iff_eq] at h1
  have : p.1 = n := name_of_addr ap (c := c) (by obtain ⟨p1, p2⟩ := p; simp only at h1; rw [<- h1.1]; exact h2) hm
  rw [<- this]
theorem Zig {cs : List (Str × Addr)} {cm : Zc} {c : Addr} {o : AO} (h : Ud cs cm c = some o) : ∃ n, cs.lookup n = some c /\ o = .cell (cm.lookup n) := by
 unfold Ud at h
 cases y : cs.find? (fun p => p.2 == c && cs.lookup p.1 == some c) with
 | none => rw [y] at h; exact Zk h
 | some p =>
  rw [y] at h; (replace h := sI h; subst h)
  have h1 := List.find?_some y
  simp only [Bool.and_eq_true, beq_iff_eq] at h1
  exact Zp p.1 h1.2 rfl
noncomputable abbrev kO (st : Stmt) : Str -> Option NameKind := fun x => (Zi st).names.lookup x
theorem Zwq {k : Nat} {f cd : Addr} {n q pm : Str} {st : Stmt} {dV : Value} {t : Tok} {us : List Value} {Q : Value -> St -> Prop} (O : B.Ok) (R : Room A (k + 1)) (hK : ∀ P : Params, (K P).lookup f = some (fo n q st dV pm t cd)) (hc : (cd, q) ∈ codes)
   (binds : List (Str × Value)) (b1 : bindArgs (fnX n q (Xy st) (Yl st) (Zi st) [] dV .none .none (.str pm t) none (.ref cd) .none) ⟨us, []⟩ = pure binds)
   (b2 : ∀ y ∈ binds, (Zi st).names.lookup y.1 = some .local \/ (Zi st).names.lookup y.1 = some .cell)
   (b3 : ∀ (E : Value -> Shared -> Prop) (L : Addr) (χ : St) (env : Env), FnEnv env -> env.scope = Zi st -> env.locals = L -> (∀ n c, env.cells.lookup n = some c -> χ c = some (.cell ((Xq (kO st) binds []).lookup n))) -> (∀ n, (n, NameKind.cell) ∈ (Zi st).names -> (env.cells.lookup n).isSome = true) -> (∀ n c, env.cells.lookup n = some c -> c ≠ L) ->
     (∀ b o, χ b = some o -> σ b = none) -> σ L = none -> JS B (A.deeper env) L χ Rr (execs (Yl st) env) (fun fl m' τ => ∃ σc, Wk σc τ /\ Q (Te fl) σc) E (Uc (kO st) binds []) σ)
   (hco : (Zi st).isCoroutine = false) (hgen : (Zi st).isGenerator = false) (hk : (Zi st).kind = .function) : wC B A (.ref f) us Q E σ := by
 intro φ d u s r
 have X := O.k.keeps r.keep
 refine codeAny_call_cells (fd := fnX n q (Xy st) (Yl st) (Zi st) [] dV .none .none (.str pm t) none (.ref cd) .none) (body := Yl st) (binds := binds) R.lim (X _ _ (hK _)) rfl (O.nolimit.keeps r.keep) ((O.code _ hc).keeps r.keep) rfl b1 rfl (fun y hy => (b2 y hy).imp (fun h => h) fun h => ⟨h, Sw _ _ _ (.inr (mem_of_lookup h))⟩) (fun s₁ x => ?_) hco hgen hk
 generalize he : callEnvC (fnX n q (Xy st) (Yl st) (Zi st) [] dV .none .none (.str pm t) none (.ref cd) .none) s.heap.objs.size f = env at x ⊢
 have hsc : env.scope = Zi st := by rw [<- he]; rfl
 have hL : env.locals = s.heap.objs.size := by rw [<- he]; rfl
 have hce : env.cells = cellsFrom (s.heap.objs.size + 1) (Zi st).names [] := by rw [<- he]; rfl
 have F : FnEnv env := ⟨by rw [hsc]; exact hk, by rw [<- he]; rfl, by rw [<- he]; rfl⟩
 have hko : env.kindOf = kO st := by rw [<- he]; rfl
 rw [hko] at x
 (refine Ks x.toInCall.same ?_; rintro h' tk rfl)
 have hns := Zie (kO st) binds (fun _ => none) [] (fun _ => rfl)
 have hcs := Zif (kO st) binds (fun _ => none) [] (fun _ => rfl)
 have hLn : Un σ φ s.heap.objs.size = none := r.size_none
 have ap := x.apart
 have hζ : ∀ b o, fr env.locals (Uc (kO st) binds []) (Ud env.cells (Xq (kO st) binds [])) b = some o -> s.heap.objs.size <= b /\ Kw o = false /\ ∀ δ, RepO B.w h' δ b o := fun b o e => by
   unfold fr at e
   by_cases z : b = env.locals
   · rw [if_pos z] at e; (replace e := sI e; subst e)
     refine Xx (by rw [z]; exact x.toInCall.fresh) rfl (fun δ => ⟨_, by rw [z]; exact x.toInCall.ns, hns⟩)
   · rw [if_neg z] at e
     (refine Zb (Zig e) ?_; rintro n h1 rfl)
     refine Zb (x.cell n b h1) fun o' h2 h3 => ?_
     exact Xx (Nat.le_trans x.toInCall.fresh (Nat.le_of_lt (x.above n b (mem_of_lookup h1)))) rfl (fun δ => ⟨o', _, h2, h3, hcs n⟩)
 have hlt : s.heap.objs.size <= h'.objs.size := Nat.le_trans x.toInCall.fresh (Nat.le_of_lt x.toInCall.ns.lt)
 have r' := r.many (t := tk) x.toInCall.keep hζ hlt
 have off : ∀ b o, fr env.locals (Uc (kO st) binds []) (Ud env.cells (Xq (kO st) binds [])) b = some o -> Un σ φ b = none := fun b o e => by
   cases z : Un σ φ b with
   | none => rfl
   | some o' => exact absurd (hζ b o e).1 (Nat.not_le.mpr (r.lt z))
 have hD : Dis σ (fr env.locals (Uc (kO st) binds []) (Ud env.cells (Xq (kO st) binds []))) := fun b => by
   cases z : fr env.locals (Uc (kO st) binds []) (Ud env.cells (Xq (kO st) binds [])) b with
   | none => exact .inr rfl
   | some o => exact .inl (Ye (off b o z))
 have esw : Un (Un σ φ) (fr env.locals (Uc (kO st) binds []) (Ud env.cells (Xq (kO st) binds []))) = Un (Un σ (fr env.locals (Uc (kO st) binds []) (Ud env.cells (Xq (kO st) binds [])))) φ := by
   funext b
   unfold Un
   cases y : σ b with
   | some o => rfl
   | none =>
     cases z : fr env.locals (Uc (kO st) binds []) (Ud env.cells (Xq (kO st) binds [])) b with
     | none => cases φ b <;> rfl
     | some o =>
       have := off b o z
       unfold Un at this; rw [y] at this
       have e' : φ b = none := this
       rw [e']; rfl
 rw [esw] at r'
 have d' : Dis (Un σ (fr env.locals (Uc (kO st) binds []) (Ud env.cells (Xq (kO st) binds [])))) φ := fun b => by
   cases z : fr env.locals (Uc (kO st) binds []) (Ud env.cells (Xq (kO st) binds [])) b with
   | none => exact (d b).imp (fun h => by unfold Un; rw [h, z]; rfl) fun h => h
   | some o =>
     have := off b o z
     have h1 := Ye this
     unfold Un at this; rw [h1] at this
     exact .inr this
 have hχ : ∀ b o, Ud env.cells (Xq (kO st) binds []) b = some o -> σ b = none := fun b o e => by
   refine Zb (Zig e) fun n h1 _ => ?_
   have ne : b ≠ env.locals := Nat.ne_of_gt (x.above n b (mem_of_lookup h1))
   exact Ye (off b o (by unfold fr; rw [if_neg ne]; exact e))
 refine wpAny_mono (b3 _ env.locals (Ud env.cells (Xq (kO st) binds [])) env F hsc rfl (fun n c e => Zwp ap e) (fun n hn => by rw [hce]; exact Sw _ _ _ (.inr hn)) (fun n c e => Nat.ne_of_gt (x.above n c (mem_of_lookup e))) hχ (by rw [hL]; exact Ye hLn) hD φ d' u _ r') (fun fl s' zq => ?_) fun _ _ x => x
 (refine Jp zq ?_; clear zq; intro m' σ' hL' d₂ r₂ zr)
 obtain ⟨σc, hs, hq⟩ := zr
 have sub : Wk σc (Un σ' (fr env.locals m' (Ud env.cells (Xq (kO st) binds [])))) := fun b o e => let ⟨p, h1, h2⟩ := hs b o e; ⟨p, Zn h1, h2⟩
 exact ⟨σc, d₂.weak sub, r₂.weak (sub.un d₂), by cases fl <;> exact hq⟩
end
end Mine
end
noncomputable section
namespace Mine
section
variable {α β γ δ : Type} {B : Bgd} {A : Around} {E : Value -> Shared -> Prop} {σ τ φ ψ χ ζ : St} {env : Env} {L a b C D I : Addr} {m : Zc} {xs ys : List Value} {s : Shared} {o o' : Obj} {p q : AO}
theorem Zwr {n : Int} {Q : Value -> St -> Prop} (q : ∀ a t u v, σ a = none -> Q (.ref a) (upd σ a (.raw (Gr 0 n t u v)))) : Zv B A ψ (.type "range") [] [Mine.I n] Q E σ := fun us hus => J.lift fun φ d u₀ s r => by
 (refine Zb (Xl hus) ?_; rintro u rfl hu)
 obtain ⟨t, rfl⟩ := Ku hu
 rw [List.nil_append]
 refine call_range_1 ⟨upd σ s.heap.objs.size (.raw (Gr 0 n s.toks t (s.toks + 1))), d.upd_new r.size_none _, ?_, q _ _ _ _ (Ye r.size_none)⟩
 rw [<- Xz]
 exact r.push rfl fun δ => Heap.get?_push_size _ rfl
theorem Zws {k n : Int} {Q : Value -> St -> Prop} (q : ∀ a t u v, σ a = none -> Q (.ref a) (upd σ a (.raw (Gr k n t u v)))) : Zv B A ψ (.type "range") [] [Mine.I k, Mine.I n] Q E σ := fun us hus => J.lift fun φ d u₀ s r => by
 (refine Xp (Jr hus) ?_; rintro u v rfl hu hv)
 obtain ⟨t, rfl⟩ := Ku hu
 obtain ⟨t', rfl⟩ := Ku hv
 rw [List.nil_append]
 refine call_range_2 ⟨upd σ s.heap.objs.size (.raw (Gr k n t t' s.toks)), d.upd_new r.size_none _, ?_, q _ _ _ _ (Ye r.size_none)⟩
 rw [<- Xz]
 exact r.push rfl fun δ => Heap.get?_push_size _ rfl
end
end Mine
end
namespace Mine.Ab
noncomputable def NT : List String := ["code", "codes", "table", "found", "is_inside", "append", "kind_of", "self", "is_folded", "buffer", "place", "at", "own", "code_at", "bound", "start", "fits", "symbol", "data", "has_lower", "has_upper", "has_long", "has_plain", "is_word", "see", "shape", "case", "new", "model", "end", "is_read_only", "name", "low", "high", "begv", "zv", "listener", "listeners", "before_change", "old_length", "touch", "after_change", "gone", "undo", "delete", "point", "text_goes", "text", "insert", "text_comes", "props", "overlays", "text_gone", "many", "before_markers", "text_came", "is_point_behind", "inserted", "markers", "deleted", "replaced", "old", "is_replaced", "finder", "maker", "state", "steps", "look", "is_behind_empty", "next", "made", "last", "put_new", "go_on", "machine", "put_all", "kind", "match", "flags", "join", "flag", "parent", "rows", "description", "syntax", "sign", "get", "modify_all", "opens", "closes", "editor", "current", "values", "message", "pair", "room", "cells", "gap_start", "gap_end", "shift", "moved", "wanted", "lack", "widen_gap", "move_gap", "is_before", "number", "numbers", "marker", "position", "advances", "mark", "is_live", "ticks", "codes_ticks", "saved_ticks", "locals", "file", "size", "are_codes", "order", "last_number", "last_marker", "by_name", "set_current", "remove", "sort", "buffers", "commands", "global_map", "local_maps", "minor_maps", "question_map", "questions", "asker", "kills", "registers", "abbrevs", "windows", "files", "rules", "further", "matches", "loop", "goal", "undoing", "marks", "amalgam", "panes", "modes", "fill_column", "tab_width", "rectangle", "last_expansion", "replacing", "by_number", "script", "cell", "deck", "mixed", "rest", "pop", "least", "most", "signs", "split", "isalnum", "units", "has_small", "begins_small", "has_great", "upper", "word", "islower", "isupper", "isalpha", "folds", "lower", "create", "select", "goto", "due"]
noncomputable def GTf : List (String × Nat) := [("downcase", 28), ("upcase", 35), ("fold", 42), ("is_upper", 49), ("is_lower", 56), ("upcased", 61), ("has_upper", 66), ("initials_upcased", 73), ("case_of", 182), ("cased", 189), ("cased_like", 196), ("need_writable", 231), ("reached", 238), ("tell_ahead", 245), ("tell_behind", 252), ("text_out", 259), ("text_in", 266), ("hung_out", 273), ("hung_in", 280), ("put_in", 287), ("insert_at", 295), ("insert", 303), ("delete", 310), ("replace", 317), ("replaced_all", 457), ("sorted_flags", 511), ("read_syntax", 516), ("letters", 594), ("standard_table", 601), ("text_codes", 606), ("syntax_of", 613), ("pair_of", 620), ("told_many", 627), ("replace_from_point", 634), ("do_replace_string", 641), ("_law_deck", 1227), ("_law_draw", 1234), ("_law_text", 1239), ("_law_units", 1244), ("_law_shaped", 1249), ("_law_done", 1256), ("law", 1261)]
noncomputable def GTc : List (String × Nat) := [("Literal", 104), ("LispSignal", 125), ("Shape", 171), ("Cased", 220), ("Plain", 341), ("Step", 362), ("Replacing", 446), ("Syntax", 502), ("SyntaxTable", 583), ("GapText", 728), ("Markers", 833), ("Buffer", 939), ("BufferTable", 1043), ("Amalgam", 1064), ("Editor", 1218)]
noncomputable def GTb : List (String × Nat) := [("len", 0), ("list", 1), ("range", 2), ("ord", 3), ("abs", 4), ("min", 5), ("max", 6), ("any", 7), ("all", 8), ("sorted", 9), ("str", 10), ("isinstance", 11)]
noncomputable def GTs : List (String × String) := [("ASKING", "asking"), ("DONE", "done"), ("WHITESPACE", " "), ("WORD", "w"), ("PUNCTUATION", "."), ("INHERITS", "@"), ("KINDS", " w_.()'\"\\/$<>@!|"), ("FLAGS", "1234bcnp")]
noncomputable def NTs : List Str := NT.map Str.ofString
noncomputable def Sx (x : Str) : List Str -> Nat -> Option Nat
 | [], _ => none
 | y :: r, i => match x == y with
   | true => some i
   | false => Sx x r (i + 1)
noncomputable def Zw (x : Str) : Option Nat := Sx x NTs 0
noncomputable def Wl {α : Type} (x : Str) : List (String × α) -> Option α
 | [] => none
 | (k, v) :: r => match x == Str.ofString k with
   | true => some v
   | false => Wl x r
noncomputable abbrev Sc := List (Str × NameKind)
noncomputable section
noncomputable def gO {β : Type} (c : Bool) (o : Option β) : Option β := match c with
 | true => o
 | false => none
theorem Zih {β : Type} {c : Bool} {o : Option β} {b : β} (h : gO c o = some b) : c = true /\ o = some b := by cases c <;> first | cases h; done | exact ⟨rfl, h⟩
theorem gE {β : Type} {c : Bool} {o : Option β} {b : β} {C : Prop} (h : gO c o = some b) (k : c = true -> o = some b -> C) : C := k (Zih h).1 (Zih h).2
noncomputable def bO {α β : Type} (o : Option α) (f : α -> Option β) : Option β := match o with
 | some a => f a
 | none => none
theorem Zwt {α β : Type} {o : Option α} {f : α -> Option β} {b : β} (h : bO o f = some b) : ∃ a, o = some a /\ f a = some b := by cases o <;> first | cases h; done | exact ⟨_, rfl, h⟩
theorem bE {α β : Type} {o : Option α} {f : α -> Option β} {b : β} {C : Prop} (h : bO o f = some b) (k : ∀ a, o = some a -> f a = some b -> C) : C := by obtain ⟨a, x, y⟩ := Zwt h; exact k a x y
noncomputable def opN : Operator -> Option Nat
 | .Add => some 0 | .Sub => some 1 | .Mult => some 2 | .FloorDiv => some 3 | .Mod => some 4 | .Pow => some 5
 | _ => none
noncomputable def Kl : CmpOp -> Nat
 | .Eq => 0 | .NotEq => 1 | .Lt => 2 | .LtE => 3 | .Gt => 4 | .GtE => 5 | .Is => 6 | .IsNot => 7 | .In => 8 | .NotIn => 9
noncomputable def Zq {α β : Type} (f : α -> Option β) : List α -> Option (List β)
 | [] => some []
 | a :: r => bO (f a) fun b => bO (Zq f r) fun bs => some (b :: bs)
noncomputable def Km : PySem.Expr -> Bool
 | .Starred .. => true
 | _ => false
noncomputable def Wm : List PySem.Expr -> Bool
 | [] => true
 | x :: r => !Km x && Wm r
noncomputable def Qt : PySem.Expr -> Bool
 | .Set .. => true
 | _ => false
noncomputable def Hd : PySem.Expr -> Bool
 | .ListComp .. | .SetComp .. | .DictComp .. => true
 | _ => false
noncomputable def Wq {α : Type} : List α -> Bool
 | [] => true
 | _ => false
noncomputable def Zwu : PySem.Expr -> Bool
 | .Name .. => true
 | _ => false
noncomputable def To : PySem.Expr -> Bool
 | .Call f as ks _ => Zwu f && Wq as && Wq ks
 | _ => false
noncomputable def Uj (sc : Sc) (x : Str) (k : NameKind) : Bool := match sc.lookup x with
 | some j => decide (j = k)
 | none => false
theorem Ux {sc : Sc} {x : Str} {k : NameKind} (h : Uj sc x k = true) : sc.lookup x = some k := by
 unfold Uj at h
 cases z : sc.lookup x with
 | none => rw [z] at h; cases h
 | some j => rw [z] at h; rw [of_decide_eq_true h]
noncomputable def Qu (sc : Sc) : PySem.Expr -> Option Nat
 | .Name x _ => gO (Uj sc x .local) (Zw x)
 | _ => none
noncomputable def Zii : Const -> Option E
 | .none => some (.lit .none)
 | .bool b => some (.lit (.bool b))
 | .int i => some (.lit (.int i))
 | .str s => some (.lit (.str s.cps.toList))
 | _ => none
noncomputable def Zci (sc : Sc) (x : Str) : Option E := match sc.lookup x with
 | some .local => bO (Zw x) fun i => some (.loc i)
 | some .cell => bO (Zw x) fun i => some (.cel i)
 | some .free => bO (Zw x) fun i => some (.cel i)
 | some .globalImplicit => bO (Wl x GTs) fun l => some (.lit (.str (Str.ofString l).cps.toList))
 | _ => none
noncomputable def Sy (f : PySem.Expr -> Option E) (a : E) (ops : List CmpOp) (rs : List PySem.Expr) : Option E := match ops with
 | [] => none
 | op :: ops => match rs with
   | [] => none
   | r :: rs => gO (!Qt r) <| bO (f r) fun b => match ops with
     | [] => gO (Wq rs) (some (.cmp (Kl op) a b))
     | op2 :: ops => match rs with
       | [] => none
       | r2 :: rs => gO (!Qt r2 && Wq ops && Wq rs) <| bO (f r2) fun c => some (.cmp2 (Kl op) (Kl op2) a b c)
noncomputable def Zwv (op : BoolOp) (a b : E) : E := match op with
 | .And => .and a b
 | .Or => .or a b
noncomputable def cUn (op : UnaryOp) (a : E) : Option E := match op with
 | .Not => some (.not a)
 | .USub => some (.neg a)
 | _ => none
noncomputable def Qg (f : PySem.Expr -> Option E) : Option PySem.Expr -> Option E
 | some e => f e
 | none => some (.lit .none)
noncomputable def Zcj : PySem.Expr -> Bool
 | .Slice .. => true
 | _ => false
noncomputable def Zww (f : PySem.Expr -> Option E) (a : E) (i : PySem.Expr) : Option E := match i with
 | .Slice lo up st _ => match st with
   | none => bO (Qg f lo) fun l => bO (Qg f up) fun u => some (.slc a l u)
   | some _ => none
 | i => bO (f i) fun b => some (.item a b)
noncomputable def Zwx (sc : Sc) (f : PySem.Expr -> Option E) (es : List PySem.Expr) : Option E := match es with
 | [] => none
 | x :: es => match es with
   | [] => none
   | t :: es => gO (Wq es) <| match t with
     | .Name t _ => gO (t == ("str" : Str) && Uj sc t .globalImplicit) <| bO (f x) fun a => some (.isi a)
     | _ => none
noncomputable def Zwy (sc : Sc) (f : PySem.Expr -> Option E) (g : Str) (es : List PySem.Expr) : Option E := gO (Uj sc g .globalImplicit) <| match Wl g GTf with
 | some a => bO (Zq f es) fun as => some (.call a as)
 | none => match Wl g GTc with
   | some a => bO (Zq f es) fun as => some (.make a as)
   | none => bO (Wl g GTb) fun b => match Nat.beq b 11 with
     | true => Zwx sc f es
     | false => bO (Zq f es) fun as => some (.bi b as)
noncomputable def cFn (sc : Sc) (f : PySem.Expr -> Option E) (g : PySem.Expr) (es : List PySem.Expr) (ln : Nat) : Option E := match g with
 | .Attribute o n ap => gO (!To o && Nat.beq ap.endLine ln) <| bO (f o) fun a => bO (Zw n) fun n => bO (Zq f es) fun as => some (.meth a n as)
 | .Name g _ => gO (!(g == ("__debug__" : Str))) (Zwy sc f g es)
 | _ => none
noncomputable def He (sc : Sc) (f : PySem.Expr -> Option E) (it : PySem.Expr) : Option (Bool × E) := match it with
 | .Call g es ks p => match g with
   | .Name g q => match Wl g GTb with
     | some b => match Nat.beq b 2 with
       | true => gO (!(g == ("__debug__" : Str)) && Uj sc g .globalImplicit && Wq ks && Wm es) <| bO (Zq f es) fun as => some (true, .list as)
       | false => bO (f (.Call (.Name g q) es ks p)) fun i => some (false, i)
     | none => bO (f (.Call (.Name g q) es ks p)) fun i => some (false, i)
   | g => bO (f (.Call g es ks p)) fun i => some (false, i)
 | it => bO (f it) fun i => some (false, i)
noncomputable def Qv (sc : Sc) (x : Str) (ns : Sc) : Sc -> Bool
 | [] => true
 | (y, k) :: r => (match k with
   | .local => Uj ns y .local && (y == x || (match Zw y with | none => true | some _ => false))
   | .free => Uj sc y .cell || Uj sc y .free
   | .cell => false
   | _ => true) && Qv sc x ns r
noncomputable def Zij : ScopeKind -> Bool
 | .function => true
 | _ => false
noncomputable def Tp (f : PySem.Expr -> Option E) (ifs : List PySem.Expr) : Option E := match ifs with
 | [] => some (.lit (.bool true))
 | c :: ifs => gO (Wq ifs) (f c)
noncomputable def Zwz (sc : Sc) (f : Sc -> PySem.Expr -> Option E) (elt t it : PySem.Expr) (ifs : List PySem.Expr) (s : Scope) : Option E := match t with
 | .Name x _ => gO (!Qt it && Zij s.kind && Qv sc x s.names s.names && Uj s.names x .local) <| bO (Zw x) fun x => bO (He sc (f sc) it) fun i => bO (f s.names elt) fun a => bO (Tp (f s.names) ifs) fun c => some (.comp x i.1 i.2 a c)
 | _ => none
noncomputable def Zck (sc : Sc) (f : Sc -> PySem.Expr -> Option E) (elt : PySem.Expr) (gs : List Comprehension) (s : Scope) : Option E := match gs with
 | [] => none
 | g :: gs => match g with
   | ⟨t, it, ifs, asy⟩ => gO (Wq gs && decide (asy = 0)) (Zwz sc f elt t it ifs s)
noncomputable def Zf : Nat -> Sc -> PySem.Expr -> Option E
 | 0, _, _ => none
 | k + 1, sc, e => match e with
   | .Constant c _ _ => Zii c
   | .Name x _ => gO (!(x == ("__debug__" : Str))) (Zci sc x)
   | .BinOp l op r _ => bO (opN op) fun o => bO (Zf k sc l) fun a => bO (Zf k sc r) fun b => some (.bin o a b)
   | .Compare l ops rs _ => bO (Zf k sc l) fun a => Sy (Zf k sc) a ops rs
   | .BoolOp op vs p => match vs with
     | [] => none
     | x :: vs => match vs with
       | [] => Zf k sc x
       | y :: vs => bO (Zf k sc x) fun a => bO (Zf k sc (.BoolOp op (y :: vs) p)) fun b => some (Zwv op a b)
   | .UnaryOp op x _ => bO (Zf k sc x) (cUn op)
   | .IfExp t b o _ => bO (Zf k sc t) fun c => bO (Zf k sc b) fun x => bO (Zf k sc o) fun y => some (.ite c x y)
   | .Attribute v n _ => gO (!To v) <| bO (Zf k sc v) fun a => bO (Zw n) fun n => some (.fld a n)
   | .Subscript v i _ => bO (Zf k sc v) fun a => Zww (Zf k sc) a i
   | .List es _ => gO (Wm es) <| bO (Zq (Zf k sc) es) fun as => some (.list as)
   | .Tuple es _ _ => gO (Wm es) <| bO (Zq (Zf k sc) es) fun as => some (.tup as)
   | .Dict ks vs _ => gO (Wq ks && Wq vs) (some .dict0)
   | .Call f es ks p => gO (Wq ks && Wm es && Nat.ble es.length 20) (cFn sc (Zf k sc) f es p.line)
   | .ListComp elt gs s _ => Zck sc (Zf k) elt gs s
   | _ => none
noncomputable def We (line : Nat) : List PySem.Expr -> List Str
 | [] => []
 | t :: r => match t with
   | .Name id pos => match pos.line == line with
     | true => id :: We line r
     | false => We line r
   | _ => We line r
noncomputable def Of (ts : List PySem.Expr) : Nat := (ts.head?.map (·.pos.line)).getD 0
noncomputable def Hf (ts : List PySem.Expr) (v : PySem.Expr) : Option (Option (List Str)) := match v with
 | .Tuple vs _ _ => match !(ts.length == 2 || ts.length == 3) || vs.length != ts.length with
   | true => some none
   | false => match vs.any Km with
     | true => some none
     | false => match (We (Of ts) ts).length != ts.length || (We (Of ts) ts).eraseDups.length != (We (Of ts) ts).length with
       | true => some none
       | false => match vs.all (foldedForSure 8) with
         | true => some none
         | false => match vs.all (constantsAlone 8) with
           | true => none
           | false => some (some (We (Of ts) ts))
 | _ => some none
noncomputable def Jf {α : Type} : Option α -> Bool
 | some _ => true
 | none => false
noncomputable def Zik (sc : Sc) (f : PySem.Expr -> Option E) (t v : PySem.Expr) : Option S := match t with
 | .Name x p => bO (Qu sc (.Name x p)) fun x => bO (f v) fun e => some (.asg x e)
 | .Tuple ts _ _ => gO (!Hd v && Jf (Hf ts v)) <| bO (Zq (Qu sc) ts) fun xs => bO (f v) fun e => some (.asgT xs e)
 | .Attribute o n _ => bO (f o) fun o => bO (Zw n) fun n => bO (f v) fun e => some (.setf o n e)
 | .Subscript o i _ => match i with
   | .Slice lo up st _ => gO (!Jf st && Jf lo && Jf up) <| bO (f o) fun o => bO (Qg f lo) fun l => bO (Qg f up) fun u => bO (f v) fun e => some (.sets o l u e)
   | i => bO (f o) fun o => bO (f i) fun i => bO (f v) fun e => some (.seti o i e)
 | _ => none
noncomputable def Zxa (sc : Sc) (g a : PySem.Expr) (p q : PySem.Expr) : Option E := match g with
 | .Name g _ => gO (g == ("do_replace_string" : Str) && Uj sc g .globalImplicit) <| bO (Qu sc a) fun a => match p with
   | .Constant c _ _ => match c with
     | .str s => gO (Wq s.cps.toList) <| bO (Qu sc q) fun b => some (.call 641 [.loc a, .list [.lit (.str []), .loc b]])
     | _ => none
   | _ => none
 | _ => none
noncomputable def Zxb (sc : Sc) (g a : PySem.Expr) (l : PySem.Expr) : Option E := match l with
 | .List xs _ => match xs with
   | [] => none
   | p :: xs => match xs with
     | [] => none
     | q :: xs => gO (Wq xs) (Zxa sc g a p q)
 | _ => none
noncomputable def Zxc (sc : Sc) (e : PySem.Expr) : Option E := match e with
 | .Call g es ks _ => gO (Wq ks) <| match es with
   | [] => none
   | a :: es => match es with
     | [] => none
     | l :: es => gO (Wq es) (Zxb sc g a l)
 | _ => none
noncomputable def Zxd (sc : Sc) (f : PySem.Expr -> Option E) (h : ExceptHandler) : Option E := match h with
 | .ExceptHandler ty nm b _ => gO (!Jf nm) <| match ty with
   | none => none
   | some ty => match ty with
     | .Name x _ => gO (x == ("LispSignal" : Str) && Uj sc x .globalImplicit) <| match b with
       | [] => none
       | s :: b => gO (Wq b) <| match s with
         | .Return v _ => match v with
           | none => none
           | some v => f v
         | _ => none
     | _ => none
noncomputable def Zil (sc : Sc) (f : PySem.Expr -> Option E) (b : List Stmt) (hs : List ExceptHandler) : Option S := match b with
 | [] => none
 | s :: b => gO (Wq b) <| match s with
   | .Expr e _ => bO (Zxc sc e) fun e => match hs with
     | [] => none
     | h :: hs => gO (Wq hs) <| bO (Zxd sc f h) fun h => some (.tri e h)
   | _ => none
noncomputable def Wu : Nat -> Sc -> Stmt -> Option S
 | 0, _, _ => none
 | k + 1, sc, s => match s with
   | .Assign ts v _ => match ts with
     | [] => none
     | t :: ts => gO (Wq ts) (Zik sc (Zf k sc) t v)
   | .Expr v _ => gO (!Hd v) <| bO (Zf k sc v) fun e => some (.ex e)
   | .Return v _ => match v with
     | some v => bO (Zf k sc v) fun e => some (.ret e)
     | none => some .ret0
   | .If t b o _ => bO (Zf k sc t) fun t => bO (Zq (Wu k sc) b) fun b => bO (Zq (Wu k sc) o) fun o => some (.ite t b o)
   | .While t b o _ => gO (Wq o) <| bO (Zf k sc t) fun t => bO (Zq (Wu k sc) b) fun b => some (.whl t b)
   | .For t it b o _ => gO (Wq o && !Qt it) <| bO (He sc (Zf k sc) it) fun i => bO (Zq (Wu k sc) b) fun b => match t with
     | .Name x p => bO (Qu sc (.Name x p)) fun x => some (.forN x i.1 i.2 b)
     | .Tuple ts _ _ => bO (Zq (Qu sc) ts) fun xs => some (.forT xs i.1 i.2 b)
     | _ => none
   | .Raise _ _ _ => some (.rais (.lit .none) (.lit .none))
   | .Try b hs o fb _ => gO (Wq o && Wq fb) (Zil sc (Zf k sc) b hs)
   | _ => none
noncomputable def Uy (st : Stmt) : Option (List S) := Zq (Wu 60 (Zi st).names) (Yl st)
end
end Mine.Ab
end
section
namespace Mine.Ab
noncomputable def MTl : List (Nat × Nat × Nat) := [(104, 16, 94), (104, 69, 101), (171, 24, 168), (220, 70, 217), (341, 70, 338), (446, 67, 387), (446, 72, 394), (446, 73, 401), (446, 75, 408), (583, 87, 545), (583, 12, 559), (583, 11, 566), (583, 6, 573), (728, 118, 662), (728, 0, 669), (728, 1, 676), (728, 104, 683), (728, 103, 690), (728, 48, 697), (728, 44, 704), (833, 107, 788), (833, 57, 816), (833, 59, 823), (833, 60, 830), (939, 118, 887), (939, 13, 894), (939, 1, 901), (939, 180, 908), (939, 40, 936), (1043, 155, 962), (1043, 123, 969), (1043, 178, 976), (1043, 179, 998), (1043, 124, 1005), (1218, 91, 1089)]
noncomputable def INIl : List (Nat × Nat) := [(104, 87), (171, 161), (220, 210), (341, 331), (362, 359), (446, 380), (502, 471), (583, 531), (728, 655), (833, 781), (939, 852), (1043, 955), (1064, 1061), (1218, 1082)]
noncomputable def FOl : List (Nat × Nat) := [(104, 1), (104, 8), (171, 19), (171, 20), (171, 21), (171, 22), (220, 1), (220, 2), (341, 1), (362, 15), (362, 61), (362, 27), (362, 62), (446, 9), (446, 63), (446, 64), (446, 14), (446, 65), (446, 15), (446, 29), (446, 62), (446, 53), (446, 66), (502, 76), (502, 77), (502, 78), (583, 81), (583, 82), (728, 95), (728, 96), (728, 97), (728, 98), (833, 82), (939, 106), (939, 31), (939, 47), (939, 58), (939, 45), (939, 34), (939, 35), (939, 111), (939, 112), (939, 30), (939, 113), (939, 114), (939, 115), (939, 37), (939, 43), (939, 50), (939, 51), (939, 116), (939, 84), (939, 117), (1043, 82), (1043, 120), (1043, 91), (1043, 121), (1043, 122), (1064, 126), (1064, 53), (1218, 127), (1218, 128), (1218, 129), (1218, 130), (1218, 131), (1218, 132), (1218, 133), (1218, 134), (1218, 135), (1218, 136), (1218, 137), (1218, 138), (1218, 139), (1218, 74), (1218, 140), (1218, 141), (1218, 142), (1218, 143), (1218, 144), (1218, 145), (1218, 146), (1218, 147), (1218, 93), (1218, 148), (1218, 149), (1218, 150), (1218, 151), (1218, 152), (1218, 153), (1218, 154)]
noncomputable def Hg : List (Nat × Nat) := [(5, 0), (161, 1), (48, 2), (125, 3), (86, 4), (79, 5), (166, 6), (165, 7), (175, 8), (173, 9), (174, 10), (171, 11), (177, 12)]
noncomputable def F28 : Fn := ⟨[0], [], [.ite (.or (.cmp2 3 3 (.lit (.int 65)) (.loc 0) (.lit (.int 90))) (.and (.cmp2 3 3 (.lit (.int 192)) (.loc 0) (.lit (.int 222))) (.cmp 1 (.loc 0) (.lit (.int 215))))) [.ret (.bin 0 (.loc 0) (.lit (.int 32)))] [],
 .ret (.loc 0)]⟩
noncomputable def F35 : Fn := ⟨[0], [], [.ite (.or (.cmp2 3 3 (.lit (.int 97)) (.loc 0) (.lit (.int 122))) (.and (.cmp2 3 3 (.lit (.int 224)) (.loc 0) (.lit (.int 254))) (.cmp 1 (.loc 0) (.lit (.int 247))))) [.ret (.bin 1 (.loc 0) (.lit (.int 32)))] [],
 .ret (.loc 0)]⟩
noncomputable def F42 : Fn := ⟨[0], [], [.ret (.call 28 [.loc 0])]⟩
noncomputable def F49 : Fn := ⟨[0], [], [.ret (.cmp 1 (.call 28 [.loc 0]) (.loc 0))]⟩
noncomputable def F56 : Fn := ⟨[0], [], [.ret (.cmp 1 (.call 35 [.loc 0]) (.loc 0))]⟩
noncomputable def F61 : Fn := ⟨[1], [], [.ret (.comp 0 false (.loc 1) (.call 35 [.loc 0]) (.lit (.bool true)))]⟩
noncomputable def F66 : Fn := ⟨[1], [], [.ret (.bi 7 [.comp 0 false (.loc 1) (.call 49 [.loc 0]) (.lit (.bool true))])]⟩
noncomputable def F73 : Fn := ⟨[1, 2], [], [.asgT [3, 4] (.tup [.list [], .lit (.bool false)]),
 .forN 0 false (.loc 1) [.ex (.meth (.loc 3) 5 [.ite (.loc 4) (.loc 0) (.call 35 [.loc 0])]), .asg 4 (.cmp 0 (.meth (.loc 2) 6 [.loc 0]) (.lit (.str [119])))],
 .ret (.loc 3)]⟩
noncomputable def F87 : Fn := ⟨[7, 1, 8], [], [.setf (.loc 7) 1 (.loc 1),
 .setf (.loc 7) 8 (.loc 8)]⟩
noncomputable def F94 : Fn := ⟨[7, 9, 10], [], [.forN 11 true (.list [.bi 0 [.fld (.loc 7) 1]]) [.asg 12 (.meth (.loc 9) 13 [.bin 0 (.loc 10) (.loc 11)]), .ite (.and (.cmp 1 (.loc 12) (.item (.fld (.loc 7) 1) (.loc 11))) (.not (.and (.fld (.loc 7) 8) (.cmp 0 (.call 42 [.loc 12]) (.call 42 [.item (.fld (.loc 7) 1) (.loc 11)]))))) [.ret (.lit (.bool false))] []],
 .ret (.lit (.bool true))]⟩
noncomputable def Zxe : Fn := ⟨[7, 9, 10, 14], [], [.forN 15 true (.list [.loc 10, .bin 0 (.bin 1 (.loc 14) (.bi 0 [.fld (.loc 7) 1])) (.lit (.int 1))]) [.ite (.meth (.loc 7) 16 [.loc 9, .loc 15]) [.ret (.tup [.loc 15, .bin 0 (.loc 15) (.bi 0 [.fld (.loc 7) 1])])] []],
 .ret (.lit (.none))]⟩
noncomputable def Zxf : Fn := ⟨[7, 1, 2], [], [.setf (.loc 7) 19 (.lit (.bool false)),
 .setf (.loc 7) 20 (.lit (.bool false)),
 .setf (.loc 7) 21 (.lit (.bool false)),
 .setf (.loc 7) 22 (.lit (.bool false)),
 .asg 4 (.lit (.bool false)),
 .forN 0 false (.loc 1) [.asg 23 (.cmp 0 (.meth (.loc 2) 6 [.loc 0]) (.lit (.str [119]))), .ex (.meth (.loc 7) 24 [.loc 0, .loc 23, .loc 4]), .asg 4 (.loc 23)]]⟩
noncomputable def Zxg : Fn := ⟨[7, 0, 23, 4], [], [.ite (.or (.call 56 [.loc 0]) (.call 49 [.loc 0])) [.setf (.loc 7) 19 (.or (.fld (.loc 7) 19) (.call 56 [.loc 0])), .setf (.loc 7) 20 (.or (.fld (.loc 7) 20) (.call 49 [.loc 0])), .setf (.loc 7) 21 (.or (.fld (.loc 7) 21) (.loc 4)), .setf (.loc 7) 22 (.or (.fld (.loc 7) 22) (.and (.call 56 [.loc 0]) (.not (.loc 4))))] [.ite (.and (.loc 23) (.not (.loc 4))) [.setf (.loc 7) 22 (.lit (.bool true))] []]]⟩
noncomputable def Zxh : Fn := ⟨[1, 2], [], [.asg 25 (.make 171 [.loc 1, .loc 2]),
 .ite (.and (.fld (.loc 25) 21) (.not (.fld (.loc 25) 19))) [.ret (.lit (.str [117, 112, 112, 101, 114]))] [],
 .ite (.and (.fld (.loc 25) 21) (.not (.fld (.loc 25) 22))) [.ret (.lit (.str [105, 110, 105, 116, 105, 97, 108, 115]))] [],
 .ret (.ite (.and (.fld (.loc 25) 20) (.not (.fld (.loc 25) 22))) (.lit (.str [117, 112, 112, 101, 114])) (.lit (.str [])))]⟩
noncomputable def Zxi : Fn := ⟨[1, 26, 2], [], [.ite (.cmp 0 (.loc 26) (.lit (.str [117, 112, 112, 101, 114]))) [.ret (.call 61 [.loc 1])] [],
 .ret (.ite (.cmp 0 (.loc 26) (.lit (.str [105, 110, 105, 116, 105, 97, 108, 115]))) (.call 73 [.loc 1, .loc 2]) (.bi 1 [.loc 1]))]⟩
noncomputable def Zxj : Fn := ⟨[27, 28, 2], [], [.ret (.call 189 [.loc 27, .call 182 [.loc 28, .loc 2], .loc 2])]⟩
noncomputable def Zxk : Fn := ⟨[7, 1, 2], [], [.setf (.loc 7) 1 (.loc 1),
 .setf (.loc 7) 2 (.loc 2)]⟩
noncomputable def Zxl : Fn := ⟨[7, 9, 15, 29], [], [.ret (.call 196 [.bi 1 [.fld (.loc 7) 1], .meth (.loc 9) 1 [.loc 15, .loc 29], .fld (.loc 7) 2])]⟩
noncomputable def Zxm : Fn := ⟨[9], [], [.ite (.fld (.loc 9) 30) [.rais (.lit (.none)) (.lit (.none))] []]⟩
noncomputable def Zxn : Fn := ⟨[9, 15, 29], [], [.asgT [32, 33] (.tup [.bi 5 [.loc 15, .loc 29], .bi 6 [.loc 15, .loc 29]]),
 .ite (.or (.cmp 2 (.loc 32) (.fld (.loc 9) 34)) (.cmp 4 (.loc 33) (.fld (.loc 9) 35))) [.rais (.lit (.none)) (.lit (.none))] [],
 .ret (.tup [.loc 32, .loc 33])]⟩
noncomputable def Zxo : Fn := ⟨[9, 15, 29], [], [.forN 36 false (.bi 1 [.fld (.loc 9) 37]) [.ex (.meth (.loc 36) 38 [.loc 9, .loc 15, .loc 29])]]⟩
noncomputable def Zxp : Fn := ⟨[9, 15, 29, 39], [], [.ex (.meth (.loc 9) 40 [.lit (.bool true)]),
 .forN 36 false (.bi 1 [.fld (.loc 9) 37]) [.ex (.meth (.loc 36) 41 [.loc 9, .loc 15, .loc 29, .loc 39])]]⟩
noncomputable def Zxq : Fn := ⟨[9, 15, 29], [], [.ite (.cmp 7 (.fld (.loc 9) 43) (.lit (.none))) [.ex (.meth (.fld (.loc 9) 43) 46 [.loc 9, .loc 15, .loc 29])] [],
 .asg 42 (.meth (.fld (.loc 9) 47) 44 [.bin 1 (.loc 15) (.lit (.int 1)), .bin 1 (.loc 29) (.lit (.int 1))]),
 .setf (.loc 9) 35 (.bin 1 (.fld (.loc 9) 35) (.bin 1 (.loc 29) (.loc 15))),
 .ite (.cmp 4 (.fld (.loc 9) 45) (.loc 15)) [.setf (.loc 9) 45 (.bi 6 [.loc 15, .bin 1 (.fld (.loc 9) 45) (.bin 1 (.loc 29) (.loc 15))])] [],
 .ret (.loc 42)]⟩
noncomputable def Zxr : Fn := ⟨[9, 10, 1], [], [.ite (.cmp 7 (.fld (.loc 9) 43) (.lit (.none))) [.ex (.meth (.fld (.loc 9) 43) 49 [.loc 9, .loc 10, .bi 0 [.loc 1]])] [],
 .ex (.meth (.fld (.loc 9) 47) 48 [.bin 1 (.loc 10) (.lit (.int 1)), .loc 1]),
 .setf (.loc 9) 35 (.bin 0 (.fld (.loc 9) 35) (.bi 0 [.loc 1])),
 .ite (.cmp 4 (.fld (.loc 9) 45) (.loc 10)) [.setf (.loc 9) 45 (.bin 0 (.fld (.loc 9) 45) (.bi 0 [.loc 1]))] []]⟩
noncomputable def Zxs : Fn := ⟨[9, 15, 29], [], [.ite (.cmp 7 (.fld (.loc 9) 50) (.lit (.none))) [.ex (.meth (.fld (.loc 9) 50) 52 [.bin 1 (.loc 15) (.lit (.int 1)), .bin 1 (.loc 29) (.lit (.int 1))])] [],
 .ite (.cmp 7 (.fld (.loc 9) 51) (.lit (.none))) [.ex (.meth (.fld (.loc 9) 51) 52 [.bin 1 (.loc 15) (.lit (.int 1)), .bin 1 (.loc 29) (.lit (.int 1))])] []]⟩
noncomputable def Zxt : Fn := ⟨[9, 10, 53, 54], [], [.ite (.cmp 7 (.fld (.loc 9) 50) (.lit (.none))) [.ex (.meth (.fld (.loc 9) 50) 55 [.bin 1 (.loc 10) (.lit (.int 1)), .loc 53])] [],
 .ite (.cmp 7 (.fld (.loc 9) 51) (.lit (.none))) [.ex (.meth (.fld (.loc 9) 51) 55 [.bin 1 (.loc 10) (.lit (.int 1)), .loc 53, .loc 54])] []]⟩
noncomputable def Zxu : Fn := ⟨[9, 10, 1, 54, 56], [], [.ex (.call 231 [.loc 9]),
 .ex (.call 238 [.loc 9, .loc 10, .loc 10]),
 .ite (.cmp 0 (.bi 0 [.loc 1]) (.lit (.int 0))) [.ret0] [],
 .ex (.call 245 [.loc 9, .loc 10, .loc 10]),
 .ex (.call 266 [.loc 9, .loc 10, .loc 1]),
 .ite (.loc 56) [.setf (.loc 9) 45 (.bin 0 (.loc 10) (.bi 0 [.loc 1]))] [],
 .ex (.meth (.fld (.loc 9) 58) 57 [.loc 10, .bin 0 (.loc 10) (.bi 0 [.loc 1]), .loc 54]),
 .ex (.call 280 [.loc 9, .loc 10, .bi 0 [.loc 1], .loc 54]),
 .ex (.call 252 [.loc 9, .loc 10, .bin 0 (.loc 10) (.bi 0 [.loc 1]), .lit (.int 0)])]⟩
noncomputable def Zim : Fn := ⟨[9, 10, 1, 54], [.bool false], [.ex (.call 287 [.loc 9, .loc 10, .loc 1, .loc 54, .lit (.bool false)])]⟩
noncomputable def Zin : Fn := ⟨[9, 1, 54], [.bool false], [.ex (.call 287 [.loc 9, .fld (.loc 9) 45, .loc 1, .loc 54, .lit (.bool true)])]⟩
noncomputable def Zxv : Fn := ⟨[9, 15, 29], [], [.ex (.call 231 [.loc 9]),
 .asgT [32, 33] (.call 238 [.loc 9, .loc 15, .loc 29]),
 .ite (.cmp 0 (.loc 32) (.loc 33)) [.ret (.list [])] [],
 .ex (.call 245 [.loc 9, .loc 32, .loc 33]),
 .asg 42 (.call 259 [.loc 9, .loc 32, .loc 33]),
 .ex (.meth (.fld (.loc 9) 58) 59 [.loc 32, .loc 33]),
 .ex (.call 273 [.loc 9, .loc 32, .loc 33]),
 .ex (.call 252 [.loc 9, .loc 32, .loc 32, .bin 1 (.loc 33) (.loc 32)]),
 .ret (.loc 42)]⟩
noncomputable def Zxw : Fn := ⟨[9, 15, 29, 1], [], [.ex (.call 231 [.loc 9]),
 .asgT [32, 33] (.call 238 [.loc 9, .loc 15, .loc 29]),
 .ite (.cmp 0 (.loc 32) (.loc 33)) [.ex (.call 295 [.loc 9, .loc 32, .loc 1]), .ret (.list [])] [],
 .ite (.cmp 0 (.bi 0 [.loc 1]) (.lit (.int 0))) [.ret (.call 310 [.loc 9, .loc 32, .loc 33])] [],
 .asg 45 (.fld (.loc 9) 45),
 .ex (.call 245 [.loc 9, .loc 32, .loc 33]),
 .asg 42 (.call 259 [.loc 9, .loc 32, .loc 33]),
 .ex (.call 266 [.loc 9, .loc 32, .loc 1]),
 .ite (.cmp 5 (.loc 45) (.loc 33)) [.setf (.loc 9) 45 (.bin 1 (.bin 0 (.loc 45) (.bi 0 [.loc 1])) (.bin 1 (.loc 33) (.loc 32)))] [],
 .ex (.meth (.fld (.loc 9) 58) 60 [.loc 32, .loc 33, .bi 0 [.loc 1]]),
 .ex (.call 273 [.loc 9, .loc 32, .loc 33]),
 .ex (.call 280 [.loc 9, .loc 32, .bi 0 [.loc 1], .lit (.bool false)]),
 .ex (.call 252 [.loc 9, .loc 32, .bin 0 (.loc 32) (.bi 0 [.loc 1]), .bin 1 (.loc 33) (.loc 32)]),
 .ret (.loc 42)]⟩
noncomputable def Zxx : Fn := ⟨[7, 1], [], [.setf (.loc 7) 1 (.loc 1)]⟩
noncomputable def Zxy : Fn := ⟨[7, 9, 15, 29], [], [.ret (.bi 1 [.fld (.loc 7) 1])]⟩
noncomputable def Zxz : Fn := ⟨[7, 15, 61, 27, 62], [], [.setf (.loc 7) 15 (.loc 15),
 .setf (.loc 7) 61 (.loc 61),
 .setf (.loc 7) 27 (.loc 27),
 .setf (.loc 7) 62 (.loc 62)]⟩
noncomputable def Zya : Fn := ⟨[7, 9, 63, 64, 15, 29], [], [.asgT [32, 33] (.call 238 [.loc 9, .loc 15, .loc 29]),
 .setf (.loc 7) 9 (.loc 9),
 .setf (.loc 7) 63 (.loc 63),
 .setf (.loc 7) 64 (.loc 64),
 .setf (.loc 7) 14 (.loc 33),
 .setf (.loc 7) 65 (.lit (.str [97, 115, 107, 105, 110, 103])),
 .setf (.loc 7) 15 (.loc 32),
 .setf (.loc 7) 29 (.loc 32),
 .setf (.loc 7) 62 (.lit (.bool false)),
 .setf (.loc 7) 53 (.lit (.int 0)),
 .setf (.loc 7) 66 (.list []),
 .ex (.meth (.loc 7) 67 [.loc 32, .lit (.bool false)])]⟩
noncomputable def Zyb : Fn := ⟨[7, 10, 68], [], [.asg 11 (.ite (.loc 68) (.bin 0 (.loc 10) (.lit (.int 1))) (.loc 10)),
 .asg 3 (.ite (.cmp 3 (.loc 11) (.fld (.loc 7) 14)) (.meth (.fld (.loc 7) 63) 69 [.fld (.loc 7) 9, .loc 11, .fld (.loc 7) 14]) (.lit (.none))),
 .ite (.cmp 6 (.loc 3) (.lit (.none))) [.setf (.loc 7) 65 (.lit (.str [100, 111, 110, 101])), .ret0] [],
 .setf (.loc 7) 15 (.item (.loc 3) (.lit (.int 0))),
 .setf (.loc 7) 29 (.item (.loc 3) (.lit (.int 1))),
 .setf (.loc 7) 62 (.lit (.bool false)),
 .setf (.fld (.loc 7) 9) 45 (.fld (.loc 7) 29)]⟩
noncomputable def Zyc : Fn := ⟨[7], [], [.ite (.fld (.loc 7) 62) [.ret0] [],
 .asg 61 (.meth (.fld (.loc 7) 9) 1 [.fld (.loc 7) 15, .fld (.loc 7) 29]),
 .asg 27 (.meth (.fld (.loc 7) 64) 70 [.fld (.loc 7) 9, .fld (.loc 7) 15, .fld (.loc 7) 29]),
 .ex (.call 317 [.fld (.loc 7) 9, .fld (.loc 7) 15, .fld (.loc 7) 29, .loc 27]),
 .setf (.loc 7) 14 (.bin 1 (.bin 0 (.fld (.loc 7) 14) (.bi 0 [.loc 27])) (.bi 0 [.loc 61])),
 .setf (.loc 7) 29 (.bin 0 (.fld (.loc 7) 15) (.bi 0 [.loc 27])),
 .ex (.meth (.fld (.loc 7) 66) 5 [.make 362 [.fld (.loc 7) 15, .loc 61, .loc 27, .lit (.bool true)]]),
 .setf (.loc 7) 53 (.bin 0 (.fld (.loc 7) 53) (.lit (.int 1))),
 .setf (.loc 7) 62 (.lit (.bool true)),
 .setf (.fld (.loc 7) 9) 45 (.fld (.loc 7) 29)]⟩
noncomputable def Zyd : Fn := ⟨[7], [], [.ite (.not (.fld (.loc 7) 62)) [.asg 61 (.meth (.fld (.loc 7) 9) 1 [.fld (.loc 7) 15, .fld (.loc 7) 29]), .ex (.meth (.fld (.loc 7) 66) 5 [.make 362 [.fld (.loc 7) 15, .loc 61, .loc 61, .lit (.bool false)]])] [],
 .asg 71 (.item (.fld (.loc 7) 66) (.bin 1 (.bi 0 [.fld (.loc 7) 66]) (.lit (.int 1)))),
 .ex (.meth (.loc 7) 67 [.fld (.loc 7) 29, .cmp 0 (.bi 0 [.fld (.loc 71) 61]) (.lit (.int 0))])]⟩
noncomputable def Zye : Fn := ⟨[7], [], [.whl (.cmp 0 (.fld (.loc 7) 65) (.lit (.str [97, 115, 107, 105, 110, 103]))) [.ex (.meth (.loc 7) 72 []), .ex (.meth (.loc 7) 73 [])]]⟩
noncomputable def Zyf : Fn := ⟨[9, 63, 64, 15, 29], [], [.asg 74 (.make 446 [.loc 9, .loc 63, .loc 64, .loc 15, .loc 29]),
 .ex (.meth (.loc 74) 75 []),
 .ret (.fld (.loc 74) 53)]⟩
noncomputable def Zyg : Fn := ⟨[7, 76, 77, 78], [], [.setf (.loc 7) 76 (.loc 76),
 .setf (.loc 7) 77 (.loc 77),
 .setf (.loc 7) 78 (.loc 78)]⟩
noncomputable def Zyh : Fn := ⟨[47], [], [.ret (.meth (.lit (.str [])) 79 [.comp 80 false (.lit (.str [49, 50, 51, 52, 98, 99, 110, 112])) (.loc 80) (.cmp 8 (.loc 80) (.cel 47))])]⟩
noncomputable def Zyi : Fn := ⟨[47], [], [.ite (.cmp 0 (.loc 47) (.lit (.str []))) [.rais (.lit (.none)) (.lit (.none))] [],
 .asg 76 (.ite (.cmp 0 (.item (.loc 47) (.lit (.int 0))) (.lit (.str [45]))) (.lit (.str [32])) (.item (.loc 47) (.lit (.int 0)))),
 .asg 77 (.ite (.or (.cmp 2 (.bi 0 [.loc 47]) (.lit (.int 2))) (.cmp 0 (.item (.loc 47) (.lit (.int 1))) (.lit (.str [32])))) (.lit (.none)) (.bi 3 [.item (.loc 47) (.lit (.int 1))])),
 .asg 78 (.slc (.loc 47) (.lit (.int 2)) (.lit (.none))),
 .ite (.or (.cmp 9 (.loc 76) (.lit (.str [32, 119, 95, 46, 40, 41, 39, 34, 92, 47, 36, 60, 62, 64, 33, 124]))) (.not (.bi 8 [.comp 80 false (.loc 78) (.or (.cmp 8 (.loc 80) (.lit (.str [49, 50, 51, 52, 98, 99, 110, 112]))) (.cmp 0 (.loc 80) (.lit (.str [32])))) (.lit (.bool true))]))) [.rais (.lit (.none)) (.lit (.none))] [],
 .ret (.make 502 [.loc 76, .loc 77, .call 511 [.loc 78]])]⟩
noncomputable def Zio : Fn := ⟨[7, 81], [.none], [.setf (.loc 7) 81 (.loc 81),
 .setf (.loc 7) 82 .dict0]⟩
noncomputable def Zyj : Fn := ⟨[7, 47, 83], [], [.asg 84 (.call 516 [.loc 83]),
 .forN 85 false (.loc 47) [.seti (.fld (.loc 7) 82) (.bi 3 [.loc 85]) (.loc 84)]]⟩
noncomputable def Zyk : Fn := ⟨[7, 0], [], [.asg 3 (.meth (.fld (.loc 7) 82) 86 [.loc 0, .lit (.none)]),
 .ret (.ite (.or (.cmp 6 (.loc 3) (.lit (.none))) (.cmp 0 (.fld (.loc 3) 76) (.lit (.str [64])))) (.lit (.none)) (.loc 3))]⟩
noncomputable def Zyl : Fn := ⟨[7, 0], [], [.asg 2 (.loc 7),
 .whl (.cmp 7 (.loc 2) (.lit (.none))) [.asg 3 (.meth (.loc 2) 12 [.loc 0]), .ite (.cmp 7 (.loc 3) (.lit (.none))) [.ret (.loc 3)] [], .asg 2 (.fld (.loc 2) 81)],
 .ret (.make 502 [.ite (.cmp 4 (.loc 0) (.lit (.int 127))) (.lit (.str [119])) (.lit (.str [46])), .lit (.none), .lit (.str [])])]⟩
noncomputable def Zym : Fn := ⟨[7, 0], [], [.ret (.fld (.meth (.loc 7) 11 [.loc 0]) 76)]⟩
noncomputable def Zyn : Fn := ⟨[], [], [.ret (.lit (.str [97, 98, 99, 100, 101, 102, 103, 104, 105, 106, 107, 108, 109, 110, 111, 112, 113, 114, 115, 116, 117, 118, 119, 120, 121, 122, 65, 66, 67, 68, 69, 70, 71, 72, 73, 74, 75, 76, 77, 78, 79, 80, 81, 82, 83, 84, 85, 86, 87, 88, 89, 90, 48, 49, 50, 51, 52, 53, 54, 55, 56, 57]))]⟩
noncomputable def Zyo : Fn := ⟨[], [], [.asg 2 (.make 583 []),
 .ex (.meth (.loc 2) 87 [.bin 0 (.call 594 []) (.lit (.str [36, 37])), .lit (.str [119])]),
 .ex (.meth (.loc 2) 87 [.lit (.str [32, 9, 10, 13, 12]), .lit (.str [32])]),
 .ex (.meth (.loc 2) 87 [.lit (.str [95, 45, 43, 42, 47, 38, 124, 60, 62, 61]), .lit (.str [95])]),
 .ex (.meth (.loc 2) 87 [.lit (.str [46, 44, 59, 58, 63, 33, 35, 64, 126, 94, 39, 96]), .lit (.str [46])]),
 .forT [88, 89] false (.tup [.tup [.lit (.str [40]), .lit (.str [41])], .tup [.lit (.str [91]), .lit (.str [93])], .tup [.lit (.str [123]), .lit (.str [125])]]) [.ex (.meth (.loc 2) 87 [.loc 88, .bin 0 (.lit (.str [40])) (.loc 89)]), .ex (.meth (.loc 2) 87 [.loc 89, .bin 0 (.lit (.str [41])) (.loc 88)])],
 .ex (.meth (.loc 2) 87 [.lit (.str [34]), .lit (.str [34])]),
 .ex (.meth (.loc 2) 87 [.lit (.str [92]), .lit (.str [92])]),
 .ret (.loc 2)]⟩
noncomputable def Zyp : Fn := ⟨[47], [], [.ret (.ite (.isi (.loc 47)) (.comp 85 false (.loc 47) (.bi 3 [.loc 85]) (.lit (.bool true))) (.bi 1 [.loc 47]))]⟩
noncomputable def Zyq : Fn := ⟨[90], [], [.asg 12 (.fld (.meth (.loc 90) 91 []) 84),
 .ret (.ite (.cmp 6 (.loc 12) (.lit (.none))) (.call 601 []) (.loc 12))]⟩
noncomputable def Zip : Fn := ⟨[90, 92], [], [.asgT [61, 27] (.tup [.call 606 [.item (.loc 92) (.lit (.int 0))], .call 606 [.item (.loc 92) (.lit (.int 1))]]),
 .ite (.cmp 0 (.bi 0 [.loc 61]) (.lit (.int 0))) [.rais (.lit (.none)) (.lit (.none))] [],
 .ite (.call 66 [.loc 61]) [.ret (.tup [.make 104 [.loc 61, .lit (.bool false)], .make 341 [.loc 27]])] [],
 .ite (.call 66 [.loc 27]) [.ret (.tup [.make 104 [.loc 61, .lit (.bool true)], .make 341 [.loc 27]])] [],
 .ret (.tup [.make 104 [.loc 61, .lit (.bool true)], .make 220 [.loc 27, .call 613 [.loc 90]]])]⟩
noncomputable def Zyr : Fn := ⟨[90, 53], [], [.setf (.loc 90) 93 (.bin 0 (.bin 0 (.bin 0 (.lit (.str [82, 101, 112, 108, 97, 99, 101, 100, 32])) (.bi 10 [.loc 53])) (.lit (.str [32, 111, 99, 99, 117, 114, 114, 101, 110, 99, 101]))) (.ite (.cmp 0 (.loc 53) (.lit (.int 1))) (.lit (.str [])) (.lit (.str [115]))))]⟩
noncomputable def Zys : Fn := ⟨[90, 94], [], [.asg 9 (.meth (.loc 90) 91 []),
 .ex (.call 627 [.loc 90, .call 457 [.loc 9, .item (.loc 94) (.lit (.int 0)), .item (.loc 94) (.lit (.int 1)), .fld (.loc 9) 45, .fld (.loc 9) 35]])]⟩
noncomputable def Ziq : Fn := ⟨[90, 92], [], [.ex (.call 634 [.loc 90, .call 620 [.loc 90, .loc 92]])]⟩
noncomputable def Zyt : Fn := ⟨[7, 1, 95], [], [.setf (.loc 7) 95 (.loc 95),
 .setf (.loc 7) 96 (.bin 0 (.bi 1 [.loc 1]) (.bin 2 (.list [.lit (.int 0)]) (.loc 95))),
 .setf (.loc 7) 97 (.bi 0 [.loc 1]),
 .setf (.loc 7) 98 (.bin 0 (.bi 0 [.loc 1]) (.loc 95))]⟩
noncomputable def Zyu : Fn := ⟨[7], [], [.ret (.bin 0 (.bin 1 (.bi 0 [.fld (.loc 7) 96]) (.fld (.loc 7) 98)) (.fld (.loc 7) 97))]⟩
noncomputable def Zyv : Fn := ⟨[7, 11], [], [.ite (.cmp 2 (.loc 11) (.fld (.loc 7) 97)) [.ret (.item (.fld (.loc 7) 96) (.loc 11))] [],
 .ret (.item (.fld (.loc 7) 96) (.bin 0 (.bin 1 (.loc 11) (.fld (.loc 7) 97)) (.fld (.loc 7) 98)))]⟩
noncomputable def Zyw : Fn := ⟨[7, 15, 29], [], [.asg 99 (.bin 1 (.fld (.loc 7) 98) (.fld (.loc 7) 97)),
 .ite (.cmp 3 (.loc 29) (.fld (.loc 7) 97)) [.ret (.slc (.fld (.loc 7) 96) (.loc 15) (.loc 29))] [],
 .ite (.cmp 5 (.loc 15) (.fld (.loc 7) 97)) [.ret (.slc (.fld (.loc 7) 96) (.bin 0 (.loc 15) (.loc 99)) (.bin 0 (.loc 29) (.loc 99)))] [],
 .ret (.bin 0 (.slc (.fld (.loc 7) 96) (.loc 15) (.fld (.loc 7) 97)) (.slc (.fld (.loc 7) 96) (.fld (.loc 7) 98) (.bin 0 (.loc 29) (.loc 99))))]⟩
noncomputable def Zyx : Fn := ⟨[7, 11], [], [.ite (.cmp 2 (.loc 11) (.fld (.loc 7) 97)) [.asg 100 (.slc (.fld (.loc 7) 96) (.loc 11) (.fld (.loc 7) 97)), .sets (.fld (.loc 7) 96) (.bin 1 (.fld (.loc 7) 98) (.bi 0 [.loc 100])) (.fld (.loc 7) 98) (.loc 100), .setf (.loc 7) 98 (.bin 1 (.fld (.loc 7) 98) (.bi 0 [.loc 100]))] [.asg 100 (.slc (.fld (.loc 7) 96) (.fld (.loc 7) 98) (.bin 1 (.bin 0 (.fld (.loc 7) 98) (.loc 11)) (.fld (.loc 7) 97))), .sets (.fld (.loc 7) 96) (.fld (.loc 7) 97) (.bin 0 (.fld (.loc 7) 97) (.bi 0 [.loc 100])) (.loc 100), .setf (.loc 7) 98 (.bin 0 (.fld (.loc 7) 98) (.bi 0 [.loc 100]))],
 .setf (.loc 7) 97 (.loc 11)]⟩
noncomputable def Zyy : Fn := ⟨[7, 101], [], [.asg 102 (.bin 1 (.loc 101) (.bin 1 (.fld (.loc 7) 98) (.fld (.loc 7) 97))),
 .ite (.cmp 4 (.loc 102) (.lit (.int 0))) [.sets (.fld (.loc 7) 96) (.fld (.loc 7) 98) (.fld (.loc 7) 98) (.bin 2 (.list [.lit (.int 0)]) (.bin 0 (.loc 102) (.fld (.loc 7) 95))), .setf (.loc 7) 98 (.bin 0 (.bin 0 (.fld (.loc 7) 98) (.loc 102)) (.fld (.loc 7) 95))] []]⟩
noncomputable def Zyz : Fn := ⟨[7, 11, 1], [], [.ex (.meth (.loc 7) 103 [.bi 0 [.loc 1]]),
 .ex (.meth (.loc 7) 104 [.loc 11]),
 .sets (.fld (.loc 7) 96) (.loc 11) (.bin 0 (.loc 11) (.bi 0 [.loc 1])) (.loc 1),
 .setf (.loc 7) 97 (.bin 0 (.loc 11) (.bi 0 [.loc 1]))]⟩
noncomputable def Zza : Fn := ⟨[7, 15, 29], [], [.asg 42 (.meth (.loc 7) 1 [.loc 15, .loc 29]),
 .ite (.cmp 2 (.loc 29) (.fld (.loc 7) 97)) [.ex (.meth (.loc 7) 104 [.loc 29])] [],
 .ite (.cmp 4 (.loc 15) (.fld (.loc 7) 97)) [.ex (.meth (.loc 7) 104 [.loc 15])] [],
 .setf (.loc 7) 98 (.bin 1 (.bin 0 (.fld (.loc 7) 98) (.loc 29)) (.fld (.loc 7) 97)),
 .setf (.loc 7) 97 (.loc 15),
 .ret (.loc 42)]⟩
noncomputable def Zzb : Fn := ⟨[7], [], [.setf (.loc 7) 82 .dict0]⟩
noncomputable def Zzc : Fn := ⟨[7], [], [.ret (.bi 9 [.fld (.loc 7) 82])]⟩
noncomputable def Zzd : Fn := ⟨[7, 15, 29, 105], [], [.forN 106 false (.meth (.loc 7) 107 []) [.asg 108 (.item (.fld (.loc 7) 82) (.loc 106)), .ite (.or (.cmp 4 (.fld (.loc 108) 109) (.loc 15)) (.and (.cmp 0 (.fld (.loc 108) 109) (.loc 15)) (.or (.loc 105) (.fld (.loc 108) 110)))) [.setf (.loc 108) 109 (.bin 1 (.bin 0 (.fld (.loc 108) 109) (.loc 29)) (.loc 15))] []]]⟩
noncomputable def Zze : Fn := ⟨[7, 15, 29], [], [.forN 106 false (.meth (.loc 7) 107 []) [.asg 108 (.item (.fld (.loc 7) 82) (.loc 106)), .ite (.cmp 4 (.fld (.loc 108) 109) (.loc 29)) [.setf (.loc 108) 109 (.bin 1 (.fld (.loc 108) 109) (.bin 1 (.loc 29) (.loc 15)))] [.ite (.cmp 4 (.fld (.loc 108) 109) (.loc 15)) [.setf (.loc 108) 109 (.loc 15)] []]]]⟩
noncomputable def Zzf : Fn := ⟨[7, 15, 29, 53], [], [.forN 106 false (.meth (.loc 7) 107 []) [.asg 108 (.item (.fld (.loc 7) 82) (.loc 106)), .ite (.cmp 5 (.fld (.loc 108) 109) (.loc 29)) [.setf (.loc 108) 109 (.bin 1 (.bin 0 (.fld (.loc 108) 109) (.loc 53)) (.bin 1 (.loc 29) (.loc 15)))] [.ite (.cmp 4 (.fld (.loc 108) 109) (.loc 15)) [.setf (.loc 108) 109 (.loc 15)] []]]]⟩
noncomputable def Zir : Fn := ⟨[7, 106, 31, 95], [.int (8)], [.setf (.loc 7) 106 (.loc 106),
 .setf (.loc 7) 31 (.loc 31),
 .setf (.loc 7) 47 (.make 728 [.list [], .loc 95]),
 .setf (.loc 7) 58 (.make 833 []),
 .setf (.loc 7) 45 (.lit (.int 1)),
 .setf (.loc 7) 34 (.lit (.int 1)),
 .setf (.loc 7) 35 (.lit (.int 1)),
 .setf (.loc 7) 111 (.lit (.none)),
 .setf (.loc 7) 112 (.lit (.bool true)),
 .setf (.loc 7) 30 (.lit (.bool false)),
 .setf (.loc 7) 113 (.lit (.int 1)),
 .setf (.loc 7) 114 (.lit (.int 1)),
 .setf (.loc 7) 115 (.lit (.int 1)),
 .setf (.loc 7) 37 (.list []),
 .setf (.loc 7) 43 (.lit (.none)),
 .setf (.loc 7) 50 (.lit (.none)),
 .setf (.loc 7) 51 (.lit (.none)),
 .setf (.loc 7) 116 (.lit (.none)),
 .setf (.loc 7) 84 (.lit (.none)),
 .setf (.loc 7) 117 (.lit (.none))]⟩
noncomputable def Zzg : Fn := ⟨[7], [], [.ret (.meth (.fld (.loc 7) 47) 118 [])]⟩
noncomputable def Zzh : Fn := ⟨[7, 10], [], [.ite (.or (.cmp 2 (.loc 10) (.fld (.loc 7) 34)) (.cmp 5 (.loc 10) (.fld (.loc 7) 35))) [.ret (.neg (.lit (.int 1)))] [],
 .ret (.meth (.fld (.loc 7) 47) 0 [.bin 1 (.loc 10) (.lit (.int 1))])]⟩
noncomputable def Zzi : Fn := ⟨[7, 15, 29], [], [.ret (.meth (.fld (.loc 7) 47) 1 [.bin 1 (.loc 15) (.lit (.int 1)), .bin 1 (.loc 29) (.lit (.int 1))])]⟩
noncomputable def Zzj : Fn := ⟨[7, 10], [], [.setf (.loc 7) 45 (.bi 5 [.bi 6 [.loc 10, .fld (.loc 7) 34], .fld (.loc 7) 35]),
 .ret (.fld (.loc 7) 45)]⟩
noncomputable def Zzk : Fn := ⟨[7, 119], [], [.setf (.loc 7) 113 (.bin 0 (.fld (.loc 7) 113) (.lit (.int 1))),
 .ite (.loc 119) [.setf (.loc 7) 114 (.fld (.loc 7) 113)] []]⟩
noncomputable def Zzl : Fn := ⟨[7], [], [.setf (.loc 7) 82 .dict0,
 .setf (.loc 7) 120 (.list []),
 .setf (.loc 7) 91 (.lit (.int 0)),
 .setf (.loc 7) 121 (.lit (.int 0)),
 .setf (.loc 7) 122 (.lit (.int 0))]⟩
noncomputable def Zzm : Fn := ⟨[7, 106], [], [.ret (.meth (.fld (.loc 7) 82) 86 [.loc 106])]⟩
noncomputable def Zzn : Fn := ⟨[7, 31], [], [.forN 106 false (.fld (.loc 7) 120) [.ite (.cmp 0 (.fld (.item (.fld (.loc 7) 82) (.loc 106)) 31) (.loc 31)) [.ret (.item (.fld (.loc 7) 82) (.loc 106))] []],
 .ret (.lit (.none))]⟩
noncomputable def Zzo : Fn := ⟨[7, 31], [], [.ite (.or (.cmp 0 (.loc 31) (.lit (.str []))) (.cmp 7 (.meth (.loc 7) 123 [.loc 31]) (.lit (.none)))) [.rais (.lit (.none)) (.lit (.none))] [],
 .setf (.loc 7) 121 (.bin 0 (.fld (.loc 7) 121) (.lit (.int 1))),
 .asg 9 (.make 939 [.fld (.loc 7) 121, .loc 31]),
 .seti (.fld (.loc 7) 82) (.fld (.loc 9) 106) (.loc 9),
 .ex (.meth (.fld (.loc 7) 120) 5 [.fld (.loc 9) 106]),
 .ret (.loc 9)]⟩
noncomputable def Zzp : Fn := ⟨[7, 9], [], [.ex (.meth (.loc 7) 124 [.loc 9]),
 .ex (.meth (.fld (.loc 7) 120) 125 [.fld (.loc 9) 106]),
 .ex (.meth (.fld (.loc 7) 120) 48 [.lit (.int 0), .fld (.loc 9) 106])]⟩
noncomputable def Zzq : Fn := ⟨[7, 9], [], [.ite (.not (.fld (.loc 9) 112)) [.rais (.lit (.none)) (.lit (.none))] [],
 .setf (.loc 7) 91 (.fld (.loc 9) 106)]⟩
noncomputable def Zzr : Fn := ⟨[7], [], [.setf (.loc 7) 126 (.lit (.str [])),
 .setf (.loc 7) 53 (.lit (.int 0))]⟩
noncomputable def Zzs : Fn := ⟨[7, 127, 128, 129], [], [.setf (.loc 7) 127 (.loc 127),
 .setf (.loc 7) 128 (.loc 128),
 .setf (.loc 7) 129 (.loc 129),
 .setf (.loc 7) 130 .dict0,
 .setf (.loc 7) 131 (.list []),
 .setf (.loc 7) 132 (.lit (.none)),
 .setf (.loc 7) 133 (.lit (.none)),
 .setf (.loc 7) 134 (.lit (.none)),
 .setf (.loc 7) 135 (.lit (.none)),
 .setf (.loc 7) 136 (.lit (.none)),
 .setf (.loc 7) 137 (.lit (.none)),
 .setf (.loc 7) 138 (.lit (.none)),
 .setf (.loc 7) 139 (.lit (.none)),
 .setf (.loc 7) 74 (.lit (.none)),
 .setf (.loc 7) 140 (.lit (.none)),
 .setf (.loc 7) 141 (.lit (.none)),
 .setf (.loc 7) 142 (.lit (.none)),
 .setf (.loc 7) 143 (.lit (.none)),
 .setf (.loc 7) 144 (.lit (.none)),
 .setf (.loc 7) 145 .dict0,
 .setf (.loc 7) 146 .dict0,
 .setf (.loc 7) 147 (.make 1064 []),
 .setf (.loc 7) 93 (.lit (.str [])),
 .setf (.loc 7) 148 (.lit (.none)),
 .setf (.loc 7) 149 (.lit (.none)),
 .setf (.loc 7) 150 (.lit (.int 70)),
 .setf (.loc 7) 151 (.lit (.int 8)),
 .setf (.loc 7) 152 (.list []),
 .setf (.loc 7) 153 (.lit (.none)),
 .setf (.loc 7) 154 (.lit (.none))]⟩
noncomputable def Zzt : Fn := ⟨[7], [], [.ret (.meth (.fld (.loc 7) 127) 155 [.fld (.fld (.loc 7) 127) 91])]⟩
noncomputable def Zzu : Fn := ⟨[156], [], [.asg 96 (.comp 157 false (.slc (.loc 156) (.lit (.none)) (.lit (.int 20))) (.bi 4 [.loc 157]) (.lit (.bool true))),
 .ret (.list [.comp 157 false (.loc 96) (.loc 157) (.cmp 5 (.loc 157) (.bin 5 (.lit (.int 10)) (.lit (.int 18)))), .bin 0 (.loc 96) (.list [.bin 0 (.lit (.int 417)) (.bi 0 [.loc 96])]), .lit (.int 0)])]⟩
noncomputable def Zzv : Fn := ⟨[158, 53], [], [.ite (.cmp 1 (.item (.loc 158) (.lit (.int 0))) (.list [])) [.asg 160 (.item (.item (.loc 158) (.lit (.int 0))) (.lit (.int 0))), .seti (.item (.loc 158) (.lit (.int 0))) (.lit (.int 0)) (.bin 3 (.loc 160) (.loc 53)), .ite (.cmp 0 (.item (.item (.loc 158) (.lit (.int 0))) (.lit (.int 0))) (.lit (.int 0))) [.ex (.meth (.item (.loc 158) (.lit (.int 0))) 161 [.lit (.int 0)])] [], .ret (.bin 4 (.loc 160) (.loc 53))] [],
 .seti (.loc 158) (.lit (.int 2)) (.bin 0 (.item (.loc 158) (.lit (.int 2))) (.lit (.int 1))),
 .asg 159 (.bin 4 (.bin 0 (.item (.item (.loc 158) (.lit (.int 1))) (.bin 4 (.item (.loc 158) (.lit (.int 2))) (.bi 0 [.item (.loc 158) (.lit (.int 1))]))) (.bin 2 (.lit (.int 1640531527)) (.item (.loc 158) (.lit (.int 2))))) (.lit (.int 4294966297))),
 .asg 159 (.bin 4 (.bin 0 (.bin 2 (.loc 159) (.loc 159)) (.bin 2 (.lit (.int 122949823)) (.item (.loc 158) (.lit (.int 2))))) (.lit (.int 4294966237))),
 .ret (.bin 4 (.bin 3 (.bin 4 (.bin 2 (.loc 159) (.loc 159)) (.lit (.int 4294966187))) (.lit (.int 1024))) (.loc 53))]⟩
noncomputable def Zzw : Fn := ⟨[158, 162, 163, 164], [], [.ret (.meth (.lit (.str [])) 79 [.comp 11 true (.list [.bin 0 (.loc 162) (.call 1234 [.cel 158, .bin 0 (.bin 1 (.loc 163) (.loc 162)) (.lit (.int 1))])]) (.item (.cel 164) (.call 1234 [.cel 158, .bi 0 [.cel 164]])) (.lit (.bool true))])]⟩
noncomputable def Zzx : Fn := ⟨[47], [], [.ret (.meth (.meth (.lit (.str [])) 79 [.comp 85 false (.loc 47) (.ite (.meth (.loc 85) 166 []) (.loc 85) (.lit (.str [32]))) (.lit (.bool true))]) 165 [])]⟩
noncomputable def Zzy : Fn := ⟨[27, 28], [], [.asg 167 (.call 1244 [.loc 28]),
 .asg 21 (.cmp 1 (.comp 172 false (.loc 167) (.lit (.int 1)) (.cmp 1 (.comp 85 false (.slc (.loc 172) (.lit (.int 1)) (.lit (.none))) (.lit (.int 1)) (.meth (.loc 85) 175 [])) (.list []))) (.list [])),
 .asg 168 (.cmp 1 (.comp 85 false (.loc 28) (.lit (.int 1)) (.meth (.loc 85) 173 [])) (.list [])),
 .asg 169 (.cmp 1 (.comp 172 false (.loc 167) (.lit (.int 1)) (.not (.meth (.item (.loc 172) (.lit (.int 0))) 174 []))) (.list [])),
 .asg 170 (.cmp 1 (.comp 85 false (.loc 28) (.lit (.int 1)) (.meth (.loc 85) 174 [])) (.list [])),
 .ite (.or (.and (.loc 21) (.not (.loc 168))) (.and (.not (.and (.loc 21) (.not (.loc 169)))) (.and (.loc 170) (.not (.loc 169))))) [.ret (.meth (.cel 27) 171 [])] [],
 .ite (.or (.not (.loc 21)) (.loc 169)) [.ret (.cel 27)] [],
 .ret (.meth (.lit (.str [])) 79 [.comp 11 true (.list [.bi 0 [.cel 27]]) (.ite (.or (.cmp 0 (.loc 11) (.lit (.int 0))) (.not (.meth (.item (.cel 27) (.bin 1 (.loc 11) (.lit (.int 1)))) 166 []))) (.meth (.item (.cel 27) (.loc 11)) 171 []) (.item (.cel 27) (.loc 11))) (.lit (.bool true))])]⟩
noncomputable def Zzz : Fn := ⟨[47, 11, 61, 27], [], [.asgT [176, 3, 53, 71] (.tup [.cmp 0 (.loc 61) (.meth (.loc 61) 177 []), .slc (.loc 47) (.lit (.none)) (.loc 11), .lit (.int 0), .loc 11]),
 .whl (.cmp 2 (.loc 11) (.bi 0 [.loc 47])) [.asg 12 (.slc (.loc 47) (.loc 11) (.bin 0 (.loc 11) (.bi 0 [.loc 61]))), .ite (.cmp 0 (.ite (.loc 176) (.meth (.loc 12) 177 []) (.loc 12)) (.loc 61)) [.asg 3 (.bin 0 (.loc 3) (.ite (.or (.not (.loc 176)) (.cmp 1 (.loc 27) (.meth (.loc 27) 177 []))) (.loc 27) (.call 1249 [.loc 27, .loc 12]))), .asgT [53, 71, 11] (.tup [.bin 0 (.loc 53) (.lit (.int 1)), .bi 0 [.loc 3], .bin 0 (.loc 11) (.bi 0 [.loc 61])])] [.asgT [3, 11] (.tup [.bin 0 (.loc 3) (.item (.loc 47) (.loc 11)), .bin 0 (.loc 11) (.lit (.int 1))])]],
 .ret (.tup [.loc 3, .loc 53, .loc 71])]⟩
noncomputable def F1261 : Fn := ⟨[156], [], [.asgT [158, 90] (.tup [.call 1227 [.loc 156], .make 1218 [.make 1043 [], .lit (.none), .lit (.none)]]),
 .asg 9 (.meth (.fld (.loc 90) 127) 178 [.lit (.str [97])]),
 .ex (.meth (.fld (.loc 90) 127) 179 [.loc 9]),
 .asg 47 (.call 1239 [.loc 158, .lit (.int 3), .lit (.int 14), .lit (.str [97, 65, 98, 66, 32, 97, 65, 97, 98, 45, 49])]),
 .ex (.call 303 [.loc 9, .comp 85 false (.loc 47) (.bi 3 [.loc 85]) (.lit (.bool true))]),
 .asgT [61, 27] (.tup [.call 1239 [.loc 158, .lit (.int 1), .lit (.int 2), .lit (.str [97, 97, 98, 65, 32, 98, 49])], .call 1239 [.loc 158, .lit (.int 0), .lit (.int 3), .lit (.str [120, 121, 120, 32, 121, 88, 45, 97])]]),
 .ite (.cmp 0 (.call 1234 [.loc 158, .lit (.int 3)]) (.lit (.int 0))) [.asg 11 (.call 1234 [.loc 158, .bi 0 [.loc 47]]), .asg 61 (.meth (.slc (.loc 47) (.loc 11) (.bin 0 (.bin 0 (.loc 11) (.lit (.int 2))) (.call 1234 [.loc 158, .lit (.int 2)]))) 177 [])] [],
 .asg 10 (.call 1234 [.loc 158, .bin 0 (.bi 0 [.loc 47]) (.lit (.int 1))]),
 .ex (.meth (.loc 9) 180 [.bin 0 (.loc 10) (.lit (.int 1))]),
 .asgT [181, 53, 71] (.call 1256 [.loc 47, .loc 10, .loc 61, .loc 27]),
 .ex (.call 641 [.loc 90, .list [.loc 61, .loc 27]]),
 .ite (.or (.cmp 1 (.meth (.loc 9) 1 [.lit (.int 1), .bin 0 (.meth (.loc 9) 118 []) (.lit (.int 1))]) (.comp 85 false (.loc 181) (.bi 3 [.loc 85]) (.lit (.bool true)))) (.cmp 1 (.fld (.loc 9) 45) (.bin 0 (.loc 71) (.lit (.int 1))))) [.ret (.lit (.bool false))] [],
 .ite (.cmp 1 (.fld (.loc 90) 93) (.bin 0 (.bin 0 (.bin 0 (.lit (.str [82, 101, 112, 108, 97, 99, 101, 100, 32])) (.bi 10 [.loc 53])) (.lit (.str [32, 111, 99, 99, 117, 114, 114, 101, 110, 99, 101]))) (.ite (.cmp 0 (.loc 53) (.lit (.int 1))) (.lit (.str [])) (.lit (.str [115]))))) [.ret (.lit (.bool false))] [],
 .tri (.call 641 [.loc 90, .list [.lit (.str []), .loc 27]]) (.cmp 0 (.meth (.loc 9) 1 [.lit (.int 1), .bin 0 (.meth (.loc 9) 118 []) (.lit (.int 1))]) (.comp 85 false (.loc 181) (.bi 3 [.loc 85]) (.lit (.bool true)))),
 .ret (.lit (.bool false))]⟩
noncomputable def FTl : List (Nat × Fn) := [(28, F28), (35, F35), (42, F42), (49, F49), (56, F56), (61, F61), (66, F66), (73, F73), (87, F87), (94, F94), (101, Zxe), (161, Zxf), (168, Zxg), (182, Zxh), (189, Zxi), (196, Zxj), (210, Zxk), (217, Zxl), (231, Zxm), (238, Zxn), (245, Zxo), (252, Zxp), (259, Zxq), (266, Zxr), (273, Zxs), (280, Zxt), (287, Zxu), (295, Zim), (303, Zin), (310, Zxv), (317, Zxw), (331, Zxx), (338, Zxy), (359, Zxz), (380, Zya), (387, Zyb), (394, Zyc), (401, Zyd), (408, Zye), (457, Zyf), (471, Zyg), (511, Zyh), (516, Zyi), (531, Zio), (545, Zyj), (559, Zyk), (566, Zyl), (573, Zym), (594, Zyn), (601, Zyo), (606, Zyp), (613, Zyq), (620, Zip), (627, Zyr), (634, Zys), (641, Ziq), (655, Zyt), (662, Zyu), (669, Zyv), (676, Zyw), (683, Zyx), (690, Zyy), (697, Zyz), (704, Zza), (781, Zzb), (788, Zzc), (816, Zzd), (823, Zze), (830, Zzf), (852, Zir), (887, Zzg), (894, Zzh), (901, Zzi), (908, Zzj), (936, Zzk), (955, Zzl), (962, Zzm), (969, Zzn), (976, Zzo), (998, Zzp), (1005, Zzq), (1061, Zzr), (1082, Zzs), (1089, Zzt), (1227, Zzu), (1234, Zzv), (1239, Zzw), (1244, Zzx), (1249, Zzy), (1256, Zzz), (1261, F1261)]
noncomputable def Tq (C n : Nat) : List (Nat × Nat) -> Bool
 | [] => false
 | (a, b) :: r => (Nat.beq a C && Nat.beq b n) || Tq C n r
noncomputable def Tr (C n : Nat) : List (Nat × Nat × Nat) -> Option Nat
 | [] => none
 | (a, b, c) :: r => match Nat.beq a C && Nat.beq b n with
   | true => some c
   | false => Tr C n r
noncomputable def Zis (n : Nat) : List Nat -> Bool
 | [] => false
 | a :: r => Nat.beq a n || Zis n r
noncomputable def WKl : List Nat := [676, 704, 697, 683, 690, 94, 101, 196, 161, 1227, 1234, 1239, 1249, 1256, 28, 35, 42, 49, 56, 66, 601, 669, 606, 573, 73, 516, 317, 457, 641]
noncomputable def T : Tabs := ⟨fun f => Ze f FTl, fun C n => Tr C n MTl, fun C => Ze C INIl, fun C n => Tq C n FOl, fun n => Ze n Hg, fun f => Zis f WKl⟩
end Mine.Ab
end
section
open PySem PySem.W PySem.Calls PyProof.Rows
noncomputable section
namespace Mine.Ab
noncomputable def Zit (x : Str) : Nat := x.cps.toList.foldl (fun a c => a * 256 + c) 1
theorem Yaa : Ki (NTs.map Zit) = true := by decide +kernel
theorem Yab : (NTs.all fun x => match x.cps[0]? with | some c => Nat.ble c 1000000 | none => false) = true := by decide +kernel
theorem Ziu : ∀ {l : List Nat} {i j : Nat} {a : Nat}, Ki l = true -> l[i]? = some a -> l[j]? = some a -> i = j
 | [], i, j, a, _, h, _ => by simp at h
 | b :: r, i, j, a, u, hi, hj => by
  refine aE (show ((r.all fun c => !(Nat.beq b c)) && Ki r) = true from u) fun u1 u2 => ?_
  have ne : ∀ {k : Nat}, r[k]? = some b -> False := fun {k} h => by
   have := List.all_eq_true.mp u1 b (List.mem_of_getElem? h)
   simp at this
  cases i with
  | zero =>
   cases j with
   | zero => rfl
   | succ j => simp only [List.getElem?_cons_zero, Option.some.injEq, List.getElem?_cons_succ] at hi hj; subst hi; exact (ne hj).elim
  | succ i =>
   cases j with
   | zero => simp only [List.getElem?_cons_zero, Option.some.injEq, List.getElem?_cons_succ] at hi hj; subst hj; exact (ne hi).elim
   | succ j => simp only [List.getElem?_cons_succ] at hi hj; exact congrArg Nat.succ (Ziu u2 hi hj)
noncomputable def nm (i : Nat) : Str := match NTs[i]? with
 | some x => x
 | none => ⟨#[2000000, i]⟩
theorem Ziv {i j : Nat} (h : nm i = nm j) : i = j := by
 have low : ∀ {x : Str} {k l : Nat}, NTs[k]? = some x -> x = ⟨#[2000000, l]⟩ -> False := fun {x k l} e e' => by
  have := List.all_eq_true.mp Yab x (List.mem_of_getElem? e)
  rw [e'] at this
  exact Bool.noConfusion this
 unfold nm at h
 cases hi : NTs[i]? with
 | some x =>
  cases hj : NTs[j]? with
  | some y =>
   rw [hi, hj] at h
   obtain rfl : x = y := h
   exact Ziu Yaa (a := Zit x) (by rw [List.getElem?_map, hi]; rfl) (by rw [List.getElem?_map, hj]; rfl)
  | none =>
   rw [hi, hj] at h
   exact (low hi h).elim
 | none =>
  cases hj : NTs[j]? with
  | some y =>
   rw [hi, hj] at h
   exact (low hj h.symm).elim
  | none =>
   rw [hi, hj] at h
   have : (#[2000000, i] : Array Nat) = #[2000000, j] := congrArg Str.cps h
   simpa using this
theorem Ziw {x : Str} : ∀ {l : List Str} {n i : Nat}, Sx x l n = some i -> n <= i /\ l[i - n]? = some x
 | [], n, i, h => nomatch h
 | y :: r, n, i, h => by
  unfold Sx at h
  cases z : x == y with
  | true =>
   rw [z] at h
   (replace h := sI h; subst h)
   rw [beq_iff_eq.mp z]
   exact ⟨Nat.le_refl _, by simp⟩
  | false =>
   rw [z] at h
   refine Zg (Ziw h) fun h1 h2 => ?_
   refine ⟨Nat.le_of_succ_le h1, ?_⟩
   rw [show i - n = (i - (n + 1)) + 1 by exact gq (M2 (N4 _ _ _ _) V0 1 (.a nA nC) nD (@Wb i n (gl (L1 (N2 _ _) V0 1 (.a nA kI) nB (nl h1) nA nB rfl))) (-1) (.a nB (.a nC kI)) nD (@Wb i (n + 1) (gl (L1 (N2 _ _) V0 1 (.a nA kI) nB (nl h1) (.a nA kI) nB rfl))) nA (.a nB kI) rfl), List.getElem?_cons_succ]
   exact h2
theorem Hh {x : Str} {i : Nat} (h : Zw x = some i) : nm i = x := by
 have := (Ziw h).2
 unfold nm
 rw [Nat.sub_zero] at this
 rw [this]
theorem Wn {a b : Nat} (h : Nat.beq a b = true) : a = b := Nat.eq_of_beq_eq_true h
theorem Gu {a b : Nat} (h : Nat.beq a b = false) : a ≠ b := Nat.ne_of_beq_eq_false h
theorem Ts (a : Nat) : Nat.beq a a = true := Nat.beq_refl a
theorem Sz {a b : Nat} (h : a ≠ b) : Nat.beq a b = false := by
 cases z : Nat.beq a b with
 | true => exact absurd (Wn z) h
 | false => rfl
theorem Ue {α : Type} {x : Nat} {v : α} : ∀ {l : List (Nat × α)}, Ze x l = some v -> (x, v) ∈ l
 | [], h => nomatch h
 | (k, u) :: r, h => by
  unfold Ze at h
  cases z : Nat.beq k x with
  | true => rw [z] at h; (replace h := sI h; subst h); rw [Wn z]; exact .head _
  | false => rw [z] at h; exact .tail _ (Ue h)
theorem Zaa {α : Type} {x : Nat} {v : α} (y : Nat) : ∀ {l : List (Nat × α)}, Ze y (Yk x v l) = if y = x then some v else Ze y l
 | [] => by
   unfold Yk Ze
   by_cases h : y = x
   · subst h; rw [if_pos rfl, Ts]
   · rw [if_neg h, Sz (Ne.symm h)]; rfl
 | (k, u) :: r => by
   unfold Yk
   cases z : Nat.beq k x with
   | true =>
     have := Wn z
     subst this
     dsimp only
     by_cases h : y = k
     · subst h; rw [if_pos rfl]; unfold Ze; rw [Ts]
     · rw [if_neg h]
       unfold Ze
       rw [Sz (Ne.symm h)]
   | false =>
     dsimp only
     unfold Ze
     cases z' : Nat.beq k y with
     | true =>
       have := Wn z'
       subst this
       rw [if_neg (Gu z)]
     | false => exact Zaa y
theorem Zab {α : Type} {x : Nat} {v : α} : ∀ {l : List (Nat × α)} {p : Nat × α}, p ∈ Yk x v l -> p = (x, v) \/ p ∈ l
 | [], p, h => .inl (List.mem_singleton.mp h)
 | (k, u) :: r, p, h => by
   unfold Yk at h
   cases z : Nat.beq k x with
   | true =>
     rw [z] at h
     rcases List.mem_cons.mp h with h | h
     · rw [Wn z] at h; exact .inl h
     · exact .inr (.tail _ h)
   | false =>
     rw [z] at h
     rcases List.mem_cons.mp h with h | h
     · exact .inr (h ▸ .head _)
     · rcases Zab h with h | h
       · exact .inl h
       · exact .inr (.tail _ h)
theorem Zix {α : Type} {x : Nat} {v u : α} : ∀ {l : List (Nat × α)}, Ze x l = some u -> (Yk x v l).map (·.1) = l.map (·.1)
 | [], h => nomatch h
 | (k, w) :: r, h => by
  unfold Yk
  unfold Ze at h
  cases z : Nat.beq k x with
  | true => rfl
  | false => rw [z] at h; exact congrArg (k :: ·) (Zix h)
noncomputable def cv (ρ : Nat -> Addr) : V -> Value
 | .none => .none
 | .bool b => .bool b
 | .int i => I i
 | .str l => Mine.T l
 | .ref i => .ref (ρ i)
noncomputable def Zy (ρ : Nat -> Addr) : O -> AO
 | .il l => .lst (l.map Mine.I)
 | .sil l => .slst (l.map Mine.I)
 | .lst xs => .lst (xs.map (cv ρ))
 | .plst n ys => .plst n (ys.map (cv ρ))
 | .tup xs => .tup (xs.map (cv ρ))
 | .inst C fs => .inst C (fs.map fun p => (nm p.1, cv ρ p.2))
 | .dct es => .idct es.length fun k => (Yn k es).map (cv ρ)
 | .pdct es => .pdct fun k => (Yn k es).map (cv ρ)
noncomputable def Ext (n : Nat) (ρ ρ' : Nat -> Addr) : Prop := ∀ i, i < n -> ρ' i = ρ i
theorem Ext.rfl {n : Nat} {ρ : Nat -> Addr} : Ext n ρ ρ := fun _ _ => Eq.refl _
theorem Ext.trans {n n' : Nat} {ρ ρ' ρ'' : Nat -> Addr} (h : Ext n ρ ρ') (h' : Ext n' ρ' ρ'') (l : n <= n') : Ext n ρ ρ'' := fun i q => (h' i (Nat.lt_of_lt_of_le q l)).trans (h i q)
theorem Ext.le {n n' : Nat} {ρ ρ' : Nat -> Addr} (h : Ext n' ρ ρ') (l : n <= n') : Ext n ρ ρ' := fun i q => h i (Nat.lt_of_lt_of_le q l)
section
variable {n n' : Nat} {ρ ρ' : Nat -> Addr}
theorem Ys (h : Ext n ρ ρ') {v : V} (hv : v.lt n) : cv ρ' v = cv ρ v := by
 cases v with
 | ref i => exact congrArg Value.ref (h i hv)
 | _ => rfl
theorem Hi (h : Ext n ρ ρ') {vs : List V} (hv : ∀ v ∈ vs, v.lt n) : vs.map (cv ρ') = vs.map (cv ρ) := List.map_congr_left fun v q => Ys h (hv v q)
theorem Kn {k : Int} {v : V} : ∀ {es : List (Int × V)}, Yn k es = some v -> (k, v) ∈ es
 | [], h => nomatch h
 | (j, u) :: r, h => by
  unfold Yn at h
  cases z : decide (j = k) with
  | true => rw [z] at h; (replace h := sI h; subst h); rw [of_decide_eq_true z]; exact .head _
  | false => rw [z] at h; exact .tail _ (Kn h)
theorem Ziy (h : Ext n ρ ρ') {es : List (Int × V)} (he : ∀ p ∈ es, p.2.lt n) : (fun k => (Yn k es).map (cv ρ')) = fun k => (Yn k es).map (cv ρ) := funext fun k => by
 cases z : Yn k es with
 | none => rfl
 | some v => exact congrArg some (Ys h (he _ (Kn z)))
theorem Tt (h : Ext n ρ ρ') {o : O} (ho : o.lt n) : Zy ρ' o = Zy ρ o := by
 cases o with
 | il l => rfl
 | sil l => rfl
 | lst xs => exact congrArg AO.lst (Hi h ho)
 | plst k xs => exact congrArg (AO.plst k) (Hi h ho)
 | tup xs => exact congrArg AO.tup (Hi h ho)
 | inst C fs => exact congrArg (AO.inst C) (List.map_congr_left fun p q => by rw [Ys h (ho p q)])
 | dct es => exact congrArg (AO.idct es.length) (Ziy h ho)
 | pdct es => exact congrArg AO.pdct (Ziy h ho)
theorem V.lt.le {v : V} (h : v.lt n) (l : n <= n') : v.lt n' := by
 cases v with
 | ref i => exact Nat.lt_of_lt_of_le h l
 | _ => trivial
theorem O.lt.le {o : O} (h : o.lt n) (l : n <= n') : o.lt n' := by
 cases o with
 | il l => trivial
 | sil l => trivial
 | lst xs => exact fun v q => (h v q).le l
 | plst k xs => exact fun v q => (h v q).le l
 | tup xs => exact fun v q => (h v q).le l
 | inst C fs => exact fun v q => (h v q).le l
 | dct es => exact fun v q => (h v q).le l
 | pdct es => exact fun v q => (h v q).le l
noncomputable def Xr (ρ : Nat -> Addr) (a : Addr) : List (Nat × O) -> Option AO
 | [] => none
 | (i, o) :: r => if ρ i = a then some (Zy ρ o) else Xr ρ a r
noncomputable def Za (ρ : Nat -> Addr) (H : Hp) : St := fun a => Xr ρ a H.ob
structure Wf (ρ : Nat -> Addr) (H : Hp) : Prop where
 keys : (H.ob.map (·.1)).Nodup
 inj : ∀ p ∈ H.ob, ∀ q ∈ H.ob, ρ p.1 = ρ q.1 -> p.1 = q.1
 lt : ∀ p ∈ H.ob, p.1 < H.nx /\ p.2.lt H.nx
variable {H : Hp} {i : Nat} {o o' : O} {a : Addr}
theorem Ziz : ∀ {l : List (Nat × O)}, (∀ p ∈ l, ρ p.1 = ρ i -> p.1 = i) -> Xr ρ (ρ i) l = (Ze i l).map (Zy ρ)
 | [], _ => rfl
 | (k, u) :: r, h => by
  unfold Xr Ze
  cases z : Nat.beq k i with
  | true => rw [Wn z, if_pos rfl]; rfl
  | false =>
   rw [if_neg fun y => Gu z (h _ (.head _) y)]
   exact Ziz fun p q => h p (.tail _ q)
theorem Wf.at_ (W : Wf ρ H) (h : H.look i = some o) : ∀ p ∈ H.ob, ρ p.1 = ρ i -> p.1 = i := fun p q e => W.inj p q _ (Ue h) e
theorem Wf.look (W : Wf ρ H) (h : H.look i = some o) : Za ρ H (ρ i) = some (Zy ρ o) := by
 show Xr ρ (ρ i) H.ob = _
 rw [Ziz (W.at_ h), show Ze i H.ob = some o from h]; rfl
theorem Wf.olt (W : Wf ρ H) (h : H.look i = some o) : o.lt H.nx := (W.lt _ (Ue h)).2
theorem Wf.ilt (W : Wf ρ H) (h : H.look i = some o) : i < H.nx := (W.lt _ (Ue h)).1
theorem Zja {u : O} : ∀ {l : List (Nat × O)}, Ze i l = some u -> (∀ p ∈ l, ρ p.1 = ρ i -> p.1 = i) -> Xr ρ a (Yk i o' l) = if a = ρ i then some (Zy ρ o') else Xr ρ a l
 | [], h, _ => nomatch h
 | (k, w) :: r, h, q => by
   unfold Yk
   unfold Ze at h
   cases z : Nat.beq k i with
   | true =>
     have := Wn z
     subst this
     dsimp only
     unfold Xr
     by_cases y : a = ρ k
     · subst y; simp
     · rw [if_neg y, if_neg (Ne.symm y), if_neg (Ne.symm y)]
   | false =>
     rw [z] at h
     dsimp only
     unfold Xr
     by_cases y : ρ k = a
     · rw [if_pos y, if_pos y, if_neg fun y' => Gu z (q _ (.head _) (y.trans y'))]
     · rw [if_neg y, if_neg y]
       exact Zja h fun p s => q p (.tail _ s)
theorem Wf.st_set (W : Wf ρ H) (h : H.look i = some o) : Za ρ (H.set i o') = upd (Za ρ H) (ρ i) (Zy ρ o') := funext fun a => Zja h (W.at_ h)
theorem Wf.set (W : Wf ρ H) (h : H.look i = some o) (ho : o'.lt H.nx) : Wf ρ (H.set i o') := by
 have mem : ∀ p ∈ Yk i o' H.ob, ∃ q ∈ H.ob, q.1 = p.1 := fun p hp => by
   rcases Zab hp with rfl | hp
   · exact Zp _ (Ue h) rfl
   · exact Zp p hp rfl
 refine ⟨?_, fun p hp q hq e => ?_, fun p hp => ?_⟩
 · show ((Yk i o' H.ob).map (·.1)).Nodup
   rw [Zix h]; exact W.keys
 · refine Zb (mem p hp) fun p' hp' e1 => ?_
   refine Zb (mem q hq) fun q' hq' e2 => ?_
   rw [<- e1, <- e2] at e ⊢
   exact W.inj _ hp' _ hq' e
 · rcases Zab hp with rfl | hp
   · exact ⟨W.ilt h, ho⟩
   · exact W.lt p hp
noncomputable def Jg (ρ : Nat -> Addr) (n : Nat) (a : Addr) : Nat -> Addr := fun i => if i = n then a else ρ i
theorem bump_at {n : Nat} : Jg ρ n a n = a := if_pos rfl
theorem Gv {n : Nat} : Ext n ρ (Jg ρ n a) := fun i q => if_neg (Nat.ne_of_lt q)
theorem Zjb (h : Ext n ρ ρ') : ∀ {l : List (Nat × O)}, (∀ p ∈ l, p.1 < n /\ p.2.lt n) -> Xr ρ' a l = Xr ρ a l
 | [], _ => rfl
 | (k, u) :: r, q => by
  unfold Xr
  rw [h k (q _ (.head _)).1, Tt h (q _ (.head _)).2, Zjb h fun p s => q p (.tail _ s)]
theorem Wf.st_new (W : Wf ρ H) (ho : o.lt H.nx) : Za (Jg ρ H.nx a) (H.new o) = upd (Za ρ H) a (Zy ρ o) := by
 funext b
 show Xr _ b ((H.nx, o) :: H.ob) = _
 unfold Xr upd
 rw [bump_at, Tt Gv ho, Zjb Gv W.lt]
 by_cases z : b = a
 · subst z; simp
 · rw [if_neg (Ne.symm z), if_neg z]; rfl
theorem Zcl : ∀ {l : List (Nat × O)}, Xr ρ a l = none -> ∀ p ∈ l, ρ p.1 ≠ a
 | [], _, p, hp => nomatch hp
 | (k, u) :: r, h, p, hp => by
   unfold Xr at h
   by_cases z : ρ k = a
   · rw [if_pos z] at h; exact Wh h
   · rw [if_neg z] at h
     rcases List.mem_cons.mp hp with rfl | hp
     · exact z
     · exact Zcl h p hp
theorem Wf.new (W : Wf ρ H) (ho : o.lt H.nx) (hn : Za ρ H a = none) : Wf (Jg ρ H.nx a) (H.new o) := by
 have lt := W.lt
 refine ⟨?_, fun p hp q hq e => ?_, fun p hp => ?_⟩
 · show ((H.nx, o) :: H.ob |>.map (·.1)).Nodup
   rw [List.map_cons, List.nodup_cons]
   refine ⟨fun hm => ?_, W.keys⟩
   refine Zb (List.mem_map.mp hm) fun p hp e => ?_
   have := (W.lt p hp).1
   exact absurd e (Nat.ne_of_lt this)
 · have old : ∀ p ∈ H.ob, Jg ρ H.nx a p.1 = ρ p.1 := fun p hp => Gv _ (lt p hp).1
   rcases List.mem_cons.mp hp with rfl | hp <;> rcases List.mem_cons.mp hq with rfl | hq
   · rfl
   · rw [bump_at, old q hq] at e; exact absurd e.symm (Zcl hn q hq)
   · rw [bump_at, old p hp] at e; exact absurd e (Zcl hn p hp)
   · rw [old p hp, old q hq] at e; exact W.inj p hp q hq e
 · rcases List.mem_cons.mp hp with rfl | hp
   · exact ⟨Nat.lt_succ_self _, ho.le (Nat.le_succ _)⟩
   · exact ⟨Nat.lt_succ_of_lt (lt p hp).1, (lt p hp).2.le (Nat.le_succ _)⟩
end
end Mine.Ab
end
noncomputable section
namespace Mine.Ab
inductive KP {α β : Type} (lt : Nat -> α -> Prop) (c : (Nat -> Addr) -> α -> β) (ρ : Nat -> Addr) (N : Nat) (Q : α -> Hp -> Prop) (b : β) (σ : St) : Prop
 | mk (ρ' : Nat -> Addr) (H' : Hp) (a : α) (le : N <= H'.nx) (ext : Ext N ρ ρ') (wf : Wf ρ' H') (l : lt H'.nx a) (eb : b = c ρ' a) (es : σ = Za ρ' H') (q : Q a H') : KP lt c ρ N Q b σ
noncomputable def Yt (n : Nat) (vs : List V) : Prop := ∀ v ∈ vs, v.lt n
noncomputable abbrev KV (ρ : Nat -> Addr) (N : Nat) (Q : V -> Hp -> Prop) : Value -> St -> Prop := KP (fun n v => V.lt n v) cv ρ N Q
noncomputable abbrev KL (ρ : Nat -> Addr) (N : Nat) (Q : List V -> Hp -> Prop) : List Value -> St -> Prop := KP Yt (fun ρ => List.map (cv ρ)) ρ N Q
noncomputable abbrev KB (ρ : Nat -> Addr) (N : Nat) (Q : Bool -> Hp -> Prop) : Bool -> St -> Prop := KP (fun _ _ => True) (fun _ b => b) ρ N Q
noncomputable abbrev KU (ρ : Nat -> Addr) (N : Nat) (Q : Hp -> Prop) : Unit -> St -> Prop := KP (fun _ _ => True) (fun _ b => b) ρ N fun _ => Q
section
variable {α β : Type} {lt : Nat -> α -> Prop} {c : (Nat -> Addr) -> α -> β} {ρ ρ' : Nat -> Addr} {N : Nat} {H H' : Hp} {Q Q' : α -> Hp -> Prop} {b : β} {σ : St}
theorem KP.here {a : α} (W : Wf ρ H) (hl : lt H.nx a) (h : Q a H) : KP lt c ρ H.nx Q (c ρ a) (Za ρ H) := ⟨ρ, H, a, Nat.le_refl _, Ext.rfl, W, hl, rfl, rfl, h⟩
theorem KP.up (h : KP lt c ρ' N Q b σ) {M : Nat} (l : M <= N) (e : Ext M ρ ρ') : KP lt c ρ M Q b σ := by
 obtain ⟨ρ2, H2, a, h1, h2, h3, h4, h5, h6, h7⟩ := h
 exact ⟨ρ2, H2, a, Nat.le_trans l h1, e.trans h2 l, h3, h4, h5, h6, h7⟩
end
section
variable {B : Bgd} {A : Around} {E : Value -> Shared -> Prop} {ψ : St} {ρ : Nat -> Addr} {H : Hp} {Q : V -> Hp -> Prop} {o : O} {i : Nat}
theorem KP.all {G : β -> St -> Prop} (k : ∀ ρ' H' a, N <= H'.nx -> Ext N ρ ρ' -> Wf ρ' H' -> lt H'.nx a -> Q a H' -> G (c ρ' a) (Za ρ' H')) : ∀ b σ, KP lt c ρ N Q b σ -> G b σ := by
 rintro _ _ ⟨ρ1, H1, a, l, x, W, v, rfl, rfl, q⟩; exact k _ _ _ l x W v q
theorem KL.all {Q : List V -> Hp -> Prop} {G : List Value -> St -> Prop} (k : ∀ ρ' H' (a : List V), N <= H'.nx -> Ext N ρ ρ' -> Wf ρ' H' -> Yt H'.nx a -> Q a H' -> G (a.map (cv ρ')) (Za ρ' H')) : ∀ b σ, KL ρ N Q b σ -> G b σ := by
 rintro _ _ ⟨ρ1, H1, a, l, x, W, v, rfl, rfl, q⟩; exact k _ _ _ l x W v q
theorem KB.all {Q : Bool -> Hp -> Prop} {G : Bool -> St -> Prop} (k : ∀ ρ' H' a, N <= H'.nx -> Ext N ρ ρ' -> Wf ρ' H' -> True -> Q a H' -> G a (Za ρ' H')) : ∀ b σ, KB ρ N Q b σ -> G b σ := by
 rintro _ _ ⟨ρ1, H1, a, l, x, W, v, rfl, rfl, q⟩; exact k _ _ _ l x W v q
theorem Wf.here {v : V} (W : Wf ρ H) (hl : v.lt H.nx) (h : Q v H) : KV ρ H.nx Q (cv ρ v) (Za ρ H) := KP.here W hl h
theorem Wf.newV (W : Wf ρ H) (ho : o.lt H.nx) (h : H.newK o fun a H => Q (.ref a) H) : ∀ b, Za ρ H b = none -> KV ρ H.nx Q (.ref b) (upd (Za ρ H) b (Zy ρ o)) := fun b hb =>
 ⟨Jg ρ H.nx b, H.new o, .ref H.nx, Nat.le_succ _, Gv, W.new ho hb, Nat.lt_succ_self _, congrArg Value.ref bump_at.symm, (W.st_new ho).symm, h⟩
theorem Wf.setU {o' : O} {Q : Hp -> Prop} (W : Wf ρ H) (hi : H.look i = some o) (ho : o'.lt H.nx) (h : H.setK i o' Q) : KU ρ H.nx Q () (upd (Za ρ H) (ρ i) (Zy ρ o')) :=
 ⟨ρ, H.set i o', (), Nat.le_refl _, Ext.rfl, W.set hi ho, trivial, rfl, (W.st_set hi).symm, by rw [Rz] at h; exact h⟩
theorem Wf.setV {o' : O} {v : V} (W : Wf ρ H) (hi : H.look i = some o) (ho : o'.lt H.nx) (hv : v.lt H.nx) (h : H.setK i o' fun H => Q v H) : KV ρ H.nx Q (cv ρ v) (upd (Za ρ H) (ρ i) (Zy ρ o')) :=
 ⟨ρ, H.set i o', v, Nat.le_refl _, Ext.rfl, W.set hi ho, hv, rfl, (W.st_set hi).symm, by rw [Rz] at h; exact h⟩
theorem Uk {c : Bool} {A : Prop} (h : br c A False) : c = true /\ A := by
 cases h with
 | t e h => exact ⟨e, h⟩
 | f _ h => exact h.elim
theorem Yo {c : Bool} {A C : Prop} (h : br c A False) (k : c = true -> A -> C) : C := k (Uk h).1 (Uk h).2
theorem Wr {n : Nat} (h : sz n = true) : n <= sizeLine := by
 have := Nat.le_of_ble_eq_true h
 rw [sizeLine_eq]; exact Nat.le_trans (by assumption) (Nat.le_add_left _ _)
theorem Zjc (l : List Nat) : (Str.mk l.toArray).length = l.length := by simp [Str.length]
theorem Yac (x y : List Nat) : (Str.mk x.toArray ++ Str.mk y.toArray) = Str.mk (x ++ y).toArray := by
 show Str.mk (x.toArray ++ y.toArray) = _
 rw [List.append_toArray]
theorem Uz (W : Wf ρ H) {l : List Int} (h : H.look i = some (.il l)) : isLst (Za ρ H) (ρ i) (l.map Mine.I) := .inl (W.look h)
theorem Yad (W : Wf ρ H) {l : List Int} (h : H.look i = some (.sil l)) : isLst (Za ρ H) (ρ i) (l.map Mine.I) := .inr (W.look h)
theorem Tu (W : Wf ρ H) {xs : List V} (h : H.look i = some (.lst xs)) : isLst (Za ρ H) (ρ i) (xs.map (cv ρ)) := .inl (W.look h)
theorem Zac {n : Nat} {xs ys : List V} (h1 : Yt n xs) (h2 : Yt n ys) : Yt n (xs ++ ys) := fun v h => (List.mem_append.mp h).elim (h1 v) (h2 v)
theorem Tv {n : Nat} : Yt n [] := fun v h => nomatch h
theorem Yae {a b : V} (W : Wf ρ H) (h : Zgw a b Q H) : Uq B A ψ (binaryOp .Add) (cv ρ a) (cv ρ b) (KV ρ H.nx Q) E (Za ρ H) := by
 cases a with
 | int i => (refine iE h ?_; clear h; rintro j rfl h); exact Zpt (W.here (v := .int _) trivial h)
 | str x =>
  (refine sE h ?_; clear h; rintro y rfl h)
  refine Yo h fun h1 h2 => ?_
  refine Zqa (by rw [Zjc, Zjc]; exact Wr h1) ?_
  rw [Yac]
  exact W.here (v := .str _) trivial h2
 | ref i =>
  (refine rE h ?_; clear h; rintro j rfl h)
  (refine kE h ?_; clear h; intro o1 l1 h)
  (refine Os h ?_; clear h; rintro xs rfl h)
  (refine kE h ?_; clear h; intro o2 l2 h)
  (refine Os h ?_; clear h; rintro ys rfl h)
  refine Yo h fun h1 h2 => ?_
  refine Zsc (Uz W l1) (Uz W l2) (by simpa using Wr h1) fun c hc => ?_
  rw [<- List.map_append]
  exact W.newV (o := .il _) trivial h2 c hc
 | _ => exact False.elim h
theorem Yaf {a b : V} (W : Wf ρ H) (h : Zgx a b Q H) : Uq B A ψ (binaryOp .Mult) (cv ρ a) (cv ρ b) (KV ρ H.nx Q) E (Za ρ H) := by
 cases a with
 | int i =>
  (refine iE h ?_; clear h; rintro j rfl h)
  refine Yo h fun h1 h2 => ?_
  (refine Xs (of_decide_eq_true h1) ?_; clear h1; intro h1 h3 h4 h5)
  exact Zpv (IntMulOk.of_left (intBits_le_64 h1 h3)) (W.here (v := .int _) trivial h2)
 | ref i =>
  (refine iE h ?_; clear h; rintro k rfl h)
  (refine kE h ?_; clear h; intro o1 l1 h)
  (refine Os h ?_; clear h; rintro xs rfl h)
  (refine Zb (Xn h) ?_; clear h; rintro v rfl h)
  refine Yo h fun h1 h2 => ?_
  (refine Zg (of_decide_eq_true h1) ?_; clear h1; intro h1 h3)
  refine Zsd (Uz W l1) (by exact nc fun zz => L2 N0 (V1 _) 1 (.a (.k (-4611686018427387904)) kI) vA (li h1) 1 (.a vA kI) (.k (-9223372036854775808)) zz kI kZ rfl) (by omega) fun c hc => ?_
  rw [<- List.map_replicate]
  exact W.newV (o := .il _) trivial h2 c hc
 | _ => exact False.elim h
theorem Yag {op : Operator} {k : Nat} {a b : V} (hop : opN op = some k) (W : Wf ρ H) (h : opS k a b Q H) : Uq B A ψ (binaryOp op) (cv ρ a) (cv ρ b) (KV ρ H.nx Q) E (Za ρ H) := by
 cases op <;> (first | exact Zk hop | (replace hop := sI hop; subst hop))
 · exact Yae W h
 · (refine iE h ?_; clear h; rintro i rfl h)
   (refine iE h ?_; clear h; rintro j rfl h)
   exact Zpu (W.here (v := .int _) trivial h)
 · exact Yaf W h
 · (refine iE h ?_; clear h; rintro i rfl h)
   (refine iE h ?_; clear h; rintro j rfl h)
   refine Yo h fun h1 h2 => ?_
   (refine Zg (of_decide_eq_true h1) ?_; clear h1; intro h1 h3)
   refine Zpy h1 h3 ?_
   rw [Int.fmod_eq_emod_of_nonneg _ (Int.le_of_lt h1)]
   exact W.here (v := .int _) trivial h2
 · (refine iE h ?_; clear h; rintro i rfl h)
   (refine iE h ?_; clear h; rintro j rfl h)
   refine Yo h fun h1 h2 => ?_
   (refine Xs (of_decide_eq_true h1) ?_; clear h1; intro h1 h3 h4 h5)
   refine Zpz h4 ?_ (W.here (v := .int _) trivial h2)
   have h6 : (Builtin.Int.intBits i : Int) <= 64 := Int.ofNat_le.mpr (intBits_le_64 (show -(2 ^ 64) < i by exact il (nc fun zz => L2 N0 (V1 _) 1 kZ vA h1 1 (.a vA kI) (.a (.k (-18446744073709551616)) kI) zz kI kZ rfl)) (show i < 2 ^ 64 by exact il (nc fun zz => L2 N0 (V1 _) 1 vA (.k 16) h3 1 (.a (.k 18446744073709551616) kI) (.a vA kI) zz kI kZ rfl)))
   calc (Builtin.Int.intBits i : Int) * j <= 64 * j := Int.mul_le_mul_of_nonneg_right h6 h4
     _ <= 64 * 100 := Int.mul_le_mul_of_nonneg_left h5 (by decide)
     _ <= 2 ^ 27 := by decide
 · (refine iE h ?_; clear h; rintro i rfl h)
   (refine iE h ?_; clear h; rintro j rfl h)
   refine Yo h fun h1 h2 => ?_
   (refine Zg (of_decide_eq_true h1) ?_; clear h1; intro h1 h3)
   refine Zpx h1 h3 ?_
   rw [Int.fdiv_eq_ediv_of_nonneg _ (Int.le_of_lt h1)]
   exact W.here (v := .int _) trivial h2
theorem Wf.hereB {b : Bool} {Q : Bool -> Hp -> Prop} (W : Wf ρ H) (h : Q b H) : KB ρ H.nx Q b (Za ρ H) := KP.here W trivial h
theorem Zjd (x y : List Nat) : ((Str.mk x.toArray) == (Str.mk y.toArray)) = decide (x = y) := by
 rw [Bool.eq_iff_iff, beq_iff_eq, decide_eq_true_iff]
 exact ⟨fun h => by simpa using Str.mk.inj h, fun h => by rw [h]⟩
theorem Zje (i j : Int) : (i == j) = decide (i = j) := by rw [Bool.eq_iff_iff, beq_iff_eq, decide_eq_true_iff]
theorem Yah {n : Nat} (R : Room A n) {a b : V} {Q : Bool -> Hp -> Prop} (W : Wf ρ H) (h : Sj a b H fun c => Q c H) : Wj B A ψ .Eq (cv ρ a) (cv ρ b) (KB ρ H.nx Q) E (Za ρ H) := by
 cases a with
 | int i => (refine iE h ?_; clear h; rintro j rfl h); refine Zqb (W.hereB ?_); rw [Zje]; exact h
 | str x => (refine sE h ?_; clear h; rintro y rfl h); refine Zqh (W.hereB ?_); rw [Zjd]; exact h
 | ref i =>
  (refine rE h ?_; clear h; rintro j rfl h)
  (refine kE h ?_; clear h; intro o1 l1 h)
  (refine Os h ?_; clear h; rintro xs rfl h)
  (refine kE h ?_; clear h; intro o2 l2 h)
  (refine Os h ?_; clear h; rintro ys rfl h)
  exact Zun R (Uz W l1) (Uz W l2) (W.hereB h)
 | _ => exact False.elim h
theorem Yai {n : Nat} (R : Room A n) {a b : V} {Q : Bool -> Hp -> Prop} (W : Wf ρ H) (h : Sj a b H fun c => Q (!c) H) : Wj B A ψ .NotEq (cv ρ a) (cv ρ b) (KB ρ H.nx Q) E (Za ρ H) := by
 cases a with
 | int i => (refine iE h ?_; clear h; rintro j rfl h); refine Zqc (W.hereB ?_); rw [show ∀ i j : Int, (i != j) = !decide (i = j) from fun i j => congrArg not (Zje i j)]; exact h
 | str x => (refine sE h ?_; clear h; rintro y rfl h); refine Zqj (W.hereB ?_); rw [show ∀ x y : Str, (x != y) = !(x == y) from fun _ _ => rfl, Zjd]; exact h
 | ref i =>
  (refine rE h ?_; clear h; rintro j rfl h)
  (refine kE h ?_; clear h; intro o1 l1 h)
  (refine Os h ?_; clear h; rintro xs rfl h)
  (refine kE h ?_; clear h; intro o2 l2 h)
  (refine Os h ?_; clear h; rintro ys rfl h)
  exact Zuo R (Uz W l1) (Uz W l2) (W.hereB h)
 | _ => exact False.elim h
theorem Gw {n : Nat} (R : Room A n) {op : CmpOp} {a b : V} {Q : Bool -> Hp -> Prop} (W : Wf ρ H) (h : Ha (Kl op) a b H fun c => Q c H) : Wj B A ψ op (cv ρ a) (cv ρ b) (KB ρ H.nx Q) E (Za ρ H) := by
 cases op with
 | Eq => exact Yah R W h
 | NotEq => exact Yai R W h
 | Lt => (refine iE h ?_; clear h; rintro i rfl h); (refine iE h ?_; clear h; rintro j rfl h); exact Zqd (W.hereB h)
 | LtE => (refine iE h ?_; clear h; rintro i rfl h); (refine iE h ?_; clear h; rintro j rfl h); exact Zqe (W.hereB h)
 | Gt => (refine iE h ?_; clear h; rintro i rfl h); (refine iE h ?_; clear h; rintro j rfl h); exact Zqf (W.hereB h)
 | GtE => (refine iE h ?_; clear h; rintro i rfl h); (refine iE h ?_; clear h; rintro j rfl h); exact Zqg (W.hereB h)
 | Is => (refine Zg (Zbu h) ?_; clear h; rintro rfl h); refine Zqk (W.hereB ?_); cases a <;> exact h
 | IsNot => (refine Zg (Zbu h) ?_; clear h; rintro rfl h); refine Zql (W.hereB ?_); cases a <;> exact h
 | In => (refine sE h ?_; clear h; rintro i rfl h); (refine sE h ?_; clear h; rintro j rfl h); (refine Zb (Xn h) ?_; clear h; rintro c rfl h); exact Zui (W.hereB h)
 | NotIn => (refine sE h ?_; clear h; rintro i rfl h); (refine sE h ?_; clear h; rintro j rfl h); (refine Zb (Xn h) ?_; clear h; rintro c rfl h); exact Zuj (W.hereB h)
theorem Zad {α : Type} {xs : List α} {k : Int} {q : α -> Prop} (h : Tm xs k q) : 0 <= k /\ k < 2 ^ 62 /\ ∃ v, xs[k.toNat]? = some v /\ q v := by
 refine Yo h fun h1 h2 => ?_
 (refine Zg (of_decide_eq_true h1) ?_; clear h1; intro h1 h3)
 exact Xx h1 h3 (getK_eq.mp h2)
theorem Zcm {n : Nat} {xs : List V} (h : Yt n xs) {k : Nat} {v : V} (e : xs[k]? = some v) : v.lt n := h v (List.mem_of_getElem? e)
theorem Yaj {a i : V} (W : Wf ρ H) (h : Zgy a i H fun v => Q v H) : Oq B (Za ρ H) (cv ρ a) /\ ∀ u j, er u = cv ρ a -> er j = cv ρ i -> J B A ψ er (getItem u j) (KV ρ H.nx Q) E (Za ρ H) := by
 cases a with
 | ref a =>
  (refine iE h ?_; clear h; rintro k rfl h)
  (refine kE h ?_; clear h; intro o l1 h)
  cases o with
  | il xs =>
   obtain ⟨h1, h2, v, h3, h4⟩ := Zad h
   exact Zfz (Uz W l1) h1 (by exact il (nc fun zz => L2 N0 (V1 _) 1 (.a vA kI) (.k 4611686018427387904) (li h2) 1 (.a (.k 9223372036854775808) kI) (.a vA kI) zz kI kZ rfl)) (by rw [List.getElem?_map, h3]; rfl) (W.here (v := .int v) trivial h4)
  | lst xs =>
   obtain ⟨h1, h2, v, h3, h4⟩ := Zad h
   exact Zfz (Tu W l1) h1 (by exact il (nc fun zz => L2 N0 (V1 _) 1 (.a vA kI) (.k 4611686018427387904) (li h2) 1 (.a (.k 9223372036854775808) kI) (.a vA kI) zz kI kZ rfl)) (by rw [List.getElem?_map, h3]; rfl) (W.here (Zcm (W.olt l1) h3) h4)
  | tup xs =>
   obtain ⟨h1, h2, v, h3, h4⟩ := Zad h
   (refine Xg (Int.eq_ofNat_of_zero_le h1) ?_; rintro k rfl)
   exact Zrq (W.look l1) (by omega) (by rw [List.getElem?_map, show xs[k]? = some v from h3]; rfl) (W.here (Zcm (W.olt l1) h3) h4)
  | plst n ys =>
   refine Yo h fun h1 h2 => ?_
   (refine Zg (of_decide_eq_true h1) ?_; clear h1; intro h1 h3)
   refine Zb (getK_eq.mp h2) fun v h4 h5 => ?_
   exact Zsq (W.look l1) h1 (by exact il (L1 N0 (V1 _) 1 (.a vA kI) (.k 4611686018427387904) (li h3) (.a vA kI) (.k 9223372036854775808) rfl)) (by rw [List.getElem?_map, h4]; rfl) (W.here (Zcm (W.olt l1) h4) h5)
  | dct es =>
   (refine oE h ?_; clear h; intro v hv h)
   exact Zuu (W.look l1) (by rw [hv]; rfl) (W.here (W.olt l1 _ (Kn hv)) h)
  | _ => exact False.elim h
 | str l =>
  (refine iE h ?_; clear h; rintro k rfl h)
  obtain ⟨h1, h2, v, h3, h4⟩ := Zad h
  exact Zrr h1 (by exact il (nc fun zz => L2 N0 (V1 _) 1 (.a vA kI) (.k 4611686018427387904) (li h2) 1 (.a (.k 9223372036854775808) kI) (.a vA kI) zz kI kZ rfl)) (by simpa using h3) (W.here (v := .str [v]) trivial h4)
 | _ => exact False.elim h
noncomputable def Gx : Nat -> Value
 | 0 => .builtin "len" | 1 => .type "list" | 2 => .type "range" | 3 => .builtin "ord" | 4 => .builtin "abs" | 5 => .builtin "min" | 6 => .builtin "max"
 | 7 => .builtin "any" | 8 => .builtin "all" | 9 => .builtin "sorted" | 10 => .type "str" | _ => .builtin "isinstance"
theorem Uf {c : Bool} {P : Prop} (h : calm c P) : c = true /\ P := by cases c <;> first | exact h.elim | exact ⟨rfl, h⟩
theorem Yak (bs : List Bool) : (bs.map V.bool).map (cv ρ) = bs.map Value.bool := by rw [List.map_map]; rfl
theorem Yal {v : V} (W : Wf ρ H) (h : Zha v H fun n => Q (.int n) H) : Zv B A ψ (.builtin "len") [] [cv ρ v] (KV ρ H.nx Q) E (Za ρ H) := by
 cases v with
 | ref i =>
  (refine kE h ?_; clear h; intro o l1 h)
  cases o with
  | il xs =>
   refine Yo h fun h1 h2 => ?_
   exact Zfv (B := B) (A := A) (ψ := ψ) (Uz W l1) (by simpa using Wr h1) (KV ρ H.nx Q) E (by rw [List.length_map]; exact W.here (v := .int _) trivial h2)
  | lst xs =>
   refine Yo h fun h1 h2 => ?_
   exact Zfv (B := B) (A := A) (ψ := ψ) (Tu W l1) (by simpa using Wr h1) (KV ρ H.nx Q) E (by rw [List.length_map]; exact W.here (v := .int _) trivial h2)
  | plst n xs =>
   refine Yo h fun h1 h2 => ?_
   exact Zsp (W.look l1) (by simpa using Wr h1) (by rw [List.length_map]; exact W.here (v := .int _) trivial h2)
  | _ => exact False.elim h
 | str l =>
  refine Yo h fun h1 h2 => ?_
  exact Zso (Wr h1) (W.here (v := .int _) trivial h2)
 | _ => exact False.elim h
theorem Zjf {v : V} {k : List Bool -> Prop} (W : Wf ρ H) (h : Zbx v H k) : ∃ i bs, v = .ref i /\ isLst (Za ρ H) (ρ i) (bs.map Value.bool) /\ k bs := by
 (refine rE h ?_; clear h; rintro i rfl h)
 (refine kE h ?_; clear h; intro o l1 h)
 (refine Zb (Zsy h) ?_; clear h; rintro xs rfl h)
 (refine Zb h ?_; clear h; rintro bs rfl h)
 exact Qn i bs rfl (Yak bs ▸ Tu W l1) ((Uk h).2)
theorem Yam {c : Bool} {b : Nat} {vs : List V} (O : B.Ok) (hn : Gh ψ) (hh : c = true -> A.handled = none) (W : Wf ρ H) (h : biS c b vs Q H) : Zv B A ψ (Gx b) [] (vs.map (cv ρ)) (KV ρ H.nx Q) E (Za ρ H) := by
 match b, h with
 | 0, h => obtain ⟨v, rfl, h⟩ := Xn h; exact Yal W h
 | 1, h =>
  obtain ⟨v, rfl, h⟩ := Xn h
  obtain ⟨i, rfl, h⟩ := Sd h
  obtain ⟨o, l1, h⟩ := lk_eq.mp h
  obtain ⟨xs, rfl, h⟩ := Zgs h
  obtain ⟨h1, h2⟩ := Uk h
  exact Zro (Uz W l1) (by simpa using Wr h1) fun c hc => W.newV (o := .il _) trivial h2 c hc
 | 2, h => exact False.elim h
 | 3, h =>
  obtain ⟨v, rfl, h⟩ := Xn h
  obtain ⟨l, rfl, h⟩ := Zgq h
  obtain ⟨c, rfl, h⟩ := Xn h
  exact Zsj (W.here (v := .int _) trivial h)
 | 4, h =>
  obtain ⟨v, rfl, h⟩ := Xn h
  obtain ⟨i, rfl, h⟩ := Ja h
  exact Zsk (W.here (v := .int _) trivial h)
 | 5, h =>
  obtain ⟨v, w, rfl, h⟩ := Zbv h
  obtain ⟨i, rfl, h⟩ := Ja h
  obtain ⟨j, rfl, h⟩ := Ja h
  obtain ⟨h0, h⟩ := Uf h
  exact Zsl hn (hh h0) (W.here (v := .int _) trivial h)
 | 6, h =>
  obtain ⟨v, w, rfl, h⟩ := Zbv h
  obtain ⟨i, rfl, h⟩ := Ja h
  obtain ⟨j, rfl, h⟩ := Ja h
  obtain ⟨h0, h⟩ := Uf h
  exact Zsm hn (hh h0) (W.here (v := .int _) trivial h)
 | 7, h =>
  obtain ⟨v, rfl, h⟩ := Xn h
  obtain ⟨h0, h⟩ := Uf h
  obtain ⟨i, bs, rfl, l1, h⟩ := Zjf W h
  exact Zst hn (hh h0) l1 (W.here (v := .bool _) trivial h)
 | 8, h =>
  obtain ⟨v, rfl, h⟩ := Xn h
  obtain ⟨h0, h⟩ := Uf h
  obtain ⟨i, bs, rfl, l1, h⟩ := Zjf W h
  exact Zsu hn (hh h0) l1 (W.here (v := .bool _) trivial h)
 | 9, h =>
  obtain ⟨v, rfl, h⟩ := Xn h
  obtain ⟨h0, h⟩ := Uf h
  obtain ⟨i, rfl, h⟩ := Sd h
  obtain ⟨o, l1, h⟩ := lk_eq.mp h
  cases o with
  | dct es =>
   obtain ⟨rfl, h⟩ := Xu h
   exact Zsx O (hh h0) (W.look l1) fun c hc => W.newV (o := .il []) trivial h c hc
  | _ => exact False.elim h
 | 10, h =>
  obtain ⟨v, rfl, h⟩ := Xn h
  obtain ⟨h0, h⟩ := Uf h
  obtain ⟨i, rfl, h⟩ := Ja h
  obtain ⟨h1, h2⟩ := Uk h
  obtain ⟨h1, h3⟩ := of_decide_eq_true h1
  exact Zum O (hh h0) h1 h3 (W.here (v := .str _) trivial h2)
 | n + 11, h => exact False.elim h
noncomputable def smV : Nat -> String
 | 5 => "str.join" | 6 => "str.isalnum" | 7 => "str.split" | 8 => "str.isalpha" | 9 => "str.islower" | 10 => "str.isupper" | 11 => "str.upper" | _ => "str.lower"
noncomputable def Hj : Nat -> String
 | 0 => "list.append" | 1 => "list.pop" | 2 => "list.insert" | _ => "list.remove"
theorem Zjg (ss : List (List Nat)) : (ss.map V.str).map (cv ρ) = ss.map Mine.T := by rw [List.map_map]; rfl
theorem Yan {t : Tok} {n : Nat} {l : List Nat} {vs : List V} (W : Wf ρ H) (h : smS n l vs Q H) : Zv B A ψ (.builtin (smV n)) [.str ⟨l.toArray⟩ t] (vs.map (cv ρ)) (KV ρ H.nx Q) E (Za ρ H) := by
 match n, h with
 | 0, h => exact False.elim h
 | 1, h => exact False.elim h
 | 2, h => exact False.elim h
 | 3, h => exact False.elim h
 | 4, h => exact False.elim h
 | 5, h =>
  obtain ⟨v, rfl, h⟩ := Xn h
  obtain ⟨i, rfl, h⟩ := Sd h
  obtain ⟨o, l1, h⟩ := lk_eq.mp h
  cases o with
  | il xs => obtain ⟨rfl, h⟩ := Xu h; exact Zug (Uz W l1) (W.here (v := .str []) trivial h)
  | lst xs =>
   obtain ⟨ss, rfl, h⟩ := h
   obtain ⟨h1, h2⟩ := Uk h
   obtain ⟨h1, h3⟩ := Bool.and_eq_true_iff.mp h1
   exact Zhl (Zjg ss ▸ Tu W l1) (Nat.le_of_ble_eq_true h1) (Nat.le_of_ble_eq_true h3) (W.here (v := .str _) trivial h2)
  | _ => exact False.elim h
 | 6, h =>
  obtain ⟨rfl, h⟩ := Xu h
  obtain ⟨h1, h2⟩ := Uk h
  exact Ztx h1 (W.here (v := .bool _) trivial h2)
 | 7, h =>
  obtain ⟨rfl, h⟩ := Xu h
  obtain ⟨h1, h2⟩ := Uk h
  obtain ⟨h1, h3⟩ := Bool.and_eq_true_iff.mp h1
  refine Zue h1 (Nat.le_of_ble_eq_true h3) fun c hc => ?_
  rw [<- Zjg (ρ := ρ)]
  exact W.newV (o := .lst _) (fun v hv => by (refine Zb (List.mem_map.mp hv) ?_; rintro x _ rfl); trivial) h2 c hc
 | 8, h =>
  obtain ⟨rfl, h⟩ := Xu h
  obtain ⟨h1, h2⟩ := Uk h
  exact Zty h1 (W.here (v := .bool _) trivial h2)
 | 9, h =>
  obtain ⟨rfl, h⟩ := Xu h
  obtain ⟨h1, h2⟩ := Uk h
  exact Ztz h1 (W.here (v := .bool _) trivial h2)
 | 10, h =>
  obtain ⟨rfl, h⟩ := Xu h
  obtain ⟨h1, h2⟩ := Uk h
  exact Zua h1 (W.here (v := .bool _) trivial h2)
 | 11, h =>
  obtain ⟨rfl, h⟩ := Xu h
  obtain ⟨h1, h2⟩ := Uk h
  obtain ⟨h1, h3⟩ := Bool.and_eq_true_iff.mp h1
  exact Zub h1 (Wr h3) (W.here (v := .str _) trivial h2)
 | 12, h =>
  obtain ⟨rfl, h⟩ := Xu h
  obtain ⟨h1, h2⟩ := Uk h
  obtain ⟨h1, h3⟩ := Bool.and_eq_true_iff.mp h1
  exact Zuc h1 (Wr h3) (W.here (v := .str _) trivial h2)
 | n + 13, h => exact False.elim h
theorem Zjh (l : List Int) : (l.map V.int).map (cv ρ) = l.map Mine.I := by rw [List.map_map]; rfl
theorem Tw {n : Nat} {v : V} (h : v.lt n) : Yt n [v] := fun w hw => by rw [List.mem_singleton.mp hw]; exact h
theorem Yao {v : V} {i : Nat} {o : O} (W : Wf ρ H) (hv : v.lt H.nx) (l1 : H.look i = some o) (h : apO v o fun o' => H.setK i o' fun H => Q .none H) : Zv B A ψ (.builtin "list.append") [.ref (ρ i)] [cv ρ v] (KV ρ H.nx Q) E (Za ρ H) := by
 cases o with
 | il l =>
  have e0 : Xm l (H.setK i (.lst [v]) fun H => Q .none H) -> Zv B A ψ (.builtin "list.append") [.ref (ρ i)] [cv ρ v] (KV ρ H.nx Q) E (Za ρ H) := fun h => by
   obtain ⟨rfl, h⟩ := Xu h
   refine Zbt (xs := []) (W.look l1) (Nat.zero_le _) ?_
   exact W.setV (v := .none) l1 (o' := .lst [_]) (Tw hv) trivial h
  cases v with
  | int x =>
   refine Yo h fun h1 h2 => ?_
   refine Zbt (W.look l1) (by simpa using Wr h1) ?_
   have := W.setV (v := .none) l1 (o' := .il _) trivial trivial h2
   simp only [Zy, List.map_append, List.map_cons, List.map_nil] at this
   exact this
  | _ => exact e0 h
 | lst xs =>
  refine Yo h fun h1 h2 => ?_
  refine Zbt (W.look l1) (by simpa using Wr h1) ?_
  have := W.setV (v := .none) l1 (o' := .lst _) (Zac (W.olt l1) (Tw hv)) trivial h2
  simp only [Zy, List.map_append, List.map_cons, List.map_nil] at this
  exact this
 | plst n xs =>
  refine Yo h fun h1 h2 => ?_
  refine Zss (W.look l1) (by simpa using Wr h1) ?_
  have := W.setV (v := .none) l1 (o' := .plst _ _) (Zac (W.olt l1) (Tw hv)) trivial h2
  simp only [Zy, List.map_append, List.map_cons, List.map_nil] at this
  exact this
 | _ => exact False.elim h
theorem Zji {i : Int} {P : Prop} (h : is0 i P) : i = 0 /\ P := by
 match i, h with
 | .ofNat 0, h => exact ⟨rfl, h⟩
 | .ofNat (n + 1), h => exact False.elim h
 | .negSucc n, h => exact False.elim h
theorem Yap {n i : Nat} {vs : List V} (W : Wf ρ H) (hv : Yt H.nx vs) (h : lmS n i vs Q H) : Zv B A ψ (.builtin (Hj n)) [.ref (ρ i)] (vs.map (cv ρ)) (KV ρ H.nx Q) E (Za ρ H) := by
 refine kE h fun o l1 h0 => ?_
 clear h
 match n, h0 with
 | 0, h =>
  (refine Zb (Xn h) ?_; clear h; rintro v rfl h)
  exact Yao W (hv v (.head _)) l1 h
 | 1, h =>
  (refine Zb (Xn h) ?_; clear h; rintro v rfl h)
  (refine iE h ?_; clear h; rintro k rfl h)
  (refine Zg (Zji h) ?_; clear h; rintro rfl h)
  (refine Os h ?_; clear h; rintro xs rfl h)
  cases xs with
  | nil => exact False.elim h
  | cons x xs =>
   refine Yo h fun h1 h2 => ?_
   refine Zry (W.look l1) (by have := Nat.le_of_ble_eq_true h1; rw [sizeLine_eq, List.length_map]; omega) ?_
   exact W.setV (v := .int _) l1 (o' := .il _) trivial trivial h2
 | 2, h =>
  (refine Zx (Zbv h) ?_; clear h; rintro v w rfl h)
  (refine iE h ?_; clear h; rintro k rfl h)
  (refine Zg (Zji h) ?_; clear h; rintro rfl h)
  (refine iE h ?_; clear h; rintro v rfl h)
  (refine Os h ?_; clear h; rintro xs rfl h)
  refine Yo h fun h1 h2 => ?_
  refine Zup (W.look l1) (by simpa using Wr h1) ?_
  exact W.setV (v := .none) l1 (o' := .il _) trivial trivial h2
 | 3, h =>
  (refine Zb (Xn h) ?_; clear h; rintro v rfl h)
  (refine iE h ?_; clear h; rintro k rfl h)
  (refine Os h ?_; rintro xs rfl g)
  (refine Zb (Xn g) ?_; rintro j rfl g2)
  refine Yo g2 fun h1 h2 => ?_
  have := of_decide_eq_true h1
  subst this
  refine Zuq (W.look l1) ?_
  exact W.setV (v := .none) l1 (o' := .il []) trivial trivial h2
 | n + 4, h => exact False.elim h
theorem Zjj {es : List (Int × V)} {k : Int} {d : V} : ((Yn k es).map (cv ρ)).getD (cv ρ d) = cv ρ (Sk (Yn k es) d) := by cases Yn k es <;> rfl
theorem Zjk {n : Nat} {es : List (Int × V)} {k : Int} {d : V} (h : ∀ p ∈ es, p.2.lt n) (hd : d.lt n) : (Sk (Yn k es) d).lt n := by
 cases z : Yn k es with
 | none => exact hd
 | some v => exact h _ (Kn z)
theorem Yaq {n i : Nat} {vs : List V} (O : B.Ok) (W : Wf ρ H) (hv : Yt H.nx vs) (h : dmS n i vs Q H) : Zv B A ψ (.builtin "dict.get") [.ref (ρ i)] (vs.map (cv ρ)) (KV ρ H.nx Q) E (Za ρ H) := by
 (refine kE h ?_; clear h; intro o l1 h)
 have h : Zhb vs o fun v => Q v H := by
  match n, h with
  | 0, h => exact False.elim h
  | 1, h => exact False.elim h
  | 2, h => exact False.elim h
  | 3, h => exact False.elim h
  | 4, h => exact h
  | n + 5, h => exact False.elim h
 cases vs with
 | nil => exact False.elim h
 | cons a r =>
  obtain ⟨k, rfl, h⟩ := Ja h
  cases r with
  | nil =>
   cases o with
   | dct es => refine Zur O (W.look l1) ?_; rw [show Value.none = cv ρ .none from rfl, Zjj]; exact W.here (Zjk (W.olt l1) trivial) h
   | _ => exact False.elim h
  | cons d r =>
   obtain ⟨rfl, h⟩ := Xu h
   cases o with
   | dct es => refine Zus O (W.look l1) ?_; rw [Zjj]; exact W.here (Zjk (W.olt l1) (hv d (.tail _ (.head _)))) h
   | pdct es =>
    obtain ⟨v, z, h⟩ := Zgr h
    exact Zut O (W.look l1) (w := cv ρ v) (by rw [z]; rfl) (W.here (W.olt l1 _ (Kn z)) h)
   | _ => exact False.elim h
theorem Yar {o i v : V} {Q : Hp -> Prop} (W : Wf ρ H) (hv : v.lt H.nx) (h : Zby o i v Q H) : ∀ v' o' i', er v' = cv ρ v -> er o' = cv ρ o -> er i' = cv ρ i -> J B A ψ (_root_.id : Unit -> Unit) (setItem o' i' v') (KU ρ H.nx Q) E (Za ρ H) := by
 (refine rE h ?_; clear h; rintro a rfl h)
 (refine iE h ?_; clear h; rintro k rfl h)
 (refine kE h ?_; clear h; intro o l1 h)
 cases o with
 | il xs =>
   (refine iE h ?_; clear h; rintro x rfl h)
   refine Yo h fun h1 h2 => ?_
   (refine aE h1 ?_; clear h1; intro h1 h3)
   (refine Zg (of_decide_eq_true h1) ?_; clear h1; intro h1 h4)
   (refine Xg (Int.eq_ofNat_of_zero_le h1) ?_; rintro k rfl)
   refine Zgj (W.look l1) (by simpa using h4) (by simpa using Wr h3) ?_
   have := W.setU l1 (o' := .il _) trivial h2
   simp only [Zy, List.map_set] at this
   exact this
 | lst xs =>
   refine Yo h fun h1 h2 => ?_
   (refine aE h1 ?_; clear h1; intro h1 h3)
   (refine Zg (of_decide_eq_true h1) ?_; clear h1; intro h1 h4)
   (refine Xg (Int.eq_ofNat_of_zero_le h1) ?_; rintro k rfl)
   refine Zgj (W.look l1) (by simpa using h4) (by simpa using Wr h3) ?_
   have := W.setU l1 (o' := .lst _) (fun w hw => (List.mem_or_eq_of_mem_set hw).elim (W.olt l1 w) fun e => e ▸ hv) h2
   simp only [Zy, List.map_set] at this
   exact this
 | dct es =>
   refine Yo h fun h1 h2 => ?_
   refine Zuw (W.look l1) (Nat.le_of_ble_eq_true h1) ?_
   have := W.setU l1 (o' := .dct _) (fun w hw => (List.mem_cons.mp hw).elim (fun e => e ▸ hv) (W.olt l1 w)) h2
   have e : (fun j => (Yn j ((k, v) :: es)).map (cv ρ)) = fun j => if j = k then some (cv ρ v) else (Yn j es).map (cv ρ) := funext fun j => by
     show Option.map (cv ρ) (match decide (k = j) with | true => some v | false => Yn j es) = _
     by_cases z : k = j
     · subst z; simp
     · rw [decide_eq_false z, if_neg (Ne.symm z)]
   rw [show Zy ρ (.dct ((k, v) :: es)) = .idct (es.length + 1) _ from rfl, e] at this
   exact this
 | _ => exact False.elim h
end
end Mine.Ab
end
noncomputable section
namespace Mine
namespace Ab
section
variable {ρ ρ1 ρ2 : Nat -> Addr} {n n1 n2 : Nat} {f : Nat -> (Nat -> Prop) -> Prop}
noncomputable def Jh (f : Nat -> (Nat -> Prop) -> Prop) (n1 n2 : Nat) (ρ1 ρ2 : Nat -> Addr) : Prop := ∀ i, i < n1 -> ∀ k, f i k -> ∃ j, k j /\ ρ2 j = ρ1 i /\ j < n2
theorem Zcn (hf : Jh f n1 n2 ρ1 ρ2) {v : V} (hv : v.lt n1) {k : V -> Prop} (h : rV f v k) : ∃ u, k u /\ cv ρ2 u = cv ρ1 v /\ u.lt n2 := by
 cases v with
 | ref i => refine Yg (hf i hv _ h) fun j h1 h2 h3 => ?_; exact Yi (.ref j) h1 (congrArg Value.ref h2) h3
 | _ => exact Yi _ h rfl trivial
theorem Tx (hf : Jh f n1 n2 ρ1 ρ2) : ∀ {vs : List V} {k : List V -> Prop}, Yt n1 vs -> Jc f vs k -> ∃ us, k us /\ us.map (cv ρ2) = vs.map (cv ρ1) /\ Yt n2 us
 | [], k, hv, h => ⟨[], h, rfl, Tv⟩
 | v :: r, k, hv, h => by
  refine Yg (Zcn hf (hv v (.head _)) h) fun u h1 h2 h3 => ?_
  refine Yg (Tx hf (fun w hw => hv w (.tail _ hw)) h1) fun us h4 h5 h6 => ?_
  exact Yi (u :: us) h4 (by rw [List.map_cons, List.map_cons, h2, h5]) (fun w hw => (List.mem_cons.mp hw).elim (fun e => e ▸ h3) (h6 w))
theorem Zae {α : Type} (hf : Jh f n1 n2 ρ1 ρ2) : ∀ {vs : List (α × V)} {k : List (α × V) -> Prop}, (∀ p ∈ vs, p.2.lt n1) -> Th f vs k -> ∃ us, k us /\ us.map (fun p => (p.1, cv ρ2 p.2)) = vs.map (fun p => (p.1, cv ρ1 p.2)) /\ ∀ p ∈ us, p.2.lt n2
 | [], k, hv, h => ⟨[], h, rfl, fun p hp => nomatch hp⟩
 | (a, v) :: r, k, hv, h => by
  refine Yg (Zcn hf (hv (a, v) (.head _)) h) fun u h1 h2 h3 => ?_
  refine Yg (Zae hf (fun w hw => hv w (.tail _ hw)) h1) fun us h4 h5 h6 => ?_
  exact Yi ((a, u) :: us) h4 (by rw [List.map_cons, List.map_cons, h2, h5]) (fun w hw => (List.mem_cons.mp hw).elim (fun e => e ▸ h3) (h6 w))
theorem Zjl {gs es : List (Int × V)} (h : gs.map (fun p => (p.1, cv ρ2 p.2)) = es.map (fun p => (p.1, cv ρ1 p.2))) : ∀ k, (Yn k gs).map (cv ρ2) = (Yn k es).map (cv ρ1) := fun k => by
 induction gs generalizing es with
 | nil => cases es with
   | nil => rfl
   | cons => contradiction
 | cons p r ih => cases es with
   | nil => contradiction
   | cons q es =>
     obtain ⟨j, v⟩ := p
     obtain ⟨i, u⟩ := q
     refine Zg (List.cons.inj h) fun h1 h2 => ?_
     (refine Zg (Prod.mk.inj h1) ?_; rintro rfl h3)
     show Option.map (cv ρ2) (match decide (j = k) with | true => some v | false => Yn k r) = Option.map (cv ρ1) (match decide (j = k) with | true => some u | false => Yn k es)
     cases decide (j = k) with
     | true => exact congrArg some h3
     | false => exact ih h2
theorem Zco (hf : Jh f n1 n2 ρ1 ρ2) {o : O} (ho : o.lt n1) {k : O -> Prop} (h : rO f o k) : ∃ u, k u /\ Zy ρ2 u = Zy ρ1 o /\ u.lt n2 := by
 cases o with
 | il l => exact Yi _ h rfl trivial
 | sil l => exact Yi _ h rfl trivial
 | lst xs => refine Yg (Tx hf ho h) fun us h1 h2 h3 => ?_; exact Yi _ h1 (congrArg AO.lst h2) h3
 | plst m xs => refine Yg (Tx hf ho h) fun us h1 h2 h3 => ?_; exact Yi _ h1 (congrArg (AO.plst m) h2) h3
 | tup xs => refine Yg (Tx hf ho h) fun us h1 h2 h3 => ?_; exact Yi _ h1 (congrArg AO.tup h2) h3
 | inst C fs =>
  refine Yg (Zae hf ho h) fun us h1 h2 h3 => ?_
  refine Yi _ h1 (congrArg (AO.inst C) ?_) h3
  have := congrArg (List.map fun p : Nat × Value => (nm p.1, p.2)) h2
  rw [List.map_map, List.map_map] at this
  exact this
 | dct es =>
  refine Yg (Zae hf ho h) fun us h1 h2 h3 => ?_
  refine Yi _ h1 ?_ h3
  have hl : us.length = es.length := by simpa using congrArg List.length h2
  show AO.idct us.length _ = AO.idct es.length _
  rw [hl]
  exact congrArg (AO.idct _) (funext (Zjl h2))
 | pdct es =>
  refine Yg (Zae hf ho h) fun us h1 h2 h3 => ?_
  exact Yi _ h1 (congrArg AO.pdct (funext (Zjl h2))) h3
theorem Zjm {i : Nat} {k : Nat -> Prop} : ∀ {sel : List Nat} {n : Nat}, Jb i sel n k -> ∃ j, k (n + j) /\ sel[j]? = some i
 | [], n, h => False.elim h
 | a :: r, n, h => by
  unfold Jb at h
  cases z : Nat.beq a i with
  | true => rw [z] at h; exact Zp 0 ((Gk (n := n) (k := k)).mp h) (by rw [Wn z]; rfl)
  | false =>
   rw [z] at h
   refine Zb (Zjm h) fun j h1 h2 => ?_
   exact Zp (j + 1) (by rw [show n + (j + 1) = n + 1 + j by exact gq (M0 (N2 _ _) V0 (.a nA (.a nB kI)) (.a (.a nA kI) nB) rfl)]; exact h1) h2
theorem Zjn {i j : Nat} : ∀ {sel : List Nat} {n : Nat}, Jw i sel n = some j -> n <= j /\ sel[j - n]? = some i
 | [], n, h => nomatch h
 | a :: r, n, h => by
  unfold Jw at h
  cases z : Nat.beq a i with
  | true => rw [z] at h; (replace h := sI h; subst h); exact ⟨Nat.le_refl _, by rw [Nat.sub_self, Wn z]; rfl⟩
  | false =>
   rw [z] at h
   refine Zg (Zjn h) fun h1 h2 => ?_
   exact ⟨Nat.le_of_succ_le h1, by rw [show j - n = (j - (n + 1)) + 1 by exact gq (M2 (N4 _ _ _ _) V0 1 (.a nA nC) nD (@Wb j n (gl (L1 (N2 _ _) V0 1 (.a nA kI) nB (nl h1) nA nB rfl))) (-1) (.a nB (.a nC kI)) nD (@Wb j (n + 1) (gl (L1 (N2 _ _) V0 1 (.a nA kI) nB (nl h1) (.a nA kI) nB rfl))) nA (.a nB kI) rfl)]; exact h2⟩
theorem Zjo {i : Nat} : ∀ {sel : List Nat} {n : Nat}, Jw i sel n = .none -> i ∉ sel
 | [], n, h => fun hm => nomatch hm
 | a :: r, n, h => by
   unfold Jw at h
   cases z : Nat.beq a i with
   | true => rw [z] at h; exact Wh h
   | false =>
     rw [z] at h
     intro hm
     rcases List.mem_cons.mp hm with e | e
     · exact Gu z e.symm
     · exact Zjo h e
theorem Zjp {b : Nat} {k : Nat -> Prop} : ∀ {sel : List Nat} {j : Nat}, Jx j b sel k -> ∃ j', k j' /\ (sel[j]? = some j' \/ (sel.length <= j /\ j' = b + (j - sel.length)))
 | [], j, h => by
  unfold Jx at h
  exact Zp (b + j) ((Gk (n := b + j) (k := k)).mp h) (.inr ⟨Nat.zero_le _, rfl⟩)
 | a :: r, 0, h => ⟨a, h, .inl rfl⟩
 | a :: r, j + 1, h => by
  refine Zb (Zjp (sel := r) (j := j) h) fun j' h1 h2 => ?_
  refine Zp j' h1 (h2.imp (fun h => h) fun zp => Zg zp fun h3 h4 => ⟨Nat.succ_le_succ h3, ?_⟩)
  rw [h4, List.length_cons]; exact gq (M2 (N5 _ _ _ _ _) V0 1 (.a nB nD) nE (@Wb j r.length (gl (L1 (N2 _ _) V0 1 nA nB (nl h3) nA nB rfl))) (-1) (.a nC (.a nD kI)) (.a nE kI) (@Wb (j + 1) (r.length + 1) (gl (L1 (N2 _ _) V0 1 nA nB (nl h3) (.a nA kI) (.a nB kI) rfl))) (.a nA nB) (.a nA nC) rfl)
theorem Zcp : ∀ {sel : List Nat} {n : Nat}, Ot sel n = n + sel.length
 | [], n => rfl
 | a :: r, n => by
  show Ot r (n + 1) = _
  rw [Zcp, List.length_cons]; exact gq (M0 (N2 _ _) V0 (.a (.a nA kI) nB) (.a nA (.a nB kI)) rfl)
theorem Zjq {n : Nat} : ∀ {sel : List Nat}, Gl n sel = true -> ∀ a ∈ sel, a < n
 | [], h, a, ha => nomatch ha
 | b :: r, h, a, ha => by
   refine aE (show (Nat.blt b n && Gl n r) = true from h) fun h1 h2 => ?_
   rcases List.mem_cons.mp ha with e | e
   · subst e; exact Nat.blt_eq.mp h1
   · exact Zjq h2 a e
theorem Zcq {k : List V -> Prop} : ∀ {n : Nat} {xs : List V}, Ti xs n k -> ∃ us ys, xs = us ++ ys /\ us.length = n /\ k ys
 | 0, xs, h => ⟨[], xs, rfl, rfl, by unfold Ti at h; exact h⟩
 | n + 1, [], h => False.elim h
 | n + 1, a :: r, h => by
  refine Xp (Zcq (n := n) (xs := r) h) fun us ys h1 h2 h3 => ?_
  exact Qn (a :: us) ys (by rw [h1]; rfl) (by rw [List.length_cons, h2]) h3
theorem Zcr {es : List (Int × V)} : ∀ {ks : List Int} {k : List (Int × V) -> Prop}, Tj es ks k -> ∃ gs, k gs /\ ∀ p ∈ gs, Yn p.1 es = some p.2
 | [], k, h => ⟨[], h, fun p hp => nomatch hp⟩
 | a :: r, k, h => by
  unfold Tj at h
  cases z : Yn a es with
  | none => rw [z] at h; exact False.elim h
  | some v =>
   rw [z] at h
   refine Zb (Zcr h) fun gs h1 h2 => ?_
   exact Zp _ h1 (fun p hp => (List.mem_cons.mp hp).elim (fun e => e ▸ z) (h2 p))
theorem Yas {d : Option Dr} {o : O} {k : O -> Prop} (ho : o.lt n) (h : drK d o k) : ∃ o1, k o1 /\ Ge (Zy ρ o) (Zy ρ o1) /\ o1.lt n := by
 cases d with
 | none => exact Yi o h (.inl rfl) ho
 | some d =>
  cases d with
  | fst m =>
   cases o with
   | lst xs =>
    (refine Xp (Zcq h) ?_; clear h; rintro us ys rfl hl h)
    refine Yi _ h (.inr ⟨rfl, rfl, rfl, fun w h δ a z => Zx z fun its c h1 h2 => ⟨its, c, us.map (cv ρ), h1, by rw [List.length_map, hl], by rw [h2, List.map_append]⟩⟩) (fun v hv => ho v (List.mem_append_right _ hv))
   | il l =>
    (refine Zg (Xu h) ?_; clear h; rintro rfl h)
    cases m with
    | zero => exact Yi _ h (.inr ⟨rfl, rfl, rfl, fun w h δ a z => Zx z fun its c h1 h2 => ⟨its, c, [], h1, rfl, h2⟩⟩) (fun v hv => absurd hv (by simp))
    | succ m => exact False.elim h
   | plst m' xs =>
    (refine Xp (Zcq h) ?_; clear h; rintro us ys rfl hl h)
    refine Yi _ h (.inr ⟨rfl, rfl, rfl, fun w h δ a z => Ox z fun its c us' h1 h3 h2 => ⟨its, c, us' ++ us.map (cv ρ), h1, by rw [List.length_append, List.length_map, hl, h3], by rw [h2, List.map_append, List.append_assoc]⟩⟩) (fun v hv => ho v (List.mem_append_right _ hv))
   | _ => exact False.elim h
  | keys ks =>
   cases o with
   | dct es =>
    (refine Zb (Zcr h) ?_; clear h; intro gs h hg)
    refine Yi _ h (.inr ⟨rfl, rfl, rfl, fun w h δ a z => Zeq z fun o e ep f' h1 h2 h3 z => Xs z fun h4 h5 h6 h7 => ⟨o, e, ep, f', h1, h2, h3, h5, h6, fun k v e => ?_⟩⟩) (fun p hp => ho _ (Kn (hg p hp)))
    (refine Zb (Option.map_eq_some_iff.mp e) ?_; rintro u hu rfl)
    have h9 := hg _ (Kn hu)
    rw [h7]
    show (Yn k es).map (cv ρ) = _
    rw [show Yn k es = some u from h9]; rfl
   | pdct es =>
    (refine Zb (Zcr h) ?_; clear h; intro gs h hg)
    refine Yi _ h (.inr ⟨rfl, rfl, rfl, fun w h δ a z => Zeq z fun o e ep f' h1 h2 h3 z => Xo z fun h5 h6 h7 => ⟨o, e, ep, f', h1, h2, h3, h5, h6, fun k v e => ?_⟩⟩) (fun p hp => ho _ (Kn (hg p hp)))
    (refine Zb (Option.map_eq_some_iff.mp e) ?_; rintro u hu rfl)
    have h9 := hg _ (Kn hu)
    exact h7 _ _ (by show (Yn k es).map (cv ρ) = _; rw [show Yn k es = some u from h9]; rfl)
   | _ => exact False.elim h
noncomputable def Wy (ρ : Nat -> Addr) (sel : List Nat) : Nat -> Addr := fun j => ρ (sel.getD j 0)
theorem Hk {sel : List Nat} {j i : Nat} (h : sel[j]? = some i) : Wy ρ sel j = ρ i := by unfold Wy; rw [List.getD_eq_getElem?_getD, h]; rfl
theorem Ko {α : Type} {l : List α} {j : Nat} {a : α} (h : l[j]? = some a) : j < l.length := (List.getElem?_eq_some_iff.mp h).1
theorem Zjr {sel : List Nat} : Jh (fun i k => Jb i sel 0 k) n sel.length ρ (Wy ρ sel) := fun i hi k h => by
 refine Zb (Zjm h) fun j h1 h2 => ?_
 rw [Nat.zero_add] at h1
 exact Yi j h1 (Hk h2) (Ko h2)
theorem Zcs {sel : List Nat} {dr : List (Nat × Dr)} {ob : List (Nat × O)} (hlt : ∀ a o, Ze a ob = some o -> o.lt n) : ∀ {r : List Nat} {j : Nat} {k : List (Nat × O) -> Prop}, (∀ i a, r[i]? = some a -> sel[j + i]? = some a) -> Jy sel dr ob r j k ->
   ∃ l, k l /\ (∀ p ∈ l, j <= p.1 /\ ∃ a o o1, sel[p.1]? = some a /\ Ze a ob = some o /\ Ge (Zy ρ o) (Zy ρ o1) /\ Zy (Wy ρ sel) p.2 = Zy ρ o1 /\ p.2.lt sel.length) /\ (l.map (·.1)).Nodup
 | [], j, k, hr, h => ⟨[], h, fun p hp => absurd hp (by simp), List.nodup_nil⟩
 | a :: r, j, k, hr, h => by
   have hr' : ∀ i b, r[i]? = some b -> sel[j + 1 + i]? = some b := fun i b e => by rw [show j + 1 + i = j + (i + 1) by exact gq (M0 (N2 _ _) V0 (.a (.a nA kI) nB) (.a nA (.a nB kI)) rfl)]; exact hr (i + 1) b e
   unfold Jy at h
   cases z : Ze a ob with
   | none =>
     rw [z] at h
     refine Yg (Zcs hlt hr' h) fun l h1 h2 h3 => ?_
     exact Yi l h1 (fun p hp => ⟨Nat.le_of_succ_le (h2 p hp).1, (h2 p hp).2⟩) h3
   | some o =>
     rw [z] at h
     refine Yg (Yas (ρ := ρ) (hlt a o z) h) fun o1 h1 h2 h3 => ?_
     refine Yg (Zco (Zjr (ρ := ρ)) h3 h1) fun o' h4 h5 h6 => ?_
     refine Yg (Zcs hlt hr' h4) fun l h7 h8 h9 => ?_
     have h7 := (Gk (n := j) (k := fun j => k ((j, o') :: l))).mp h7
     refine Yi ((j, o') :: l) h7 (fun p hp => ?_) ?_
     · rcases List.mem_cons.mp hp with e | e
       · subst e
         exact ⟨Nat.le_refl _, a, o, o1, hr 0 a rfl, z, h2, h5, h6⟩
       · exact ⟨Nat.le_of_succ_le (h8 p e).1, (h8 p e).2⟩
     · rw [List.map_cons, List.nodup_cons]
       refine ⟨fun hm => ?_, h9⟩
       refine Zb (List.mem_map.mp hm) fun p hp e => ?_
       have := (h8 p hp).1
       have e : p.1 = j := e
       exact gf (L2 (N2 _ _) V0 1 (.a nA kI) nB (nl this) 1 nB nA (Wv e) kI kZ rfl)
theorem Zct : ∀ {l : List Nat}, Ki l = true -> l.Nodup
 | [], _ => List.nodup_nil
 | a :: r, h => by
  refine aE (show ((r.all fun b => !(Nat.beq a b)) && Ki r) = true from h) fun h1 h2 => ?_
  refine List.nodup_cons.mpr ⟨fun hm => ?_, Zct h2⟩
  have := List.all_eq_true.mp h1 a hm
  rw [Ts] at this; exact Yb this
theorem Gy {α : Type} {i : Nat} {a : α} : ∀ {l : List (Nat × α)}, (l.map (·.1)).Nodup -> (i, a) ∈ l -> Ze i l = some a
 | [], _, h => nomatch h
 | (k, u) :: r, hn, h => by
   refine Zg (List.nodup_cons.mp hn) fun h1 h2 => ?_
   unfold Ze
   rcases List.mem_cons.mp h with e | e
   · cases e; rw [Ts]
   · rw [Sz fun z => h1 (by subst z; exact List.mem_map.mpr ⟨_, e, rfl⟩)]
     exact Gy h2 e
theorem Zaf {a : Addr} {p : AO} : ∀ {l : List (Nat × O)}, Xr ρ a l = some p -> ∃ i o, (i, o) ∈ l /\ ρ i = a /\ Zy ρ o = p
 | [], h => nomatch h
 | (k, u) :: r, h => by
   unfold Xr at h
   by_cases z : ρ k = a
   · rw [if_pos z] at h; (replace h := sI h; subst h); exact Qn k u (.head _) z rfl
   · rw [if_neg z] at h
     refine Zx (Zaf h) fun i o h1 h2 => ?_
     exact Om i o (.tail _ h1) h2
noncomputable def rest (sel : List Nat) (H : Hp) : Hp := ⟨H.nx, H.ob.filter fun p => decide (p.1 ∉ sel)⟩
theorem Zag {sel : List Nat} {H : Hp} {p : Nat × O} (h : p ∈ (rest sel H).ob) : p ∈ H.ob /\ p.1 ∉ sel := by
 refine Zg (List.mem_filter.mp h) fun h1 h2 => ?_
 exact ⟨h1, of_decide_eq_true h2⟩
theorem Wf.rest {H : Hp} (W : Wf ρ H) (sel : List Nat) : Wf ρ (rest sel H) :=
 ⟨(List.filter_sublist.map _).nodup W.keys, fun p hp q hq e => W.inj p (Zag hp).1 q (Zag hq).1 e, fun p hp => W.lt p (Zag hp).1⟩
theorem Zjs {sel : List Nat} {dr : List (Nat × Dr)} {vs : List V} {H : Hp} {k : List V -> Hp -> Prop} (W : Wf ρ H) (hv : Yt H.nx vs) (h : Jd sel dr vs H k) :
   ∃ us hp, k us hp /\ hp.nx = sel.length /\ Wf (Wy ρ sel) hp /\ Yt hp.nx us /\ us.map (cv (Wy ρ sel)) = vs.map (cv ρ) /\ sel.Nodup /\ (∀ a ∈ sel, a < H.nx) /\
     (∀ j o, (j, o) ∈ hp.ob -> ∃ a o', sel[j]? = some a /\ H.look a = some o' /\ Ge (Zy ρ o') (Zy (Wy ρ sel) o)) := by
 obtain ⟨nx, ob⟩ := H
 (refine Zg h ?_; clear h; intro h1 h2)
 refine aE h1 fun u1 u2 => ?_
 refine Yg (Tx (Zjr (ρ := ρ)) hv h2) fun us h3 h4 h5 => ?_
 obtain ⟨l, h6, h7, h8⟩ := Zcs (ρ := ρ) (fun a o e => W.olt e) (fun i a e => by rw [Nat.zero_add]; exact e) h3
 have h6 := (Gk (n := Ot sel 0) (k := fun n' => k us ⟨n', l⟩)).mp h6
 rw [Zcp, Nat.zero_add] at h6
 refine Zno us _ h6 rfl ⟨h8, fun p hp q hq e => ?_, fun p hp => ?_⟩ h5 h4 (Zct u1) (Zjq u2) (fun j o hm => ?_)
 · (refine Zg (h7 p hp) fun _ zr => ?_; obtain ⟨a, o, o1, e1, e2, _⟩ := zr)
   (refine Zg (h7 q hq) fun _ zr => ?_; obtain ⟨a', o', o1', e1', e2', _⟩ := zr)
   rw [Hk e1, Hk e1'] at e
   have := W.inj _ (Ue e2) _ (Ue e2') e
   have : a = a' := this
   subst this
   exact (List.getElem?_inj (Ko e1) (Zct u1)).mp (e1.trans e1'.symm)
 · (refine Zg (h7 p hp) fun _ zr => ?_; obtain ⟨a, o, o1, e1, e2, e3, e4, e5⟩ := zr)
   exact ⟨Ko e1, e5⟩
 · (refine Zg (h7 _ hm) fun _ zr => ?_; obtain ⟨a, o', o1, e1, e2, e3, e4, e5⟩ := zr)
   exact Qn a o' e1 e2 (by rw [e4]; exact e3)
theorem Zjt {sel : List Nat} {H hp : Hp} (W : Wf ρ H) (W' : Wf (Wy ρ sel) hp) (hs : ∀ j o, (j, o) ∈ hp.ob -> ∃ a o', sel[j]? = some a /\ H.look a = some o' /\ Ge (Zy ρ o') (Zy (Wy ρ sel) o)) :
   Dis (Za (Wy ρ sel) hp) (Za ρ (rest sel H)) /\ Wk (Un (Za (Wy ρ sel) hp) (Za ρ (rest sel H))) (Za ρ H) := by
 have key : ∀ b p, Za (Wy ρ sel) hp b = some p -> ∃ a o', a ∈ sel /\ H.look a = some o' /\ ρ a = b /\ Ge (Zy ρ o') p := fun b p e => by
   refine Xp (Zaf e) fun j o h1 h2 h3 => ?_
   refine Xp (hs j o h1) fun a o' e1 e2 e3 => ?_
   exact Vw a o' (List.mem_of_getElem? e1) e2 (by rw [<- Hk (ρ := ρ) e1]; exact h2) (h3 ▸ e3)
 have key2 : ∀ b p, Za ρ (Ab.rest sel H) b = some p -> ∃ a o', a ∉ sel /\ H.look a = some o' /\ ρ a = b /\ Zy ρ o' = p := fun b p e => by
   refine Xp (Zaf e) fun j o h1 h2 h3 => ?_
   refine Zg (Zag h1) fun m1 m2 => ?_
   exact Vw j o m2 (Gy W.keys m1) h2 h3
 refine ⟨fun b => ?_, fun b o e => ?_⟩
 · cases z : Za (Wy ρ sel) hp b with
   | none => exact .inl rfl
   | some p =>
     refine .inr ?_
     cases y : Za ρ (Ab.rest sel H) b with
     | none => rfl
     | some q =>
       refine Hw (key b p z) fun a o' e1 e2 e3 _ => ?_
       refine Hw (key2 b q y) fun a' o'' e1' e2' e3' _ => ?_
       have := W.inj _ (Ue e2) _ (Ue e2') (e3.trans e3'.symm)
       have : a = a' := this
       subst this
       exact absurd e1 e1'
 · unfold Un at e
   cases z : Za (Wy ρ sel) hp b with
   | some p =>
     rw [z] at e; (replace e := sI e; subst e)
     refine Hw (key b _ z) fun a o' e1 e2 e3 e4 => ?_
     exact Zp _ (by rw [<- e3]; exact W.look e2) e4
   | none =>
     rw [z] at e
     refine Hw (key2 b o e) fun a o' e1 e2 e3 e4 => ?_
     exact Zp _ (by rw [<- e3]; exact W.look e2) (.inl e4)
noncomputable def Ul (ρ : Nat -> Addr) (N n : Nat) (ρs : Nat -> Addr) : Nat -> Addr := fun i => if i < N then ρ i else ρs (n + (i - N))
theorem Zah {N i : Nat} {ρs : Nat -> Addr} (h : i < N) : Ul ρ N n ρs i = ρ i := if_pos h
theorem Zju {N i : Nat} {ρs : Nat -> Addr} (h : n <= i) : Ul ρ N n ρs (N + (i - n)) = ρs i := by
 unfold Ul
 rw [if_neg (by exact fun zz => gf (L1 (N2 _ _) V0 1 (.a (.a nA nB) kI) nA (Wi zz) kI kZ rfl))]
 congr 1; exact gq (M2 (N5 _ _ _ _ _) V0 1 (.a nB nD) (.a nD nE) (@Wb (N + (i - n)) N (gl (L0 (N2 _ _) V0 nA (.a nA nB) rfl))) 1 (.a nE nA) nC (@Wb i n (gl (L1 (N2 _ _) V0 1 nA nB (nl h) nA nB rfl))) (.a nA nB) nC rfl)
theorem Yat {sel : List Nat} {N n' : Nat} {ρs : Nat -> Addr} (hl : ∀ a ∈ sel, a < N) (e : Ext sel.length (Wy ρ sel) ρs) (hn : sel.length <= n') :
   Jh (fun j k => Jx j N sel k) n' (N + (n' - sel.length)) ρs (Ul ρ N sel.length ρs) := fun i hi k h => by
 refine Zb (Zjp h) fun j h1 h2 => ?_
 refine Yi j h1 ?_ ?_
 · rcases h2 with h2 | ⟨h2, rfl⟩
   · rw [Zah (hl _ (List.mem_of_getElem? h2)), e i (Ko h2), Hk h2]
   · exact Zju h2
 · rcases h2 with h2 | ⟨h2, rfl⟩
   · have := hl _ (List.mem_of_getElem? h2); exact Nat.lt_of_lt_of_le (by assumption) (Nat.le_add_right _ _)
   · exact Qo (L3 (N6 _ _ _ _ _ _) V0 1 (.a nD kI) nE (Wi hi) 1 (.a nB nF) nD (Zj (@Wb i sel.length (gl (L1 (N2 _ _) V0 1 nA nB (nl h2) nA nB rfl)))) 1 nE (.a nC nF) (Zl (@Wb n' sel.length (gl (L1 (N2 _ _) V0 1 nA nB (nl hn) nA nB rfl)))) (.a (.a nA nB) kI) (.a nA nC) rfl)
theorem Zai {sel : List Nat} {ob' : List (Nat × O)} (hf : Jh f n1 n2 ρ1 ρ2) (hlt : ∀ j o, Ze j ob' = some o -> o.lt n1) : ∀ {ob : List (Nat × O)} {k : List (Nat × O) -> Prop}, Gm f sel ob' ob k ->
   ∃ l, k l /\ (∀ p ∈ l, (p ∈ ob /\ p.1 ∉ sel) \/ ∃ j o', sel[j]? = some p.1 /\ Ze j ob' = some o' /\ Zy ρ2 p.2 = Zy ρ1 o' /\ p.2.lt n2) /\ (l.map (·.1)).Sublist (ob.map (·.1))
 | [], k, h => ⟨[], h, fun p hp => absurd hp (by simp), List.Sublist.slnil⟩
 | (a, o) :: r, k, h => by
   unfold Gm at h
   cases z : Jw a sel 0 with
   | none =>
     rw [z] at h
     refine Yg (Zai hf hlt h) fun l h1 h2 h3 => ?_
     refine Yi _ h1 (fun p hp => ?_) (h3.cons_cons _)
     rcases List.mem_cons.mp hp with e | e
     · subst e; exact .inl ⟨.head _, Zjo z⟩
     · exact (h2 p e).imp (fun zp => Zg zp fun q1 q2 => ⟨.tail _ q1, q2⟩) fun h => h
   | some j =>
     rw [z] at h
     dsimp only at h
     have hj := (Zjn z).2
     rw [Nat.sub_zero] at hj
     cases y : Ze j ob' with
     | none =>
       rw [y] at h
       refine Yg (Zai hf hlt h) fun l h1 h2 h3 => ?_
       exact Yi _ h1 (fun p hp => (h2 p hp).imp (fun zp => Zg zp fun q1 q2 => ⟨.tail _ q1, q2⟩) fun h => h) (h3.cons _)
     | some o' =>
       rw [y] at h
       refine Yg (Zco hf (hlt j o' y) h) fun o2 g1 g2 g3 => ?_
       refine Yg (Zai hf hlt g1) fun l h1 h2 h3 => ?_
       refine Yi _ h1 (fun p hp => ?_) (h3.cons_cons _)
       rcases List.mem_cons.mp hp with e | e
       · subst e; exact .inr ⟨j, o', hj, y, g2, g3⟩
       · exact (h2 p e).imp (fun zp => Zg zp fun q1 q2 => ⟨.tail _ q1, q2⟩) fun h => h
theorem Zcu {b : Nat} {l : List (Nat × O)} (hf : Jh f n1 n2 ρ1 ρ2) (hb : ∀ p ∈ l, p.1 < b) (hl : (l.map (·.1)).Nodup) : ∀ {ob : List (Nat × O)} {k : List (Nat × O) -> Prop}, (∀ p ∈ ob, p.2.lt n1) -> (ob.map (·.1)).Nodup -> Tl f n b ob l k ->
   ∃ l', k l' /\ (∀ p ∈ l', p ∈ l \/ ∃ j o', (j, o') ∈ ob /\ n <= j /\ p.1 = b + (j - n) /\ Zy ρ2 p.2 = Zy ρ1 o' /\ p.2.lt n2) /\ (l'.map (·.1)).Nodup
 | [], k, ho, hn, h => ⟨l, h, fun p hp => .inl hp, hl⟩
 | (j, o) :: r, k, ho, hn, h => by
   refine Zg (List.nodup_cons.mp hn) fun hn1 hn2 => ?_
   have ho' : ∀ p ∈ r, p.2.lt n1 := fun p hp => ho p (.tail _ hp)
   unfold Tl at h
   cases z : Nat.blt j n with
   | true =>
     rw [z] at h
     refine Yg (Zcu hf hb hl ho' hn2 h) fun l' h1 h2 h3 => ?_
     exact Yi l' h1 (fun p hp => (h2 p hp).imp (fun h => h) fun zp => Zx zp fun j o' q1 q2 => ⟨j, o', .tail _ q1, q2⟩) h3
   | false =>
     rw [z] at h
     have hjn : n <= j := by
       apply Nat.le_of_not_lt
       intro y
       rw [Nat.blt_eq.mpr y] at z; exact Xf z
     refine Yg (Zco hf (ho _ (.head _)) h) fun o2 g1 g2 g3 => ?_
     refine Yg (Zcu hf hb hl ho' hn2 g1) fun l' h1 h2 h3 => ?_
     have h1 := (Gk (n := b + (j - n)) (k := fun j => k ((j, o2) :: l'))).mp h1
     refine Yi _ h1 (fun p hp => ?_) ?_
     · rcases List.mem_cons.mp hp with e | e
       · subst e; exact .inr ⟨j, o, .head _, hjn, rfl, g2, g3⟩
       · exact (h2 p e).imp (fun h => h) fun zp => Zx zp fun j o' q1 q2 => ⟨j, o', .tail _ q1, q2⟩
     · rw [List.map_cons, List.nodup_cons]
       refine ⟨fun hm => ?_, h3⟩
       refine Zb (List.mem_map.mp hm) fun p hp e => ?_
       have e : p.1 = b + (j - n) := e
       rcases h2 p hp with q | ⟨j', o', q1, q2, q3, _⟩
       · have := hb p q; exact gf (L2 (N3 _ _ _) V0 1 (.a nB nC) nA (Yq e) 1 (.a nA kI) nB (Wi this) kI kZ rfl)
       · have : j' = j := by exact gq (M4 (N7 _ _ _ _ _ _ _) V0 1 nC (.a nD nE) (nq e) (-1) nC (.a nD nF) (nq q3) 1 (.a nE nG) nB (@Wb j n (gl (L1 (N2 _ _) V0 1 nA nB (nl hjn) nA nB rfl))) (-1) (.a nF nG) nA (@Wb j' n (gl (L1 (N2 _ _) V0 1 nA nB (nl q2) nA nB rfl))) nA nB rfl)
         subst this
         exact hn1 (List.mem_map.mpr ⟨_, q1, rfl⟩)
theorem Yau {sel : List Nat} {H h' : Hp} {ρs : Nat -> Addr} {v : V} {Q : V -> Hp -> Prop} (W : Wf ρ H) (hsn : sel.Nodup) (hsl : ∀ a ∈ sel, a < H.nx) (W' : Wf ρs h') (e : Ext sel.length (Wy ρ sel) ρs) (hn : sel.length <= h'.nx) (hv : v.lt h'.nx)
   (hd : Dis (Za ρs h') (Za ρ (Ab.rest sel H))) (h : Sf sel H v h' Q) :
   ∃ ρ' H'' u, H.nx <= H''.nx /\ Ext H.nx ρ ρ' /\ Wf ρ' H'' /\ u.lt H''.nx /\ cv ρs v = cv ρ' u /\ Sub (Za ρ' H'') (Un (Za ρs h') (Za ρ (Ab.rest sel H))) /\ Q u H'' := by
 obtain ⟨N, ob⟩ := H
 obtain ⟨n', ob'⟩ := h'
 have hren := Yat (N := N) (n' := n') hsl e hn
 unfold Sf at h
 dsimp only at h
 refine Yg (Zcn hren hv h) fun u h1 h2 h3 => ?_
 refine Yg (Zai hren (fun j o e => W'.olt e) h1) fun l h4 h5 h6 => ?_
 have hl : (l.map (·.1)).Nodup := h6.nodup W.keys
 have hlb : ∀ p ∈ l, p.1 < N := fun p hp => by
   have : p.1 ∈ ob.map (·.1) := h6.subset (List.mem_map.mpr ⟨p, hp, rfl⟩)
   refine Zb (List.mem_map.mp this) fun q hq e => ?_
   have := (W.lt q hq).1
   rw [show q.1 = p.1 from e] at this; exact this
 have hlen : Ot sel 0 = sel.length := by rw [Zcp, Nat.zero_add]
 refine Yg (Zcu (n := Ot sel 0) hren hlb hl (fun p hp => (W'.lt p hp).2) W'.keys h4) fun l' h7 h8 h9 => ?_
 have h7 := (Gk (n := N + (n' - Ot sel 0)) (k := fun n => Q u ⟨n, l'⟩)).mp h7
 rw [hlen] at h7 h8
 have ext : Ext N ρ (Ul ρ N sel.length ρs) := fun i hi => Zah hi
 have key : ∀ p ∈ l', (p ∈ ob /\ p.1 ∉ sel /\ Ul ρ N sel.length ρs p.1 = ρ p.1 /\ Zy (Ul ρ N sel.length ρs) p.2 = Zy ρ p.2 /\ p.2.lt N) \/
     ∃ j o', (j, o') ∈ ob' /\ Ul ρ N sel.length ρs p.1 = ρs j /\ Zy (Ul ρ N sel.length ρs) p.2 = Zy ρs o' /\ p.2.lt (N + (n' - sel.length)) /\ (sel[j]? = some p.1 \/ (sel.length <= j /\ p.1 = N + (j - sel.length))) := fun p hp => by
   rcases h8 p hp with q | ⟨j, o', q1, q2, q3, q4, q5⟩
   · rcases h5 p q with ⟨q1, q2⟩ | ⟨j, o', q1, q2, q3, q4⟩
     · have := W.lt p q1
       exact .inl ⟨q1, q2, Zah this.1, Tt ext this.2, this.2⟩
     · refine .inr ⟨j, o', Ue q2, ?_, q3, q4, .inl q1⟩
       rw [Zah (hlb p q), e j (Ko q1), Hk q1]
   · exact .inr ⟨j, o', q1, by rw [q3]; exact Zju q2, q4, q5, .inr ⟨q2, q3⟩⟩
 refine Zep (Ul ρ N sel.length ρs) ⟨N + (n' - sel.length), l'⟩ u (Nat.le_add_right _ _) ext ⟨h9, fun p hp q hq z => ?_, fun p hp => ?_⟩ h3 h2.symm (fun a o' z => ?_) h7
 · have cross : ∀ (i : Nat) (o : O) (j : Nat) (o' : O), (i, o) ∈ ob -> i ∉ sel -> (j, o') ∈ ob' -> ρ i ≠ ρs j := fun i o j o' m1 m2 m3 z => by
     have e1 := W'.look (Gy W'.keys m3 : Hp.look ⟨n', ob'⟩ j = some o')
     have e2 := (W.rest sel).look (Gy (W.rest sel).keys (List.mem_filter.mpr ⟨m1, decide_eq_true m2⟩) : (Ab.rest sel ⟨N, ob⟩).look i = some o)
     rw [<- z] at e1
     rcases hd (ρ i) with y | y
     · rw [y] at e1; exact Zk e1
     · rw [y] at e2; exact Zk e2
   rcases key p hp with ⟨m1, m2, m3, _⟩ | ⟨j, o', m1, m3, _, _, m4⟩ <;> rcases key q hq with ⟨k1, k2, k3, _⟩ | ⟨j', o'', k1, k3, _, _, k4⟩
   · rw [m3, k3] at z; exact W.inj p m1 q k1 z
   · rw [m3, k3] at z; exact absurd z (cross _ _ _ _ m1 m2 k1)
   · rw [m3, k3] at z; exact absurd z.symm (cross _ _ _ _ k1 k2 m1)
   · rw [m3, k3] at z
     have := W'.inj _ m1 _ k1 z
     have : j = j' := this
     subst this
     rcases m4 with m4 | ⟨m4, m5⟩ <;> rcases k4 with k4 | ⟨k4, k5⟩
     · rw [m4] at k4; exact Option.some.inj k4
     · have := Ko m4; exact gf (L2 (N2 _ _) V0 1 nA nB (nl k4) 1 (.a nB kI) nA (Wi this) kI kZ rfl)
     · have := Ko k4; exact gf (L2 (N2 _ _) V0 1 nA nB (nl m4) 1 (.a nB kI) nA (Wi this) kI kZ rfl)
     · rw [m5, k5]
 · rcases key p hp with ⟨m1, m2, m3, m4, m5⟩ | ⟨j, o', m1, m3, m4, m5, m6⟩
   · exact ⟨Nat.lt_of_lt_of_le (W.lt p m1).1 (Nat.le_add_right _ _), m5.le (Nat.le_add_right _ _)⟩
   · refine ⟨?_, m5⟩
     have hj := (W'.lt _ m1).1
     rcases m6 with m6 | ⟨m6, m7⟩
     · have := hsl _ (List.mem_of_getElem? m6); show p.1 < N + (n' - sel.length); have : p.1 < N := this; exact Nat.lt_of_lt_of_le (by assumption) (Nat.le_add_right _ _)
     · rw [m7]; show N + (j - sel.length) < N + (n' - sel.length); have hj : j < n' := hj; omega
 · refine Xp (Zaf z) fun i o y1 y2 y3 => ?_
   rcases key _ y1 with ⟨m1, m2, m3, m4, m5⟩ | ⟨j, o'', m1, m3, m4, m5, m6⟩
   · have e2 := (W.rest sel).look (Gy (W.rest sel).keys (List.mem_filter.mpr ⟨m1, decide_eq_true m2⟩) : (Ab.rest sel ⟨N, ob⟩).look i = some o)
     have e3 : Za ρ (Ab.rest sel ⟨N, ob⟩) a = some o' := by
       rw [<- y2, <- y3]
       show _ = some (Zy (Ul ρ N sel.length ρs) o)
       rw [show Zy (Ul ρ N sel.length ρs) o = Zy ρ o from m4]
       rw [show Ul ρ N sel.length ρs i = ρ i from m3]; exact e2
     exact Up hd e3
   · have e1 := W'.look (Gy W'.keys m1 : Hp.look ⟨n', ob'⟩ j = some o'')
     refine Zn ?_
     rw [<- y2, <- y3]
     rw [show Zy (Ul ρ N sel.length ρs) o = Zy ρs o'' from m4]
     rw [show Ul ρ N sel.length ρs i = ρs j from m3]; exact e1
end
end Ab
end Mine
end
noncomputable section
namespace Mine.Ab
section
variable {env : Env} {x : Expr} {es : List Expr} {p : Pos}
theorem Og {α : Type} {l : List α} (h : Wq l = true) : l = [] := by cases l <;> first | rfl | exact Yb h
theorem Zjv {n : Str} {t : Sem Value} (h : To x = false) : attributeBase x n env t = t := by
 cases x with
 | Call f as ks p =>
  cases f with
  | Name i q =>
   cases as with
   | nil =>
    cases ks with
    | nil => exact Xf h
    | cons => rfl
   | cons => rfl
  | _ => rfl
 | _ => rfl
theorem fold_ok {v : Value} (h : Qt x = false) : foldedSetIterable x env v = pure v := by cases x <;> first | rfl | exact Xf h
theorem Zaj {op : CmpOp} (h : Qt x = false) : behindInMarks op x = false := by cases x <;> first | rfl | exact Xf h
theorem Zak (h : Km x = false) : starEach (x :: es) env = (false, eval x env) :: starEach es env := by cases x <;> first | rfl | exact Xf h
theorem Zal (h : Wm (x :: es) = true) : Km x = false /\ Wm es = true := by
 refine aE (show (!Km x && Wm es) = true from h) fun h1 h2 => ?_
 exact ⟨by simpa using h1, h2⟩
theorem Zcv : ∀ {es : List Expr}, Wm es = true -> (backTo p (starEach es env)).any (·.1) = false
 | [], _ => rfl
 | x :: es, h => by
  refine Zg (Zal h) fun h1 h2 => ?_
  rw [Zak h1]
  exact Zcv (es := es) h2
theorem Zjw : ∀ {es : List Expr}, Wm es = true -> (backTo p (starEach es env)).all (fun y => !y.1) = true
 | [], _ => rfl
 | x :: es, h => by
  refine Zg (Zal h) fun h1 h2 => ?_
  rw [Zak h1]
  exact Zjw (es := es) h2
theorem Yav (h : Wm es = true) (hl : es.length <= 20) : methodCallForm (es.length + ([] : List Keyword).length) (backTo p (starEach es env)) (backToKw p (keywordEach [] env)) = true := by
 unfold methodCallForm
 rw [Zjw h]
 show (true && true && decide (es.length + 0 + 0 < 30)) = true
 rw [decide_eq_true (by exact Qo (nc fun zz => L2 (N1 _) V0 1 nA (.k 20) (nl hl) 1 (.a (.k 30) kI) (.a (.a (.a nA kZ) kZ) kI) zz kI kZ rfl))]; rfl
noncomputable def Zjx : Expr -> Bool
 | .UnaryOp op _ _ => match op with
   | .Not => true
   | _ => false
 | .BoolOp .. => true
 | .IfExp .. => true
 | .Compare .. => true
 | _ => false
theorem Yaw (h : Zjx x = false) : isTrue x env (eval x env) = (do let v <- eval x env; PySem.standAt x.pos; PySem.holding [v] (truthy v)) := by
 cases x with
 | UnaryOp op y q => cases op <;> first | rfl | exact Xf h
 | BoolOp => exact Xf h
 | IfExp => exact Xf h
 | Compare => exact Xf h
 | _ => rfl
theorem Zcw (F : FnEnv env) : interactive env = false := by unfold interactive; rw [F.kind]; rfl
theorem Gz {t : Option Expr} {l : Nat} (h : Hd x = false) : swapsWith x t l env = pure false := by cases x <;> first | rfl | exact Xf h
theorem Yax {o : Expr} {n : Str} {q : Pos} {l : Nat} : swapsWith x (some (.Attribute o n q)) l env = pure false := by cases x <;> rfl
theorem Zjy {o i : Expr} {q : Pos} {l : Nat} : swapsWith x (some (.Subscript o i q)) l env = pure false := by cases x <;> rfl
theorem Yay {i : Expr} (h : Zcj i = false) (o i' : Value) : (subscripted i false o i' = operate [o, i'] (getItem o i')) \/ (subscripted i false o i' = operate [i', o] (getItem o i')) := by
 cases i <;> first | exact .inl rfl | exact Xf h
theorem Yaz {lo up : Option Expr} {q : Pos} (o i' : Value) : (subscripted (.Slice lo up none q) false o i' = operate [o, i'] (getItem o i')) \/ (subscripted (.Slice lo up none q) false o i' = operate [i', o] (getItem o i')) := .inr rfl
structure EnvOk (sc : Sc) (env : Env) : Prop where
 F : FnEnv env
 loc : ∀ x, sc.lookup x = some .local -> env.kindOf x = some .local
 cel : ∀ x, sc.lookup x = some .cell \/ sc.lookup x = some .free -> env.kindOf x = some .cell /\ (env.cells.lookup x).isSome = true
 glo : ∀ x, sc.lookup x = some .globalImplicit -> env.kindOf x = some .globalImplicit
theorem Yba {sc : Sc} {t : Expr} {i : Nat} (h : Qu sc t = some i) : ∃ x p, t = .Name x p /\ sc.lookup x = some .local /\ Zw x = some i := by
 cases t with
 | Name x p =>
  refine gE h fun h1 h2 => ?_
  exact Qn x p rfl (Ux h1) h2
 | _ => exact Zk h
theorem Zcx {sc : Sc} : ∀ {ts : List Expr} {xs : List Nat}, Zq (Qu sc) ts = some xs -> ∃ l : List (Str × Pos), ts = Wx l /\ (∀ q ∈ l, sc.lookup q.1 = some .local) /\ l.length = xs.length /\ ∀ (i : Nat) (q : Str × Pos) (j : Nat), l[i]? = some q -> xs[i]? = some j -> Zw q.1 = some j
 | [], xs, h => by (replace h := sI h; subst h); exact Vv ([]) rfl (fun q hq => absurd hq (by simp)) rfl (fun i q j h => by simp at h)
 | t :: ts, xs, h => by
  (refine bE h ?_; clear h; intro i h1 h)
  (refine bE h ?_; clear h; intro xs' h2 h)
  (replace h := sI h; subst h)
  (refine Xp (Yba h1) ?_; rintro x p rfl h3 h4)
  (refine Vu (Zcx h2) ?_; rintro l rfl h5 h6 h7)
  refine Vv ((x, p) :: l) rfl (fun q hq => (List.mem_cons.mp hq).elim (fun e => e ▸ h3) (h5 q)) (by rw [List.length_cons, List.length_cons, h6]) (fun i q j a b => ?_)
  cases i with
  | zero => (replace a := sI a; subst a); (replace b := sI b; subst b); exact h4
  | succ i => exact h7 i q j a b
theorem Ybb {ln : Nat} (hloc : ∀ x p, Expr.Name x p ∈ es -> env.kindOf x = some .local) : es.filterMap (fun | .Name id pos => if env.kindOf id == some .local && pos.line == ln then some id else none | _ => none) = We ln es := by
 induction es with
 | nil => rfl
 | cons t r ih =>
  have ih := ih fun x p h => hloc x p (.tail _ h)
  cases t with
  | Name x p =>
   have h := hloc x p (.head _)
   rw [List.filterMap_cons]
   dsimp only
   rw [h]
   simp only [beq_self_eq_true, Bool.true_and]
   show _ = (match p.line == ln with | true => x :: We ln r | false => We ln r)
   cases z : p.line == ln with
   | true => simp only [if_true]; rw [ih]
   | false => simp only [Bool.false_eq_true, if_false]; exact ih
  | _ => rw [List.filterMap_cons]; exact ih
theorem Ybc {ts : List Expr} {v : Expr} {k : Nat} {q : Pos} {r : Option (List Str)} (F : FnEnv env) (hloc : ∀ x p, Expr.Name x p ∈ ts -> env.kindOf x = some .local) (h : Hf ts v = some r) : swappedStores [.Tuple ts k q] v env = pure r := by
 cases v with
 | Tuple vs k' q' =>
   unfold Hf at h
   dsimp only at h
   unfold swappedStores
   have hk : (env.blockKind != .function) = false := by unfold Env.blockKind; rw [F.kind]; rfl
   simp only [hk, Bool.or_false]
   cases z1 : !(ts.length == 2 || ts.length == 3) || vs.length != ts.length with
   | true => rw [z1] at h; (replace h := sI h; subst h); simp
   | false =>
     rw [z1] at h
     dsimp only at h
     simp only [Bool.false_eq_true, if_false]
     cases z2 : vs.any Km with
     | true => rw [z2] at h; (replace h := sI h; subst h); exact if_pos z2
     | false =>
       rw [z2] at h
       dsimp only at h
       refine (if_neg fun y => Bool.noConfusion (z2.symm.trans y)).trans ?_
       have e3 := Ybb (es := ts) (ln := Of ts) hloc
       cases z3 : (We (Of ts) ts).length != ts.length || (We (Of ts) ts).eraseDups.length != (We (Of ts) ts).length with
       | true =>
         rw [z3] at h; (replace h := sI h; subst h)
         refine if_pos ?_
         rw [<- e3] at z3; exact z3
       | false =>
         rw [z3] at h
         dsimp only at h
         refine (if_neg fun y => ?_).trans ?_
         · rw [<- e3] at z3; exact Bool.noConfusion (z3.symm.trans y)
         · cases z4 : vs.all (foldedForSure 8) with
           | true => rw [z4] at h; (replace h := sI h; subst h); simp
           | false =>
             rw [z4] at h
             dsimp only at h
             simp only [Bool.false_eq_true, if_false]
             cases z5 : vs.all (constantsAlone 8) with
             | true => rw [z5] at h; exact Zk h
             | false =>
               rw [z5] at h; (replace h := sI h; subst h)
               simp only [Bool.false_eq_true, if_false]
               show pure (some _) = pure (some _)
               exact congrArg (fun z => pure (some z)) e3
 | _ => (replace h := sI h; subst h); rfl
end
end Mine.Ab
end
noncomputable section
namespace Mine.Ab
noncomputable def Zam (P : Params) (p : String × Nat) : Bool := match nsIn (K P) mainGlobals (Str.ofString p.1) with
 | some (some (.ref a)) => Nat.beq a p.2
 | _ => false
theorem Zan (P : Params) : (GTf.all (Zam P)) = true := by kernel_rfl
theorem Ybd (P : Params) : (GTc.all (Zam P)) = true := by kernel_rfl
noncomputable def Zjz (P : Params) (p : String × String) : Bool := match nsIn (K P) mainGlobals (Str.ofString p.1) with
 | some (some (.str a _)) => a == Str.ofString p.2
 | _ => false
theorem Ybe (P : Params) : (GTs.all (Zjz P)) = true := by kernel_rfl
theorem Ty {α : Type} {x : Str} {a : α} : ∀ {l : List (String × α)}, Wl x l = some a -> ∃ k, (k, a) ∈ l /\ x = Str.ofString k
 | [], h => nomatch h
 | (k, v) :: r, h => by
  unfold Wl at h
  cases z : x == Str.ofString k with
  | true => rw [z] at h; (replace h := sI h; subst h); exact Zp k (.head _) (eq_of_beq z)
  | false => rw [z] at h; refine Zb (Ty h) fun k' h1 h2 => ?_; exact Zp k' (.tail _ h1) h2
theorem Tz {l : List (String × Nat)} (hl : ∀ P, (l.all (Zam P)) = true) {x : Str} {a : Nat} (h : Wl x l = some a) : Ky x (.ref a) := by
 (refine Zb (Ty h) ?_; rintro k h1 rfl)
 refine .inl fun P => ?_
 have := List.all_eq_true.mp (hl P) _ h1
 unfold Zam at this
 split at this
 · rename_i b hb
   refine Zp _ hb ?_
   rw [Wn this]; rfl
 · exact Yb this
theorem Ybf {x : Str} {l : String} (h : Wl x GTs = some l) : Ky x (cv (fun _ => 0) (.str (Str.ofString l).cps.toList)) := by
 (refine Zb (Ty h) ?_; rintro k h1 rfl)
 refine .inl fun P => ?_
 have := List.all_eq_true.mp (Ybe P) _ h1
 unfold Zjz at this
 split at this
 · rename_i b t hb
   refine Zp _ hb ?_
   rw [eq_of_beq this]; rfl
 · exact Yb this
noncomputable def bIs (p : String × Nat) : Bool := match bootBuiltins (Str.ofString p.1) with
 | some v => v == Gx p.2 && !(Str.ofString p.1 == ("__name__" : Str))
 | none => false
theorem Ybg : GTb.all bIs = true := by kernel_rfl
noncomputable def noG (P : Params) (p : String × Nat) : Bool := match nsIn (K P) mainGlobals (Str.ofString p.1) with
 | some none => true
 | _ => false
theorem Ybh (P : Params) : GTb.all (noG P) = true := by kernel_rfl
theorem Zao {x : Str} {b : Nat} (h : Wl x GTb = some b) : Ky x (Gx b) := by
 (refine Zb (Ty h) ?_; rintro k h1 rfl)
 have h2 := List.all_eq_true.mp Ybg _ h1
 have h3 := fun P => List.all_eq_true.mp (Ybh P) _ h1
 refine .inr ⟨fun P => ?_, ?_, ?_, ?_⟩
 · have := h3 P
   unfold noG at this
   split at this
   · assumption
   · exact Yb this
 all_goals
   unfold bIs at h2
   split at h2
 · rename_i v hv
   refine aE h2 fun e1 e2 => ?_
   rw [hv]; exact congrArg some (by simpa using e1)
 · exact Yb h2
 · clear h2
   match b with
   | 0 | 1 | 2 | 3 | 4 | 5 | 6 | 7 | 8 | 9 | 10 => rfl
   | n + 11 => rfl
 · exact Yb h2
 · refine aE h2 fun e1 e2 => ?_
   simpa using e2
 · exact Yb h2
theorem Zcy (b : Nat) : Op (Gx b) := by
 match b with
 | 0 | 3 | 4 | 5 | 6 | 7 | 8 | 9 => exact .inl ⟨_, rfl⟩
 | 1 | 2 | 10 => exact .inr (.inl ⟨_, rfl⟩)
 | n + 11 => exact .inl ⟨_, rfl⟩
theorem Zcz (b : Nat) : er (Gx b) = Gx b := by
 match b with
 | 0 | 1 | 2 | 3 | 4 | 5 | 6 | 7 | 8 | 9 | 10 => rfl
 | n + 11 => rfl
noncomputable def Ra (o : Option (Option Value)) (v : Value) : Bool := match o with
 | some (some u) => u == v
 | _ => false
theorem Zda {o : Option (Option Value)} {v : Value} (h : Ra o v = true) : o = some (some v) := by
 unfold Ra at h
 split at h
 · rename_i u
   have e : u = v := by simpa using h
   rw [e]
 · exact Yb h
noncomputable def nIs (o : Option (Option Value)) : Bool := match o with
 | some none => true
 | _ => false
theorem Ybi {o : Option (Option Value)} (h : nIs o = true) : o = some none := by
 unfold nIs at h
 split at h
 · rfl
 · exact Yb h
noncomputable def Zka (P : Params) (p : Nat × Nat) : Bool := plainGet (K P) p.1 "" && Ra (findIn (K P) (.ref p.1) "__setattr__") (.builtin "object.__setattr__") && plainOver (K P) p.1 && hasDictIn (K P) p.1 &&
 makesIn (K P) p.1 && Ra (findIn (K P) (.ref p.1) "__init__") (.ref p.2) && isFn (K P) (.ref p.2) && keepIn (K P) (.ref p.1)
theorem Ybj (P : Params) : INIl.all (Zka P) = true := by kernel_rfl
noncomputable def mtB (P : Params) (p : Nat × Nat × Nat) : Bool := Ra (findIn (K P) (.ref p.1) (nm p.2.1)) (.ref p.2.2) && isFn (K P) (.ref p.2.2) && keepIn (K P) (.ref p.2.2)
theorem Ybk (P : Params) : MTl.all (mtB P) = true := by kernel_rfl
noncomputable def foB (P : Params) (p : Nat × Nat) : Bool := nIs (findIn (K P) (.ref p.1) (nm p.2))
theorem Ybl (P : Params) : FOl.all (foB P) = true := by kernel_rfl
noncomputable def fnB (P : Params) (p : String × Nat) : Bool := keepIn (K P) (.ref p.2)
theorem Zap (P : Params) : GTf.all (fnB P) = true := by kernel_rfl
theorem Ybm (P : Params) : GTc.all (fnB P) = true := by kernel_rfl
theorem Rb {l : List (String × Nat)} (hl : ∀ P, l.all (fnB P) = true) {x : Str} {a : Nat} (h : Wl x l = some a) : Op (.ref a) := by
 (refine Zb (Ty h) ?_; rintro k h1 rfl)
 exact .inr (.inr fun P => List.all_eq_true.mp (hl P) _ h1)
theorem Ybn {C f : Nat} (h : Ze C INIl = some f) : ClsOk C f := by
 have m := Ue h
 have q := fun P => List.all_eq_true.mp (Ybj P) _ m
 simp only [Zka, Bool.and_eq_true] at q
 exact ⟨fun P => ⟨(q P).1.1.1.1.1.1.1, Zda (q P).1.1.1.1.1.1.2, (q P).1.1.1.1.1.2, (q P).1.1.1.1.2⟩, fun P => (q P).1.1.1.2, fun P => Zda (q P).1.1.2, fun P => by simpa [isFn] using (q P).1.2⟩
theorem Zkb {C n f : Nat} : ∀ {l : List (Nat × Nat × Nat)}, Tr C n l = some f -> (C, n, f) ∈ l
 | [], h => nomatch h
 | (a, b, c) :: r, h => by
  unfold Tr at h
  cases z : Nat.beq a C && Nat.beq b n with
  | true =>
   rw [z] at h; (replace h := sI h; subst h)
   refine aE z fun z1 z2 => ?_
   rw [Wn z1, Wn z2]; exact .head _
  | false => rw [z] at h; exact .tail _ (Zkb h)
theorem Zkc {C n f : Nat} (h : Tr C n MTl = some f) : Zfm C (nm n) f := fun P => by
 have q := List.all_eq_true.mp (Ybk P) _ (Zkb h)
 simp only [mtB, Bool.and_eq_true] at q
 exact Xx (Zda q.1.1) q.1.2 q.2
theorem Zkd {C n : Nat} : ∀ {l : List (Nat × Nat)}, Tq C n l = true -> (C, n) ∈ l
 | [], h => nomatch h
 | (a, b) :: r, h => by
   unfold Tq at h
   rcases Bool.or_eq_true_iff.mp h with z | z
   · refine aE z fun z1 z2 => ?_
     rw [Wn z1, Wn z2]; exact .head _
   · exact .tail _ (Zkd z)
theorem Ybo {C n : Nat} (h : Tq C n FOl = true) : Ke C (nm n) := fun P => Ybi (List.all_eq_true.mp (Ybl P) _ (Zkd h))
theorem Ybp {ρ : Nat -> Addr} (v : V) : handedIn (cv ρ v) = true := by cases v <;> rfl
end Mine.Ab
end
noncomputable section
namespace Mine.Ab
variable {B : Bgd} {A : Around} {E : Value -> Shared -> Prop} {env : Env} {χ : St} {ml : Zc} {ρ ρ' : Nat -> Addr} {m : Fm} {H H' : Hp} {sc : Sc} {n : Nat} {c : Bool} {w : Sys} {k : Nat}
structure FmR (sc : Sc) (env : Env) (χ : St) (ml : Zc) (ρ : Nat -> Addr) (m : Fm) : Prop where
 loc : ∀ x i v, sc.lookup x = some .local -> Zw x = some i -> Ze i m = some v -> ml.lookup x = some (cv ρ v)
 cel : ∀ x i v, sc.lookup x = some .cell \/ sc.lookup x = some .free -> Zw x = some i -> Ze i m = some v -> ∃ c, c ≠ env.locals /\ env.cells.lookup x = some c /\ χ c = some (.cell (some (cv ρ v)))
noncomputable def FmL (m : Fm) (n : Nat) : Prop := ∀ x v, Ze x m = some v -> v.lt n
structure Ctx (sc : Sc) (A : Around) (env : Env) (χ : St) (ml : Zc) (ρ : Nat -> Addr) (m : Fm) (H : Hp) (n : Nat) (c : Bool) : Prop where
 ok : EnvOk sc env
 fm : FmR sc env χ ml ρ m
 lt : FmL m H.nx
 wf : Wf ρ H
 room : Room A n
 calm : c = true -> A.handled = none
theorem FmR.ext (h : FmR sc env χ ml ρ m) (l : FmL m n) (e : Ext n ρ ρ') : FmR sc env χ ml ρ' m :=
 ⟨fun x i v h1 h2 h3 => by rw [Ys e (l i v h3)]; exact h.loc x i v h1 h2 h3, fun x i v h1 h2 h3 => by
   refine Yg (h.cel x i v h1 h2 h3) fun c h4 h5 h6 => ?_
   exact ⟨c, h4, h5, by rw [Ys e (l i v h3)]; exact h6⟩⟩
theorem FmL.le (h : FmL m n) {n' : Nat} (l : n <= n') : FmL m n' := fun x v e => (h x v e).le l
theorem Ctx.next (C : Ctx sc A env χ ml ρ m H n c) (l : H.nx <= H'.nx) (e : Ext H.nx ρ ρ') (W : Wf ρ' H') : Ctx sc A env χ ml ρ' m H' n c := ⟨C.ok, C.fm.ext C.lt e, C.lt.le l, W, C.room, C.calm⟩
theorem Ctx.dec (C : Ctx sc A env χ ml ρ m H (n + 1) c) : Ctx sc A env χ ml ρ m H n c := ⟨C.ok, C.fm, C.lt, C.wf, C.room.le (Nat.le_succ n), C.calm⟩
structure Snd (B : Bgd) (w : Sys) (n : Nat) (c : Bool) : Prop where
 l : ∀ v Q m H, w.e (.lit v) Q m H -> Q v H
 e : ∀ k sc x e, Zf k sc x = some e -> ∀ A env χ ml ρ m H Q E, Ctx sc A env χ ml ρ m H n c -> w.e e Q m H -> JE B A env (fr env.locals ml χ) x (KV ρ H.nx Q) E (Za ρ H)
 t : ∀ k sc x e, Zf k sc x = some e -> ∀ A env χ ml ρ m H (Q : Bool -> Hp -> Prop) E, Ctx sc A env χ ml ρ m H n c -> w.e e (fun v H => Wp v fun b => Q b H) m H -> JT B A env (fr env.locals ml χ) x (KB ρ H.nx Q) E (Za ρ H)
 a : ∀ k sc xs es, Zq (Zf k sc) xs = some es -> Wm xs = true -> ∀ A env χ ml ρ m H Q E p, Ctx sc A env χ ml ρ m H n c -> w.a es Q m H -> J B A (fr env.locals ml χ) Yj (spliced (backTo p (starEach xs env))) (KL ρ H.nx Q) E (Za ρ H)
 c : ∀ f vs A ρ H Q us E, Wf ρ H -> Yt H.nx vs -> Room A n -> (c = true -> A.handled = none) -> w.c f vs Q H -> Yj us = vs.map (cv ρ) -> wC B A (.ref f) us (KV ρ H.nx Q) E (Za ρ H)
section
variable {β γ : Type} {cw : (Nat -> Addr) -> γ -> β} {lt : Nat -> γ -> Prop}
theorem J.up {α : Type} {e : α -> β} {t : Sem α} {ψ σ : St} {Q : γ -> Hp -> Prop} (h : J B A ψ e t (KP lt cw ρ' H'.nx Q) E σ) (l : H.nx <= H'.nx) (x : Ext H.nx ρ ρ') : J B A ψ e t (KP lt cw ρ H.nx Q) E σ := J.mono h fun b σ q => q.up l x
theorem Ybq (s : Str) : (⟨s.cps.toList.toArray⟩ : Str) = s := by cases s; simp
theorem Ybr {t : Const} {e : Ab.E} {q : Nat} {p : Pos} {Q : V -> Hp -> Prop} (C : Ctx sc A env χ ml ρ m H n c) (h : Zii t = some e) (hw : Yu T c w e Q m H) : JE B A env (fr env.locals ml χ) (.Constant t q p) (KV ρ H.nx Q) E (Za ρ H) := by
 cases t with
 | none => (replace h := sI h; subst h); exact Td (C.wf.here (v := .none) trivial hw) rfl
 | bool b => (replace h := sI h; subst h); exact Td (C.wf.here (v := .bool b) trivial hw) rfl
 | int b => (replace h := sI h; subst h); exact Td (C.wf.here (v := .int b) trivial hw) rfl
 | str s =>
  (replace h := sI h; subst h)
  have := C.wf.here (Q := Q) (v := .str s.cps.toList) trivial hw
  rw [show cv ρ (.str s.cps.toList) = Mine.S s from by show Mine.S ⟨s.cps.toList.toArray⟩ = _; rw [Ybq]] at this
  exact Td this rfl
 | _ => exact Zk h
theorem Ybs (O : B.Ok) {x : Str} {e : Ab.E} {p : Pos} {Q : V -> Hp -> Prop} (C : Ctx sc A env χ ml ρ m H n c) (h : Zci sc x = some e) (hd : (x == ("__debug__" : Str)) = false) (hw : Yu T c w e Q m H) : JE B A env (fr env.locals ml χ) (.Name x p) (KV ρ H.nx Q) E (Za ρ H) := by
 unfold Zci at h
 cases z : sc.lookup x with
 | none => rw [z] at h; exact Zk h
 | some k =>
  rw [z] at h
  cases k with
  | «local» =>
   refine bE h fun i h1 h2 => ?_
   (replace h2 := sI h2; subst h2)
   refine oE hw fun v h3 h4 => ?_
   exact Gd C.ok.F Wo (C.fm.loc x i v z h1 h3) (C.wf.here (C.lt i v h3) h4) (C.ok.loc x z) hd
  | cell =>
   refine bE h fun i h1 h2 => ?_
   (replace h2 := sI h2; subst h2)
   refine oE hw fun v h3 h4 => ?_
   refine Yg (C.fm.cel x i v (.inl z) h1 h3) fun a h5 h6 h7 => ?_
   exact Zic C.ok.F (C.ok.cel x (.inl z)).1 h6 (by unfold fr; rw [if_neg h5]; exact h7) hd (C.wf.here (C.lt i v h3) h4)
  | free =>
   refine bE h fun i h1 h2 => ?_
   (replace h2 := sI h2; subst h2)
   refine oE hw fun v h3 h4 => ?_
   refine Yg (C.fm.cel x i v (.inr z) h1 h3) fun a h5 h6 h7 => ?_
   exact Zic C.ok.F (C.ok.cel x (.inr z)).1 h6 (by unfold fr; rw [if_neg h5]; exact h7) hd (C.wf.here (C.lt i v h3) h4)
  | globalImplicit =>
   refine bE h fun l h1 h2 => ?_
   (replace h2 := sI h2; subst h2)
   exact Rt O C.ok.F (Ybf h1) (C.wf.here (v := .str _) trivial hw) (C.ok.glo x z) hd
  | globalExplicit => exact Zk h
theorem Zke {N : Nat} {Q : V -> Hp -> Prop} {b : Bool} {σ : St} (h : KB ρ N (fun b H => Q (.bool b) H) b σ) : KV ρ N Q (.bool b) σ := by
 obtain ⟨ρ1, H1, a, l1, x1, W1, v1, rfl, rfl, q⟩ := h
 exact ⟨ρ1, H1, .bool b, l1, x1, W1, trivial, rfl, rfl, q⟩
theorem Ybt {N : Nat} {Q : Bool -> Hp -> Prop} {v : Value} {σ : St} (h : KV ρ N (fun v H => Wp v fun b => Q b H) v σ) : ∃ b, v = .bool b /\ KB ρ N Q b σ := by
 obtain ⟨ρ1, H1, a, l1, x1, W1, v1, rfl, rfl, q⟩ := h
 (refine Zb (Se q) ?_; clear q; rintro b rfl q)
 exact ⟨b, rfl, ρ1, H1, b, l1, x1, W1, trivial, rfl, rfl, q⟩
theorem Va {op : CmpOp} {a b : Value} {ψ σ : St} {Q Q' : Bool -> St -> Prop} (h : Wj B A ψ op a b Q E σ) (q : ∀ c σ, Q c σ -> Q' c σ) : Wj B A ψ op a b Q' E σ := fun u v hu hv =>
 J.mono (h u v hu hv) fun x σ' ⟨c, e, z⟩ => ⟨c, e, q _ _ z⟩
theorem Zdb {f : Value} {first vs : List Value} {ψ σ : St} {Q Q' : Value -> St -> Prop} (h : Zv B A ψ f first vs Q E σ) (q : ∀ c σ, Q c σ -> Q' c σ) : Zv B A ψ f first vs Q' E σ := fun us hus => J.mono (h us hus) q
theorem Ybu {l r r' : Expr} {op op' : CmpOp} {p : Pos} {ψ σ : St} {Q : Value -> St -> Prop}
  (h : JE B A env ψ l (fun a σ₁ => JE B A env ψ r (fun b σ₂ => Wj B A ψ op a b (fun c σ₃ => (c = false -> Q (.bool false) σ₃) /\ (c = true -> JE B A env ψ r' (fun d σ₄ => Wj B A ψ op' b d (fun c => Q (.bool c)) E σ₄) E σ₃)) E σ₂) E σ₁) E σ)
  (hm : lastMarks [op, op'] [r, r'] = false) : JE B A env ψ (.Compare l [op, op'] [r, r'] p) Q E σ := by
 show J B A ψ er (do compareChain p (<- eval l env) [op, op'] (markedEach [op, op'] [r, r'] (evalEach [r, r'] env))) Q E σ
 rw [markedEach_of_false _ _ _ hm]
 show J B A ψ er (do
  let a <- eval l env
  let rv <- PySem.holding [a] (eval r env)
  PySem.standAt p
  let c <- PySem.holding [a, rv] (compareOp op a rv)
  PySem.release [a, rv] [c]
  if <- PySem.holding [c, rv] (truthy c) then do
   let rv' <- PySem.holding [rv] (eval r' env)
   PySem.standAt p
   PySem.operate [rv, rv'] (compareOp op' rv rv')
  else Pure.pure c) Q E σ
 refine J.bind (J.mono h fun a σ₁ h₁ u hu => J.bind (J.holding (J.mono h₁ fun b σ₂ h₂ v hv => J.bind (e := _root_.id) (J.standAt fun _ _ => J.bind (e := er) (J.holding (J.mono (h₂ u v hu hv) ?_))))))
 rintro _ _ ⟨c, rfl, q⟩ x hx
 rw [Qa hx]
 refine J.bind (e := _root_.id) (J.lift (Zfb fun _ _ => J.bind (e := _root_.id) (J.holding (J.lift (On fun s _ R k => wpAny_truthy_bool (k s.toks c ?_))))))
 rintro y hy
 obtain rfl : y = c := hy
 cases y with
 | false => exact J.pure (q.1 rfl)
 | true =>
  refine J.bind (J.holding (J.mono (q.2 rfl) fun d σ₄ h₄ w hw => J.bind (e := _root_.id) (J.standAt fun _ _ => J.operate (J.mono (h₄ v w hv hw) ?_))))
  rintro _ _ ⟨c', rfl, q'⟩
  exact q'
theorem Ybv {t b o : Expr} {p : Pos} {ψ σ : St} {Q : Bool -> St -> Prop} (h : JT B A env ψ t (fun c σ₁ => (c = true -> JT B A env ψ b Q E σ₁) /\ (c = false -> JT B A env ψ o Q E σ₁)) E σ) : JT B A env ψ (.IfExp t b o p) Q E σ := by
 show J B A ψ _root_.id (do if <- isTrue t env (eval t env) then isTrue b env (eval b env) else isTrue o env (eval o env)) Q E σ
 refine J.bind (J.mono h fun c σ₁ q a ha => ?_)
 obtain rfl : a = c := ha
 cases a with
 | true => exact q.1 rfl
 | false => exact q.2 rfl
section
variable {l r x y t b o : Expr} {p : Pos} {e : Ab.E} {Q : V -> Hp -> Prop} {Qb : Bool -> Hp -> Prop}
theorem Ybw {op : Operator} (S : Snd B w n c) (C : Ctx sc A env χ ml ρ m H n c) (h : (bO (opN op) fun o => bO (Zf k sc l) fun a => bO (Zf k sc r) fun b => some (.bin o a b)) = some e) (hw : Yu T c w e Q m H) : JE B A env (fr env.locals ml χ) (.BinOp l op r p) (KV ρ H.nx Q) E (Za ρ H) := by
 (refine bE h ?_; clear h; intro o h0 h)
 (refine bE h ?_; clear h; intro a h1 h)
 (refine bE h ?_; clear h; intro b h2 h)
 (replace h := sI h; subst h)
 refine Zps (J.mono (S.e _ _ _ _ h1 _ _ _ _ _ _ _ _ _ C hw) ?_)
 refine KP.all fun ρ1 H1 va l1 x1 W1 v1 q => ?_
 refine J.mono (S.e _ _ _ _ h2 _ _ _ _ _ _ _ _ _ (C.next l1 x1 W1) q) ?_
 refine KP.all fun ρ2 H2 vb l2 x2 W2 v2 q => ?_
 rw [<- Ys x2 v1]
 exact fun u v hu hv => J.up (J.up (Yag h0 W2 q u v hu hv) l2 x2) l1 x1
inductive CmpI (f : PySem.Expr -> Option Ab.E) (a : Ab.E) : List CmpOp -> List Expr -> Ab.E -> Prop
 | one {op r b} (h1 : Qt r = false) (h2 : f r = some b) : CmpI f a [op] [r] (.cmp (Kl op) a b)
 | two {op op' r r' b b'} (h1 : Qt r' = false) (h2 : f r = some b) (h3 : f r' = some b') : CmpI f a [op, op'] [r, r'] (.cmp2 (Kl op) (Kl op') a b b')
theorem Zkf {f : PySem.Expr -> Option Ab.E} {a : Ab.E} {ops : List CmpOp} {rs : List Expr} (h : Sy f a ops rs = some e) : CmpI f a ops rs e := by
 cases ops with
 | nil => exact Zk h
 | cons op ops =>
  cases rs with
  | nil => exact Zk h
  | cons r rs =>
   (refine gE h ?_; clear h; intro h1 h)
   (refine bE h ?_; clear h; intro b h2 h)
   cases ops with
   | nil =>
    (refine gE h ?_; clear h; intro h3 h)
    rw [<- sI h, Og h3]; exact .one (by simpa using h1) h2
   | cons op' ops =>
    cases rs with
    | nil => exact Zk h
    | cons r' rs =>
     (refine gE h ?_; clear h; intro h3 h)
     (refine bE h ?_; clear h; intro b' h4 h)
     simp only [Bool.and_eq_true] at h3
     rw [<- sI h, Og h3.1.2, Og h3.2]; exact .two (by simpa using h3.1.1) h2 h4
theorem Ybx {ops : List CmpOp} {rs : List Expr} (S : Snd B w n c) (C : Ctx sc A env χ ml ρ m H n c) (h : (bO (Zf k sc l) fun a => Sy (Zf k sc) a ops rs) = some e) (hw : Yu T c w e Q m H) : JE B A env (fr env.locals ml χ) (.Compare l ops rs p) (KV ρ H.nx Q) E (Za ρ H) := by
 (refine bE h ?_; clear h; intro a h1 h)
 rcases Zkf h with @⟨op, r, b, hs, h2⟩ | @⟨op, op', r, r', b, b', hs, h2, h3⟩
 · refine Zqm (J.mono (S.e _ _ _ _ h1 _ _ _ _ _ _ _ _ _ C hw) ?_) (Zaj hs)
   refine KP.all fun ρ1 H1 va l1 x1 W1 v1 q => ?_
   refine J.mono (S.e _ _ _ _ h2 _ _ _ _ _ _ _ _ _ (C.next l1 x1 W1) q) ?_
   refine KP.all fun ρ2 H2 vb l2 x2 W2 v2 q => ?_
   rw [<- Ys x2 v1]
   exact Va (Gw (Q := fun b H => Q (.bool b) H) C.room W2 q) fun _ _ z => ((Zke z).up l2 x2).up l1 x1
 · refine Ybu (J.mono (S.e _ _ _ _ h1 _ _ _ _ _ _ _ _ _ C hw) ?_) (Zaj hs)
   refine KP.all fun ρ1 H1 va l1 x1 W1 v1 q => ?_
   refine J.mono (S.e _ _ _ _ h2 _ _ _ _ _ _ _ _ _ (C.next l1 x1 W1) q) ?_
   refine KP.all fun ρ2 H2 vb l2 x2 W2 v2 q => ?_
   rw [<- Ys x2 v1]
   refine Va (Gw (Q := fun d H' => br d (w.e b' (fun vc H => Ha (Kl op') vb vc H fun c => Q (.bool c) H) m H') (Q (.bool false) H')) C.room W2 q) fun d _ z => ?_
   obtain ⟨ρ3, H3, d, l3, x3, W3, -, rfl, rfl, q⟩ := z
   refine ⟨fun e => ?_, fun e => ?_⟩
   · exact (((KP.here (a := V.bool false) W3 trivial (Qd q e) : KV ρ3 H3.nx Q _ _).up l3 x3).up l2 x2).up l1 x1
   · refine J.mono (S.e _ _ _ _ h3 _ _ _ _ _ _ _ _ _ (((C.next l1 x1 W1).next l2 x2 W2).next l3 x3 W3) (Qc q e)) ?_
     refine KP.all fun ρ4 H4 vd l4 x4 W4 v4 q => ?_
     rw [<- Ys x3 v2, <- Ys x4 (v2.le l3)]
     exact Va (Gw (Q := fun b H => Q (.bool b) H) C.room W4 q) fun _ _ z => ((((Zke z).up l4 x4).up l3 x3).up l2 x2).up l1 x1
theorem Yby {ops : List CmpOp} {rs : List Expr} (S : Snd B w n c) (C : Ctx sc A env χ ml ρ m H n c) (h : (bO (Zf k sc l) fun a => Sy (Zf k sc) a ops rs) = some e) (hw : Yu T c w e (fun v H => Wp v fun b => Qb b H) m H) : JT B A env (fr env.locals ml χ) (.Compare l ops rs p) (KB ρ H.nx Qb) E (Za ρ H) := by
 (refine bE h ?_; clear h; intro a h1 h)
 rcases Zkf h with @⟨op, r, b, hs, h2⟩ | @⟨op, op', r, r', b, b', hs, h2, h3⟩
 · refine Zqo (J.mono (S.e _ _ _ _ h1 _ _ _ _ _ _ _ _ _ C hw) ?_) (Zaj hs)
   refine KP.all fun ρ1 H1 va l1 x1 W1 v1 q => ?_
   refine J.mono (S.e _ _ _ _ h2 _ _ _ _ _ _ _ _ _ (C.next l1 x1 W1) q) ?_
   refine KP.all fun ρ2 H2 vb l2 x2 W2 v2 q => ?_
   rw [<- Ys x2 v1]
   exact Va (Gw (Q := Qb) C.room W2 q) fun _ _ z => (z.up l2 x2).up l1 x1
 · refine Zqp (J.mono (S.e _ _ _ _ h1 _ _ _ _ _ _ _ _ _ C hw) ?_) (Zaj hs)
   refine KP.all fun ρ1 H1 va l1 x1 W1 v1 q => ?_
   refine J.mono (S.e _ _ _ _ h2 _ _ _ _ _ _ _ _ _ (C.next l1 x1 W1) q) ?_
   refine KP.all fun ρ2 H2 vb l2 x2 W2 v2 q => ?_
   rw [<- Ys x2 v1]
   refine Va (Gw (Q := fun d H' => br d (w.e b' (fun vc H => Ha (Kl op') vb vc H fun c => Qb c H) m H') (Qb false H')) C.room W2 q) fun d _ z => ?_
   obtain ⟨ρ3, H3, d, l3, x3, W3, -, rfl, rfl, q⟩ := z
   refine ⟨fun e => ?_, fun e => ?_⟩
   · exact (((W3.hereB (Q := Qb) (Qd q e)).up l3 x3).up l2 x2).up l1 x1
   · refine J.mono (S.e _ _ _ _ h3 _ _ _ _ _ _ _ _ _ (((C.next l1 x1 W1).next l2 x2 W2).next l3 x3 W3) (Qc q e)) ?_
     refine KP.all fun ρ4 H4 vd l4 x4 W4 v4 q => ?_
     rw [<- Ys x3 v2, <- Ys x4 (v2.le l3)]
     exact Va (Gw (Q := Qb) C.room W4 q) fun _ _ z => (((z.up l4 x4).up l3 x3).up l2 x2).up l1 x1
theorem Ybz {rest : List Expr} {a b : Ab.E} (S : Snd B w n c) (C : Ctx sc A env χ ml ρ m H n c) (h1 : Zf k sc x = some a) (h2 : Zf k sc (.BoolOp .And (y :: rest) p) = some b) (hw : Yu T c w (.and a b) Q m H) : JE B A env (fr env.locals ml χ) (.BoolOp .And (x :: y :: rest) p) (KV ρ H.nx Q) E (Za ρ H) := by
 refine Zqw (J.mono (S.e _ _ _ _ h1 _ _ _ _ _ _ _ _ _ C hw) ?_)
 refine KP.all fun ρ1 H1 va l1 x1 W1 v1 q => ?_
 (refine Zb (Se q) ?_; clear q; rintro d rfl q)
 refine Yi d rfl (fun e => ?_) (fun e => ?_)
 · exact J.up (S.e _ _ _ _ h2 _ _ _ _ _ _ _ _ _ (C.next l1 x1 W1) (Qc q e)) l1 x1
 · exact (W1.here (v := .bool false) trivial (Qd q e).h).up l1 x1
theorem Yca {rest : List Expr} {a b : Ab.E} (S : Snd B w n c) (C : Ctx sc A env χ ml ρ m H n c) (h1 : Zf k sc x = some a) (h2 : Zf k sc (.BoolOp .Or (y :: rest) p) = some b) (hw : Yu T c w (.or a b) Q m H) : JE B A env (fr env.locals ml χ) (.BoolOp .Or (x :: y :: rest) p) (KV ρ H.nx Q) E (Za ρ H) := by
 refine Zqx (J.mono (S.e _ _ _ _ h1 _ _ _ _ _ _ _ _ _ C hw) ?_)
 refine KP.all fun ρ1 H1 va l1 x1 W1 v1 q => ?_
 (refine Zb (Se q) ?_; clear q; rintro d rfl q)
 refine Yi d rfl (fun e => ?_) (fun e => ?_)
 · exact J.up (S.e _ _ _ _ h2 _ _ _ _ _ _ _ _ _ (C.next l1 x1 W1) (Qd q e)) l1 x1
 · exact (W1.here (v := .bool true) trivial (Qc q e).h).up l1 x1
theorem Ycb {rest : List Expr} {a b : Ab.E} (S : Snd B w n c) (C : Ctx sc A env χ ml ρ m H n c) (h1 : Zf k sc x = some a) (h2 : Zf k sc (.BoolOp .And (y :: rest) p) = some b) (hw : Yu T c w (.and a b) (fun v H => Wp v fun b => Qb b H) m H) : JT B A env (fr env.locals ml χ) (.BoolOp .And (x :: y :: rest) p) (KB ρ H.nx Qb) E (Za ρ H) := by
 refine Zfh (J.mono (S.t _ _ _ _ h1 _ _ _ _ _ _ _ _ _ C hw) ?_)
 refine KB.all fun ρ1 H1 d l1 x1 W1 v1 q => ?_
 refine ⟨fun e => ?_, fun e => ?_⟩
 · exact J.up (S.t _ _ _ _ h2 _ _ _ _ _ _ _ _ _ (C.next l1 x1 W1) (Qc q e)) l1 x1
 · exact (W1.hereB (Q := Qb) (Qd q e).h).up l1 x1
theorem Ycc {rest : List Expr} {a b : Ab.E} (S : Snd B w n c) (C : Ctx sc A env χ ml ρ m H n c) (h1 : Zf k sc x = some a) (h2 : Zf k sc (.BoolOp .Or (y :: rest) p) = some b) (hw : Yu T c w (.or a b) (fun v H => Wp v fun b => Qb b H) m H) : JT B A env (fr env.locals ml χ) (.BoolOp .Or (x :: y :: rest) p) (KB ρ H.nx Qb) E (Za ρ H) := by
 refine Zfi (J.mono (S.t _ _ _ _ h1 _ _ _ _ _ _ _ _ _ C hw) ?_)
 refine KB.all fun ρ1 H1 d l1 x1 W1 v1 q => ?_
 refine ⟨fun e => ?_, fun e => ?_⟩
 · exact J.up (S.t _ _ _ _ h2 _ _ _ _ _ _ _ _ _ (C.next l1 x1 W1) (Qd q e)) l1 x1
 · exact (W1.hereB (Q := Qb) (Qc q e).h).up l1 x1
theorem Ycd {a : Ab.E} (S : Snd B w n c) (C : Ctx sc A env χ ml ρ m H n c) (h1 : Zf k sc x = some a) (hw : Yu T c w (.not a) Q m H) : JE B A env (fr env.locals ml χ) (.UnaryOp .Not x p) (KV ρ H.nx Q) E (Za ρ H) := by
 refine Zqt (J.mono (S.e _ _ _ _ h1 _ _ _ _ _ _ _ _ _ C hw) ?_)
 refine KP.all fun ρ1 H1 va l1 x1 W1 v1 q => ?_
 (refine Zb (Se q) ?_; clear q; rintro d rfl q)
 exact Zp d rfl ((W1.here (v := .bool _) trivial q).up l1 x1)
theorem Yce {a : Ab.E} (S : Snd B w n c) (C : Ctx sc A env χ ml ρ m H n c) (h1 : Zf k sc x = some a) (hw : Yu T c w (.not a) (fun v H => Wp v fun b => Qb b H) m H) : JT B A env (fr env.locals ml χ) (.UnaryOp .Not x p) (KB ρ H.nx Qb) E (Za ρ H) := by
 refine Zqq (J.mono (S.t _ _ _ _ h1 _ _ _ _ _ _ _ (fun b H => Qb (!b) H) _ C hw) ?_)
 refine KB.all fun ρ1 H1 d l1 x1 W1 v1 q => ?_
 exact (W1.hereB (Q := Qb) q).up l1 x1
theorem Ycf {a : Ab.E} (S : Snd B w n c) (C : Ctx sc A env χ ml ρ m H n c) (h1 : Zf k sc x = some a) (hw : Yu T c w (.neg a) Q m H) : JE B A env (fr env.locals ml χ) (.UnaryOp .USub x p) (KV ρ H.nx Q) E (Za ρ H) := by
 refine Zqu (J.mono (S.e _ _ _ _ h1 _ _ _ _ _ _ _ _ _ C hw) ?_)
 refine KP.all fun ρ1 H1 va l1 x1 W1 v1 q => ?_
 (refine iE q ?_; clear q; rintro d rfl q)
 exact Zp d rfl ((W1.here (v := .int _) trivial q).up l1 x1)
theorem Ycg {t' b' o' : Ab.E} (S : Snd B w n c) (C : Ctx sc A env χ ml ρ m H n c) (h1 : Zf k sc t = some t') (h2 : Zf k sc b = some b') (h3 : Zf k sc o = some o') (hw : Yu T c w (.ite t' b' o') Q m H) : JE B A env (fr env.locals ml χ) (.IfExp t b o p) (KV ρ H.nx Q) E (Za ρ H) := by
 refine Zqv (J.mono (S.t _ _ _ _ h1 _ _ _ _ _ _ _ _ _ C hw) ?_)
 refine KB.all fun ρ1 H1 d l1 x1 W1 v1 q => ?_
 exact ⟨fun e => J.up (S.e _ _ _ _ h2 _ _ _ _ _ _ _ _ _ (C.next l1 x1 W1) (Qc q e)) l1 x1, fun e => J.up (S.e _ _ _ _ h3 _ _ _ _ _ _ _ _ _ (C.next l1 x1 W1) (Qd q e)) l1 x1⟩
theorem Ych {t' b' o' : Ab.E} (S : Snd B w n c) (C : Ctx sc A env χ ml ρ m H n c) (h1 : Zf k sc t = some t') (h2 : Zf k sc b = some b') (h3 : Zf k sc o = some o') (hw : Yu T c w (.ite t' b' o') (fun v H => Wp v fun b => Qb b H) m H) : JT B A env (fr env.locals ml χ) (.IfExp t b o p) (KB ρ H.nx Qb) E (Za ρ H) := by
 refine Ybv (J.mono (S.t _ _ _ _ h1 _ _ _ _ _ _ _ _ _ C hw) ?_)
 refine KB.all fun ρ1 H1 d l1 x1 W1 v1 q => ?_
 exact ⟨fun e => J.up (S.t _ _ _ _ h2 _ _ _ _ _ _ _ _ _ (C.next l1 x1 W1) (Qc q e)) l1 x1, fun e => J.up (S.t _ _ _ _ h3 _ _ _ _ _ _ _ _ _ (C.next l1 x1 W1) (Qd q e)) l1 x1⟩
theorem Zaq {i : Nat} : ∀ {fs : List (Nat × V)}, (fs.map fun p => (nm p.1, cv ρ p.2)).lookup (nm i) = (Ze i fs).map (cv ρ)
 | [] => rfl
 | (j, v) :: r => by
  rw [List.map_cons]
  unfold Ze
  cases z : Nat.beq j i with
  | true => rw [Wn z]; simp
  | false =>
   have : nm i ≠ nm j := fun e => Gu z (Ziv e.symm)
   simp only [List.lookup_cons, beq_eq_false_iff_ne.mpr this]
   exact Zaq
theorem Yci (O : B.Ok) {f : Str} {a : Ab.E} {i : Nat} (S : Snd B w n c) (C : Ctx sc A env χ ml ρ m H n c) (h0 : To x = false) (h1 : Zf k sc x = some a) (h2 : Zw f = some i) (hw : Yu T c w (.fld a i) Q m H) : JE B A env (fr env.locals ml χ) (.Attribute x f p) (KV ρ H.nx Q) E (Za ρ H) := by
 refine Zra (v := .none) O (J.mono (S.e _ _ _ _ h1 _ _ _ _ _ _ _ _ _ C hw) ?_) (Zjv h0)
 refine KP.all fun ρ1 H1 va l1 x1 W1 v1 q => ?_
 (refine rE q ?_; clear q; rintro j rfl q)
 (refine kE q ?_; clear q; intro ob g1 q)
 (refine Zx (Zgu q) ?_; clear q; rintro cl fs rfl q)
 (refine oE q ?_; clear q; intro u g2 q)
 refine ⟨_, _, _, rfl, W1.look g1, cv ρ1 u, ?_, Ybp u, (W1.here (W1.olt g1 _ (Ue g2)) q).up l1 x1⟩
 rw [<- Hh h2, Zaq, g2]; rfl
end
end
end Mine.Ab
end
noncomputable section
namespace Mine.Ab
variable {B : Bgd} {A : Around} {E : Value -> Shared -> Prop} {env : Env} {χ : St} {ml : Zc} {ρ ρ' : Nat -> Addr} {m : Fm} {H H' : Hp} {sc : Sc} {n : Nat} {c : Bool} {w : Sys} {k : Nat}
variable {l r x y t b o : Expr} {p : Pos} {e : Ab.E} {Q : V -> Hp -> Prop} {Qb : Bool -> Hp -> Prop}
theorem Ycj {i : Expr} {a j : Ab.E} (S : Snd B w n c) (C : Ctx sc A env χ ml ρ m H n c) (hi : Zcj i = false) (h1 : Zf k sc x = some a) (h2 : Zf k sc i = some j) (hw : Yu T c w (.item a j) Q m H) : JE B A env (fr env.locals ml χ) (.Subscript x i p) (KV ρ H.nx Q) E (Za ρ H) := by
 refine Zfy (J.mono (S.e _ _ _ _ h1 _ _ _ _ _ _ _ _ _ C hw) ?_) (Yay hi)
 refine KP.all fun ρ1 H1 va l1 x1 W1 v1 q => ?_
 refine J.mono (S.e _ _ _ _ h2 _ _ _ _ _ _ _ _ _ (C.next l1 x1 W1) q) ?_
 refine KP.all fun ρ2 H2 vb l2 x2 W2 v2 q => ?_
 rw [<- Ys x2 v1]
 refine Zg (Yaj (B := B) (A := A) (E := E) (ψ := fr env.locals ml χ) W2 q) fun g1 g2 => ?_
 exact ⟨g1, fun u j hu hj => J.up (J.up (g2 u j hu hj) l2 x2) l1 x1⟩
theorem Zkg {v : V} {q : Option Nat -> Prop} (h : Zbw v q) : ∃ i, cv ρ v = bV i /\ q i := by
 cases v with
 | none => exact Zp none rfl h
 | int j =>
  refine Yo h fun h1 h2 => ?_
  (refine Zg (of_decide_eq_true h1) ?_; clear h1; intro h1 h3)
  refine Zp (some j.toNat) ?_ h2
  show Mine.I j = Mine.I (j.toNat : Int)
  rw [Int.toNat_of_nonneg h1]
 | _ => exact False.elim h
theorem Zkh {α : Type} (l : List α) (i j : Option Nat) : Wt l i j = cut l i j := by cases i <;> cases j <;> rfl
theorem Zar {lo : Option Expr} {a : Ab.E} (S : Snd B w n c) (C : Ctx sc A env χ ml ρ m H n c) (h : Qg (Zf k sc) lo = some a) (hw : w.e a Q m H) : J B A (fr env.locals ml χ) er (evalPart lo env) (KV ρ H.nx Q) E (Za ρ H) := by
 cases lo with
 | none => (replace h := sI h; subst h); exact Zux (C.wf.here (v := .none) trivial (S.l _ _ _ _ hw))
 | some x => exact Zuy (S.e _ _ _ _ h _ _ _ _ _ _ _ _ _ C hw)
theorem Yck {o : O} {i j : Option Nat} {q : List Int -> Prop} {a : Nat} (W : Wf ρ H) (l1 : H.look a = some o) (h : Zgz o i j q) : ∃ xs, isLst (Za ρ H) (ρ a) (xs.map Mine.I) /\ xs.length <= sizeLine /\ q (Wt xs i j) := by
 cases o with
 | il xs => refine Yo h fun h1 h2 => ?_; exact Yi xs (Uz W l1) (Wr h1) h2
 | sil xs => refine Yo h fun h1 h2 => ?_; exact Yi xs (Yad W l1) (Wr h1) h2
 | _ => exact False.elim h
theorem Ycl {lo up : Option Expr} {q' : Pos} {a lo' up' : Ab.E} (S : Snd B w n c) (C : Ctx sc A env χ ml ρ m H n c) (h1 : Zf k sc x = some a) (h2 : Qg (Zf k sc) lo = some lo') (h3 : Qg (Zf k sc) up = some up') (hw : Yu T c w (.slc a lo' up') Q m H) : JE B A env (fr env.locals ml χ) (.Subscript x (.Slice lo up none q') p) (KV ρ H.nx Q) E (Za ρ H) := by
 refine J.done (Zfy (J.mono (S.e _ _ _ _ h1 _ _ _ _ _ _ _ _ _ C hw) ?_) Yaz)
 refine KP.all fun ρ1 H1 va l1 x1 W1 v1 q => ?_
 refine Zhn (J.mono (Zar S (C.next l1 x1 W1) h2 q) ?_)
 refine KP.all fun ρ2 H2 vl l2 x2 W2 v2 q => ?_
 refine J.mono (Zar S ((C.next l1 x1 W1).next l2 x2 W2) h3 q) ?_
 refine KP.all fun ρ3 H3 vu l3 x3 W3 v3 q => ?_
 rw [<- Ys x3 v2, <- Ys x2 v1, <- Ys x3 (v1.le l2)]
 (refine Zb (Zkg (ρ := ρ3) q) ?_; clear q; intro i e1 q)
 (refine Zb (Zkg (ρ := ρ3) q) ?_; clear q; intro j e2 q)
 refine Qn i j e1 e2 (fun sl wl wu hsl pl pu => ?_)
 cases va with
 | ref a =>
  (refine kE q ?_; clear q; intro ob g1 q)
  (refine Yg (Yck W3 g1 q) ?_; clear q; intro xs g2 g3 q)
  refine Zuz g2 (by rw [List.length_map]; exact g3) hsl pl pu fun bb hb => ?_
  rw [<- Zgd, <- Zkh]
  exact (((W3.newV (o := .il _) trivial q bb hb).up l3 x3).up l2 x2).up l1 x1
 | str s =>
  (refine Yo q ?_; clear q; intro g1 q)
  refine Zva (Wr g1) hsl pl pu ?_
  rw [<- Zkh]
  exact (((W3.here (v := .str _) trivial q).up l3 x3).up l2 x2).up l1 x1
 | _ => exact False.elim q
theorem Zki : ∀ {vs : List V} {l : List Int}, Go vs = some l -> vs.map (cv ρ) = l.map Mine.I
 | [], l, h => by (replace h := sI h; subst h); rfl
 | v :: r, l, h => by
  unfold Go at h
  cases v with
  | int i =>
   dsimp only at h
   cases z : Go r with
   | none => rw [z] at h; exact Zk h
   | some l' => rw [z] at h; (replace h := sI h; subst h); rw [List.map_cons, List.map_cons, Zki z]; rfl
  | _ => exact Zk h
theorem Ycm {vs : List V} (W : Wf ρ H) (hv : Yt H.nx vs) (h : Si vs fun o => H.newK o fun a H => Q (.ref a) H) : ∀ b, Za ρ H b = none -> KV ρ H.nx Q (.ref b) (upd (Za ρ H) b (.lst (vs.map (cv ρ)))) := fun b hb => by
 unfold Si at h
 cases z : Go vs with
 | none => rw [z] at h; exact W.newV (o := .lst vs) hv h b hb
 | some l => rw [z] at h; rw [Zki z]; exact W.newV (o := .il l) trivial h b hb
theorem Ycn {xs : List Expr} {es : List Ab.E} (S : Snd B w n c) (C : Ctx sc A env χ ml ρ m H n c) (h0 : Wm xs = true) (h1 : Zq (Zf k sc) xs = some es) (hw : Yu T c w (.list es) Q m H) : JE B A env (fr env.locals ml χ) (.List xs p) (KV ρ H.nx Q) E (Za ρ H) := by
 refine Zse (J.mono (S.a _ _ _ _ h1 h0 _ _ _ _ _ _ _ _ _ _ C hw) ?_)
 refine KL.all fun ρ1 H1 va l1 x1 W1 v1 q => ?_
 (refine Yo q ?_; clear q; intro g1 q)
 exact ⟨by rw [List.length_map]; exact Wr g1, fun b hb => (Ycm W1 v1 q b hb).up l1 x1⟩
theorem Yco {xs : List Expr} {es : List Ab.E} {kk : Nat} (S : Snd B w n c) (C : Ctx sc A env χ ml ρ m H n c) (h0 : Wm xs = true) (h1 : Zq (Zf k sc) xs = some es) (hw : Yu T c w (.tup es) Q m H) : JE B A env (fr env.locals ml χ) (.Tuple xs kk p) (KV ρ H.nx Q) E (Za ρ H) := by
 refine Zsf (J.mono (S.a _ _ _ _ h1 h0 _ _ _ _ _ _ _ _ _ _ C hw) ?_)
 refine KL.all fun ρ1 H1 va l1 x1 W1 v1 q => ?_
 (refine Yo q ?_; clear q; intro g1 q)
 exact ⟨by rw [List.length_map]; exact Wr g1, fun b hb => (W1.newV (o := .tup va) v1 q b hb).up l1 x1⟩
theorem Ycp (C : Ctx sc A env χ ml ρ m H n c) (hw : Yu T c w .dict0 Q m H) : JE B A env (fr env.locals ml χ) (.Dict [] [] p) (KV ρ H.nx Q) E (Za ρ H) :=
 Zsg fun b hb => C.wf.newV (o := .dct []) (fun p hp => absurd hp (by simp)) hw b hb
theorem Ycq {xs : List Expr} {es : List Ab.E} {Q : List V -> Hp -> Prop} (S : Snd B w n c) (C : Ctx sc A env χ ml ρ m H n c) (h0 : Wm xs = true) (h1 : Zq (Zf k sc) xs = some es) (hw : Zhd w es Q m H) : J B A (fr env.locals ml χ) Yj (spliced (backTo p (starEach xs env))) (KL ρ H.nx Q) E (Za ρ H) := by
 cases xs with
 | nil => (replace h1 := sI h1; subst h1); exact Ru (KP.here (a := ([] : List V)) C.wf Tv hw)
 | cons x xs =>
  (refine bE h1 ?_; clear h1; intro a g1 h1)
  (refine bE h1 ?_; clear h1; intro as g2 h1)
  (replace h1 := sI h1; subst h1)
  refine Zg (Zal h0) fun s1 s2 => ?_
  refine Kg (J.mono (S.e _ _ _ _ g1 _ _ _ _ _ _ _ _ _ C hw) ?_) (Zak s1)
  refine KP.all fun ρ1 H1 va l1 x1 W1 v1 q => ?_
  refine J.mono (S.a _ _ _ _ g2 s2 _ _ _ _ _ _ _ _ _ _ (C.next l1 x1 W1) q) ?_
  refine KL.all fun ρ2 H2 vs l2 x2 W2 v2 q => ?_
  refine ⟨ρ2, H2, va :: vs, Nat.le_trans l1 l2, x1.trans x2 l1, W2, fun u hu => (List.mem_cons.mp hu).elim (fun e => e ▸ v1.le l2) (v2 u), ?_, rfl, q⟩
  show cv ρ1 va :: vs.map (cv ρ2) = cv ρ2 va :: vs.map (cv ρ2)
  rw [Ys x2 v1]
theorem Zkj {α β : Type} {f : α -> Option β} : ∀ {xs : List α} {es : List β}, Zq f xs = some es -> xs.length = es.length
 | [], es, h => by (replace h := sI h; subst h); rfl
 | x :: xs, es, h => by
  (refine bE h ?_; clear h; intro a g1 h)
  (refine bE h ?_; clear h; intro as g2 h)
  (replace h := sI h; subst h)
  rw [List.length_cons, List.length_cons, Zkj g2]
theorem Ji (O : B.Ok) {f : Str} {xs : List Expr} {q : Pos} {ψ σ : St} {fv : Value} {Q : Value -> St -> Prop} (F : FnEnv env) (g : Ky f fv) (hk : Op fv) (he : er fv = fv) (hd : (f == ("__debug__" : Str)) = false) (hg : env.kindOf f = some .globalImplicit) (h0 : Wm xs = true)
  (h : J B A ψ Yj (spliced (backTo p (starEach xs env))) (fun vs σ₂ => Zv B A ψ fv [] vs Q E σ₂) E σ) : JE B A env ψ (.Call (.Name f q) xs [] p) Q E σ :=
 Zrb O (Rt O F g ⟨hk, he, h⟩ hg hd) rfl (Zcv h0)
theorem Ycr (O : B.Ok) {f : Str} {xs : List Expr} {es : List Ab.E} {q : Pos} {a : Nat} (S : Snd B w n c) (C : Ctx sc A env χ ml ρ m H n c) (hd : (f == ("__debug__" : Str)) = false) (hg : sc.lookup f = some .globalImplicit) (hf : Wl f GTf = some a) (h0 : Wm xs = true) (h1 : Zq (Zf k sc) xs = some es) (hw : Yu T c w (.call a es) Q m H) :
  JE B A env (fr env.locals ml χ) (.Call (.Name f q) xs [] p) (KV ρ H.nx Q) E (Za ρ H) := by
 refine Ji O C.ok.F (Tz Zan hf) (Rb Zap hf) rfl hd (C.ok.glo f hg) h0 (J.mono (S.a _ _ _ _ h1 h0 _ _ _ _ _ _ _ _ _ _ C hw) ?_)
 refine KL.all fun ρ1 H1 va l1 x1 W1 v1 q => ?_
 intro us hus
 exact J.up (J.lift (wC.wA (S.c _ _ _ _ _ _ _ _ W1 v1 C.room C.calm q hus))) l1 x1
theorem Ycs (O : B.Ok) {f : Str} {xs : List Expr} {es : List Ab.E} {q : Pos} {a : Nat} (S : Snd B w n c) (C : Ctx sc A env χ ml ρ m H n c) (hd : (f == ("__debug__" : Str)) = false) (hg : sc.lookup f = some .globalImplicit) (hf : Wl f GTb = some a) (h0 : Wm xs = true) (h1 : Zq (Zf k sc) xs = some es) (hw : Yu T c w (.bi a es) Q m H) :
  JE B A env (fr env.locals ml χ) (.Call (.Name f q) xs [] p) (KV ρ H.nx Q) E (Za ρ H) := by
 refine Ji O C.ok.F (Zao hf) (Zcy a) (Zcz a) hd (C.ok.glo f hg) h0 (J.mono (S.a _ _ _ _ h1 h0 _ _ _ _ _ _ _ _ _ _ C hw) ?_)
 refine KL.all fun ρ1 H1 va l1 x1 W1 v1 q => ?_
 exact Zdb (Yam O ⟨env.locals, ml, Wo⟩ C.calm W1 q) fun _ _ z => z.up l1 x1
theorem Yct (O : B.Ok) {f t : Str} {q q' : Pos} {a : Ab.E} (S : Snd B w n c) (C : Ctx sc A env χ ml ρ m H n c) (hd : (f == ("__debug__" : Str)) = false) (hg : sc.lookup f = some .globalImplicit) (hf : Wl f GTb = some 11) (ht : t = ("str" : Str)) (hg' : sc.lookup t = some .globalImplicit) (h0 : Km x = false) (h1 : Zf k sc x = some a) (hw : Yu T c w (.isi a) Q m H) :
  JE B A env (fr env.locals ml χ) (.Call (.Name f q) [x, .Name t q'] [] p) (KV ρ H.nx Q) E (Za ρ H) := by
 have hns : Wm [x, .Name t q'] = true := by
  show (!Km x && true) = true
  rw [h0]; rfl
 refine Ji O C.ok.F (Zao hf) (Zcy 11) (Zcz 11) hd (C.ok.glo f hg) hns (Kg (J.mono (S.e _ _ _ _ h1 _ _ _ _ _ _ _ _ _ C hw) ?_) (Zak h0))
 refine KP.all fun ρ1 H1 va l1 x1 W1 v1 z => ?_
 (refine sE z ?_; clear z; rintro s rfl z)
 subst ht
 exact Kg (Rt O C.ok.F (Zao (b := 10) (by kernel_rfl)) (Ru (Zsn ((W1.here (v := .bool true) trivial z).up l1 x1))) (C.ok.glo _ hg') (by kernel_rfl)) rfl
theorem Ycu (O : B.Ok) {f : Str} {xs : List Expr} {es : List Ab.E} {q : Pos} {a : Nat} (S : Snd B w n c) (C : Ctx sc A env χ ml ρ m H (n + 1) c) (hd : (f == ("__debug__" : Str)) = false) (hg : sc.lookup f = some .globalImplicit) (hf : Wl f GTc = some a) (h0 : Wm xs = true) (h1 : Zq (Zf k sc) xs = some es) (hw : Yu T c w (.make a es) Q m H) :
  JE B A env (fr env.locals ml χ) (.Call (.Name f q) xs [] p) (KV ρ H.nx Q) E (Za ρ H) := by
 refine Ji O C.ok.F (Tz Ybd hf) (Rb Ybm hf) rfl hd (C.ok.glo f hg) h0 (J.mono (S.a _ _ _ _ h1 h0 _ _ _ _ _ _ _ _ _ _ C.dec hw) ?_)
 refine KL.all fun ρ1 H1 va l1 x1 W1 v1 z => ?_
 (refine oE z ?_; clear z; intro fi g1 z)
 intro us hus
 have ho : (Ab.O.inst a []).lt H1.nx := fun p hp => absurd hp (by simp)
 refine J.lift (wC.wA (Zsh O (Ybn g1) C.room fun b hb => ?_))
 have W2 := W1.new ho hb
 have := S.c fi (.ref H1.nx :: va) (A.under (.builtin "type.__call__" ⟨.ref a :: ([] ++ us), []⟩)) (Jg ρ1 H1.nx b) (H1.new (.inst a [])) (fun v H' => Tg v (Q (.ref H1.nx) H')) (.ref b :: ([] ++ us)) E W2
  (fun u hu => (List.mem_cons.mp hu).elim (fun e => e ▸ Nat.lt_succ_self _) fun hu => (v1 u hu).le (Nat.le_succ _)) C.room.made C.calm z (by
   show er (.ref b) :: us.map er = cv _ (.ref H1.nx) :: va.map (cv _)
   rw [show us.map er = va.map (cv ρ1) from hus, <- Hi (Gv (a := b)) v1]
   show Value.ref b :: _ = Value.ref (Jg ρ1 H1.nx b H1.nx) :: _
   rw [bump_at])
 rw [W1.st_new ho] at this
 refine Zfo this ?_
 rintro v τ ⟨ρ3, H3, u, l3, x3, W3, u3, rfl, rfl, z⟩
 (refine Zg (Zbu z) ?_; clear z; rintro rfl z)
 refine Yi _ (Sub.wk fun _ _ h => h) rfl ?_
 have hl : H1.nx <= H3.nx := Nat.le_trans (Nat.le_succ _) l3
 have : KV ρ1 H1.nx Q (.ref b) (Za ρ3 H3) := ⟨ρ3, H3, .ref H1.nx, hl, (Gv (a := b)).trans x3 (Nat.le_succ _), W3, Nat.lt_of_lt_of_le (Nat.lt_succ_self _) l3, by
  show Value.ref b = Value.ref (ρ3 H1.nx)
  rw [x3 H1.nx (Nat.lt_succ_self _), bump_at], rfl, z⟩
 exact this.up l1 x1
end Mine.Ab
end
noncomputable section
namespace Mine.Ab
variable {B : Bgd} {A : Around} {E : Value -> Shared -> Prop} {env : Env} {χ : St} {ml : Zc} {ρ ρ' : Nat -> Addr} {m : Fm} {H H' : Hp} {sc : Sc} {n : Nat} {c : Bool} {w : Sys} {k : Nat}
variable {l r x y t b o : Expr} {p : Pos} {e : Ab.E} {Q : V -> Hp -> Prop} {Qb : Bool -> Hp -> Prop}
theorem nms : nm 5 = ("append" : Str) /\ nm 161 = ("pop" : Str) /\ nm 48 = ("insert" : Str) /\ nm 125 = ("remove" : Str) /\ nm 86 = ("get" : Str) /\ nm 79 = ("join" : Str) /\ nm 166 = ("isalnum" : Str) /\ nm 165 = ("split" : Str) /\
  nm 175 = ("isalpha" : Str) /\ nm 173 = ("islower" : Str) /\ nm 174 = ("isupper" : Str) /\ nm 171 = ("upper" : Str) /\ nm 177 = ("lower" : Str) := by
 refine ⟨?_, ?_, ?_, ?_, ?_, ?_, ?_, ?_, ?_, ?_, ?_, ?_, ?_⟩ <;> kernel_rfl
theorem Vb {i b : Nat} (h : T.bm i = some b) (hb : Nat.ble b 3 = true) : Slot "list" (nm i) (Hj b) /\ typeOf (.builtin (Hj b)) = pure (.type "method_descriptor") := by
 obtain ⟨n1, n2, n3, n4, n5, n6, n7, n8, n9, n10, n11, n12, n13⟩ := nms
 have := Ue (show Ze i Hg = some b from h)
 simp only [Hg, List.mem_cons, Prod.mk.injEq, List.not_mem_nil, or_false] at this
 rcases this with ⟨rfl, rfl⟩ | ⟨rfl, rfl⟩ | ⟨rfl, rfl⟩ | ⟨rfl, rfl⟩ | ⟨rfl, rfl⟩ | ⟨rfl, rfl⟩ | ⟨rfl, rfl⟩ | ⟨rfl, rfl⟩ | ⟨rfl, rfl⟩ | ⟨rfl, rfl⟩ | ⟨rfl, rfl⟩ | ⟨rfl, rfl⟩ | ⟨rfl, rfl⟩
 · rw [n1]; exact ⟨PySem.F.slot_list_append, rfl⟩
 · rw [n2]; exact ⟨PySem.F.slot_list_pop, rfl⟩
 · rw [n3]; exact ⟨PySem.F.slot_list_insert, rfl⟩
 · rw [n4]; exact ⟨PySem.F.slot_list_remove, rfl⟩
 all_goals exact Yb hb
theorem Zas {i b : Nat} (h : T.bm i = some b) (hb : Nat.beq b 4 = true) : Slot "dict" (nm i) "dict.get" /\ typeOf (.builtin "dict.get") = pure (.type "method_descriptor") := by
 obtain ⟨n1, n2, n3, n4, n5, n6, n7, n8, n9, n10, n11, n12, n13⟩ := nms
 have := Ue (show Ze i Hg = some b from h)
 rw [Wn hb] at this
 have : i = 86 := (show ∀ p ∈ Hg, p.2 = 4 -> p.1 = 86 by decide +kernel) _ this rfl
 rw [this, n5]; exact ⟨PySem.F.slot_dict_get, rfl⟩
theorem Zkk {i b : Nat} (h : T.bm i = some b) (hb : Nat.ble 5 b = true) : Slot "str" (nm i) (smV b) /\ typeOf (.builtin (smV b)) = pure (.type "method_descriptor") := by
 obtain ⟨n1, n2, n3, n4, n5, n6, n7, n8, n9, n10, n11, n12, n13⟩ := nms
 have := Ue (show Ze i Hg = some b from h)
 simp only [Hg, List.mem_cons, Prod.mk.injEq, List.not_mem_nil, or_false] at this
 rcases this with ⟨rfl, rfl⟩ | ⟨rfl, rfl⟩ | ⟨rfl, rfl⟩ | ⟨rfl, rfl⟩ | ⟨rfl, rfl⟩ | ⟨rfl, rfl⟩ | ⟨rfl, rfl⟩ | ⟨rfl, rfl⟩ | ⟨rfl, rfl⟩ | ⟨rfl, rfl⟩ | ⟨rfl, rfl⟩ | ⟨rfl, rfl⟩ | ⟨rfl, rfl⟩
 · exact Yb hb
 · exact Yb hb
 · exact Yb hb
 · exact Yb hb
 · exact Yb hb
 · rw [n6]; exact ⟨PySem.F.slot_str_join, rfl⟩
 · rw [n7]; exact ⟨PySem.F.slot_str_isalnum, rfl⟩
 · rw [n8]; exact ⟨PySem.F.slot_str_split, rfl⟩
 · rw [n9]; exact ⟨PySem.F.slot_str_isalpha, rfl⟩
 · rw [n10]; exact ⟨PySem.F.slot_str_islower, rfl⟩
 · rw [n11]; exact ⟨PySem.F.slot_str_isupper, rfl⟩
 · rw [n12]; exact ⟨PySem.F.slot_str_upper, rfl⟩
 · rw [n13]; exact ⟨PySem.F.slot_str_lower, rfl⟩
theorem Zdc {first : List Value} {a : Addr} (h : Yj first = [.ref a]) : first = [.ref a] := Zrx h fun u hu => Yc hu
theorem Zdd {xs : List Expr} {es : List Ab.E} {id : String} {v : V} {F : List V -> Hp -> Prop} (S : Snd B w n c) (C : Ctx sc A env χ ml ρ m H n c) (h0 : Wm xs = true) (h1 : Zq (Zf k sc) xs = some es) (hw : w.a es F m H)
  (hv : v.lt H.nx) (hc : ∀ first, Yj first = [cv ρ v] -> ∀ (ρ1 : Nat -> Addr) (H1 : Hp) (vs : List V), Ext H.nx ρ ρ1 -> Wf ρ1 H1 -> Yt H1.nx vs -> F vs H1 -> Zv B A (fr env.locals ml χ) (.builtin id) first (vs.map (cv ρ1)) (KV ρ1 H1.nx Q) E (Za ρ1 H1)) :
  Op (.builtin id) /\ er (.builtin id) = .builtin id /\ ∀ first, Yj first = [cv ρ v] -> J B A (fr env.locals ml χ) Yj (spliced (backTo p (starEach xs env))) (fun vs σ₃ => Zv B A (fr env.locals ml χ) (.builtin id) first vs (KV ρ H.nx Q) E σ₃) E (Za ρ H) := by
 refine ⟨.inl ⟨_, rfl⟩, rfl, fun first hf => J.mono (S.a _ _ _ _ h1 h0 _ _ _ _ _ _ _ _ _ _ C hw) ?_⟩
 refine KL.all fun ρ1 H1 va l1 x1 W1 v1 q => ?_
 exact Zdb (hc first hf ρ1 H1 va x1 W1 v1 q) fun _ _ z => z.up l1 x1
theorem Ycv (O : B.Ok) {f : Str} {ap : Pos} {xs : List Expr} {es : List Ab.E} {a : Ab.E} {i : Nat} (S : Snd B w n c) (C : Ctx sc A env χ ml ρ m H n c) (hc0 : To o = false) (hl : (ap.endLine == p.line) = true) (hx : xs.length <= 20) (g1 : Zf k sc o = some a) (g2 : Zw f = some i) (h0 : Wm xs = true) (h1 : Zq (Zf k sc) xs = some es)
  (hw : Yu T c w (.meth a i es) Q m H) : JE B A env (fr env.locals ml χ) (.Call (.Attribute o f ap) xs [] p) (KV ρ H.nx Q) E (Za ρ H) := by
 refine Zrc O (J.mono (S.e _ _ _ _ g1 _ _ _ _ _ _ _ _ _ C hw) ?_) (Zjv hc0) hl (Yav h0 hx) (Zcv h0)
 refine KP.all fun ρ1 H1 va l1 x1 W1 v1 q => ?_
 intro u hu pl
 have C1 := C.next l1 x1 W1
 rw [<- Hh g2]
 have up : ∀ {f : Value} {first : List Value}, (Op f /\ er f = f /\ ∀ fst, Yj fst = first -> J B A (fr env.locals ml χ) Yj (spliced (backTo p (starEach xs env))) (fun vs σ₃ => Zv B A (fr env.locals ml χ) f fst vs (KV ρ1 H1.nx Q) E σ₃) E (Za ρ1 H1)) ->
   (Op f /\ er f = f /\ ∀ fst, Yj fst = first -> J B A (fr env.locals ml χ) Yj (spliced (backTo p (starEach xs env))) (fun vs σ₃ => Zv B A (fr env.locals ml χ) f fst vs (KV ρ H.nx Q) E σ₃) E (Za ρ1 H1)) := fun ⟨h1, h2, h3⟩ => ⟨h1, h2, fun fst hf => J.mono (h3 fst hf) fun vs σ hq => Zdb hq fun _ _ z => z.up l1 x1⟩
 cases va with
 | ref j =>
  (refine kE q ?_; clear q; intro ob t1 q)
  have hu' := Yc hu
  subst hu'
  have lst : ∀ {b : Nat}, T.bm i = some b -> Nat.ble b 3 = true -> (w.a es (fun vs H => lmS b j vs Q H) m H1) -> (Op (.builtin (Hj b)) /\ er (.builtin (Hj b)) = .builtin (Hj b) /\ ∀ fst, Yj fst = [.ref (ρ1 j)] -> J B A (fr env.locals ml χ) Yj (spliced (backTo p (starEach xs env))) (fun vs σ₃ => Zv B A (fr env.locals ml χ) (.builtin (Hj b)) fst vs (KV ρ H.nx Q) E σ₃) E (Za ρ1 H1)) := fun hb1 hb2 q =>
   up (Zdd (v := .ref j) S C1 h0 h1 q v1 fun fst hf ρ2 H2 vs x2 W2 v2 q => by
    rw [Zdc hf, <- x2 j v1]
    exact Yap W2 v2 q)
  have dct : ∀ {b : Nat}, T.bm i = some b -> Nat.beq b 4 = true -> (w.a es (fun vs H => dmS b j vs Q H) m H1) -> (Op (.builtin "dict.get") /\ er (.builtin "dict.get") = .builtin "dict.get" /\ ∀ fst, Yj fst = [.ref (ρ1 j)] -> J B A (fr env.locals ml χ) Yj (spliced (backTo p (starEach xs env))) (fun vs σ₃ => Zv B A (fr env.locals ml χ) (.builtin "dict.get") fst vs (KV ρ H.nx Q) E σ₃) E (Za ρ1 H1)) := fun hb1 hb2 q =>
   up (Zdd (v := .ref j) S C1 h0 h1 q v1 fun fst hf ρ2 H2 vs x2 W2 v2 q => by
    rw [Zdc hf, <- x2 j v1]
    exact Yaq O W2 v2 q)
  cases ob with
  | inst cl fs =>
   have q : (match Ze i fs with | .none => Xe (T.mt cl i) _ | some _ => False) := q
   cases z : Ze i fs with
   | some u => rw [z] at q; exact False.elim q
   | none =>
    rw [z] at q
    (refine oE q ?_; clear q; intro g t2 q)
    refine J.lift (Zrd O (W1.look t1) (by rw [Zaq, z]; rfl) (Zkc t2) ⟨.inr (.inr fun P => (Zkc t2 P).2.2), rfl, fun first hf => ?_⟩)
    rw [Zdc hf]
    refine J.mono (S.a _ _ _ _ h1 h0 _ _ _ _ _ _ _ _ _ _ C1 q) ?_
    refine KL.all fun ρ2 H2 vs l2 x2 W2 v2 q => ?_
    intro us hus
    refine J.up (J.up (J.lift (wC.wA (S.c _ _ _ _ _ _ _ _ W2 (fun u hu => (List.mem_cons.mp hu).elim (fun e => e ▸ V.lt.le v1 l2) (v2 u)) C.room C.calm q ?_))) l2 x2) l1 x1
    show Value.ref (ρ1 j) :: us.map er = cv ρ2 (.ref j) :: vs.map (cv ρ2)
    rw [Ys x2 v1, show us.map er = vs.map (cv ρ2) from hus]; rfl
  | dct es' =>
   (refine oE q ?_; clear q; intro b t2 q)
   obtain ⟨t3, q⟩ := Uf q
   exact Zhm (Zas t2 t3).1 (Zas t2 t3).2 (W1.look t1) rfl (dct t2 t3 q)
  | pdct es' =>
   (refine oE q ?_; clear q; intro b t2 q)
   obtain ⟨t3, q⟩ := Uf q
   exact Zhm (Zas t2 t3).1 (Zas t2 t3).2 (W1.look t1) rfl (dct t2 t3 q)
  | il l' =>
   (refine oE q ?_; clear q; intro b t2 q)
   obtain ⟨t3, q⟩ := Uf q
   exact Zgi (Vb t2 t3).1 (Vb t2 t3).2 (Uz W1 t1) (lst t2 t3 q)
  | lst l' =>
   (refine oE q ?_; clear q; intro b t2 q)
   obtain ⟨t3, q⟩ := Uf q
   exact Zgi (Vb t2 t3).1 (Vb t2 t3).2 (Tu W1 t1) (lst t2 t3 q)
  | plst n' l' =>
   (refine oE q ?_; clear q; intro b t2 q)
   obtain ⟨t3, q⟩ := Uf q
   exact Zsr (Vb t2 t3).1 (Vb t2 t3).2 (W1.look t1) (lst t2 t3 q)
  | _ => exact False.elim q
 | str s =>
  (refine oE q ?_; clear q; intro b t2 q)
  obtain ⟨t3, q⟩ := Uf q
  refine Zuh (Zkk t2 t3).1 (Zkk t2 t3).2 (up (Zdd (v := .str s) S C1 h0 h1 q trivial fun fst hf ρ2 H2 vs x2 W2 v2 q => ?_)) u hu
  (refine Zb (Xl hf) ?_; rintro u' rfl hu')
  obtain ⟨tk, rfl⟩ := Zbl hu'
  exact Yan W2 q
 | _ => exact False.elim q
end Mine.Ab
end
noncomputable section
namespace Mine.Ab
variable {B : Bgd} {A : Around} {E : Value -> Shared -> Prop} {env : Env} {χ : St} {ml : Zc} {ρ ρ' : Nat -> Addr} {m : Fm} {H H' : Hp} {sc : Sc} {n : Nat} {c : Bool} {w : Sys} {k : Nat}
variable {l r x y t b o it : Expr} {p : Pos} {e : Ab.E} {Q : V -> Hp -> Prop} {Qb : Bool -> Hp -> Prop}
theorem IterV.congr {v : Value} {σ : St} {n : Nat} {X X' : Nat -> Value} {src : St -> Prop} (h : IterV B A v σ n X src) (e : ∀ i, i < n -> X i = X' i) : IterV B A v σ n X' src :=
 ⟨h.mono, fun u hu τ s q r R E k => h.iter u hu τ s q r R E fun o Ob ho hf it => k o Ob ho hf ⟨it.cls, fun i o τ s Q E hi ho hs r hg k => it.item i o τ s Q E hi ho hs r hg (fun v o' h' tk hv => k v o' h' tk (hv.trans (e i hi))), it.done, it.self⟩⟩
inductive ItI (sc : Sc) (f : Expr -> Option Ab.E) : Expr -> Bool -> Ab.E -> Prop
 | pl {it i} (h : f it = some i) : ItI sc f it false i
 | rg {g q es p as} (h1 : (g == ("__debug__" : Str)) = false) (h2 : sc.lookup g = some .globalImplicit) (h3 : Wl g GTb = some 2) (h4 : Wm es = true) (h5 : Zq f es = some as) : ItI sc f (.Call (.Name g q) es [] p) true (.list as)
theorem Ycw {f : Expr -> Option Ab.E} {rg : Bool} {i : Ab.E} (h : He sc f it = some (rg, i)) : ItI sc f it rg i := by
 have plain : ∀ {x : Expr}, (bO (f x) fun i => some (false, i)) = some (rg, i) -> ItI sc f x rg i := fun h => by
  refine bE h fun j h1 h2 => ?_
  (replace h2 := sI h2; injection h2 with z1 z2; subst z1; subst z2); exact .pl h1
 cases it with
 | Call g es ks p =>
  cases g with
  | Name g q =>
   unfold He at h
   dsimp only at h
   cases z : Wl g GTb with
   | none => rw [z] at h; exact plain h
   | some b =>
    rw [z] at h
    dsimp only at h
    cases z2 : Nat.beq b 2 with
    | false => rw [z2] at h; exact plain h
    | true =>
     rw [z2] at h
     (refine gE h ?_; clear h; intro h1 h)
     (refine bE h ?_; clear h; intro as h2 h)
     (replace h := sI h; injection h with z1 z2; subst z1; subst z2)
     simp only [Bool.and_eq_true] at h1
     rw [Wn z2] at z
     rw [Og h1.1.2]
     exact .rg (by simpa using h1.1.1.1) (Ux h1.1.1.2) z h1.2 h2
  | _ => exact plain h
 | _ => exact plain h
theorem Zkl {xs : List V} {i : Nat} : (xs.map (cv ρ)).getD i .none = cv ρ (xs.getD i .none) := by
 rw [List.getD_eq_getElem?_getD, List.getD_eq_getElem?_getD, List.getElem?_map]
 cases xs[i]? <;> rfl
inductive Its (B : Bgd) (A : Around) (ρ : Nat -> Addr) (H : Hp) (K : (Hp -> Prop) -> List V -> Hp -> Prop) (v : Value) (σ₁ : St) : Prop
 | mk (ρ1 : Nat -> Addr) (H1 : Hp) (chk : Hp -> Prop) (xs : List V) (le : H.nx <= H1.nx) (ext : Ext H.nx ρ ρ1) (wf : Wf ρ1 H1) (lt : Yt H1.nx xs) (q : K chk xs H1) (hz : xs.length <= sizeLine) (hs : Sub (Za ρ1 H1) σ₁)
   (src : St -> Prop) (iv : IterV B A v σ₁ xs.length (fun j => cv ρ1 (xs.getD j .none)) src) (hsrc : ∀ ρ' H' σ', Ext H1.nx ρ1 ρ' -> Wf ρ' H' -> chk H' -> Sub (Za ρ' H') σ' -> src σ') : Its B A ρ H K v σ₁
theorem Zkm {j : Nat} {o : Ab.O} {xs : List V} {K : (Hp -> Prop) -> List V -> Hp -> Prop} (hh : A.handled = none) (W : Wf ρ H) (l1 : H.look j = some o) (ho : Zy ρ o = .lst (xs.map (cv ρ))) (hx : Yt H.nx xs) (hj : j < H.nx) (hz : xs.length <= sizeLine)
  (q : K (fun H' => H'.look j = some o) xs H) : Its B A ρ H K (.ref (ρ j)) (Za ρ H) := by
 have hl : isLst (Za ρ H) (ρ j) (xs.map (cv ρ)) := .inl (by rw [W.look l1, ho])
 refine ⟨ρ, H, _, xs, Nat.le_refl _, Ext.rfl, W, hx, q, hz, fun _ _ h => h, fun τ => isLst τ (ρ j) (xs.map (cv ρ)), (by have := Zvg (B := B) hh hl; rw [List.length_map] at this; exact IterV.congr this fun i hi => Zkl), fun ρ' H' σ' x W' hc hs => .inl (hs _ _ ?_)⟩
 have := W'.look hc
 rw [x j hj, Tt x (W.olt l1), ho] at this
 exact this
theorem Zde (O : B.Ok) {rg : Bool} {i : Ab.E} {K : (Hp -> Prop) -> List V -> Hp -> Prop} (S : Snd B w n c) (C : Ctx sc A env χ ml ρ m H n c) (h : He sc (Zf k sc) it = some (rg, i)) (hw : Hc c w rg i K m H) : JE B A env (fr env.locals ml χ) it (Its B A ρ H K) E (Za ρ H) := by
 rcases Ycw h with ⟨h'⟩ | @⟨g, q, es, p, as, hd, hg, hb, hs, ha⟩
 · refine J.mono (S.e _ _ _ _ h' _ _ _ _ _ _ _ _ _ C hw) ?_
   refine KP.all fun ρ1 H1 va l1 x1 W1 v1 q => ?_
   have up : Its B A ρ1 H1 K (cv ρ1 va) (Za ρ1 H1) -> Its B A ρ H K (cv ρ1 va) (Za ρ1 H1) := fun ⟨ρ2, H2, chk, xs, l2, x2, r1, r2, r3, r4, r5, r6, r7, r8⟩ => ⟨ρ2, H2, chk, xs, Nat.le_trans l1 l2, x1.trans x2 l1, r1, r2, r3, r4, r5, r6, r7, r8⟩
   cases va with
   | ref j =>
     (refine Zg (Uf q) ?_; clear q; intro h0 q)
     (refine kE q ?_; clear q; intro ob t1 q)
     cases ob with
     | il l =>
       (refine Yo q ?_; clear q; intro z q)
       exact up (Zkm (C.calm h0) W1 t1 (by rw [Zjh]; rfl) (fun v hv => by (refine Zb (List.mem_map.mp hv) ?_; rintro a _ rfl); trivial) v1 (by rw [List.length_map]; exact Wr z) q)
     | lst xs =>
       (refine Yo q ?_; clear q; intro z q)
       exact up (Zkm (C.calm h0) W1 t1 rfl (W1.olt t1) v1 (Wr z) q)
     | tup xs =>
       (refine Yo q ?_; clear q; intro z q)
       refine up ⟨ρ1, H1, _, xs, Nat.le_refl _, Ext.rfl, W1, W1.olt t1, q, Wr z, fun _ _ h => h, _, (by have := Zvi (B := B) (C.calm h0) (W1.look t1); rw [List.length_map] at this; exact IterV.congr this fun i hi => Zkl), fun ρ' H' σ' x W' hc hs => hs _ _ ?_⟩
       have := W'.look hc
       rw [x j v1, Tt x (W1.olt t1)] at this
       exact this
     | _ => exact False.elim q
   | str l =>
     (refine Yo q ?_; clear q; intro z q)
     refine up ⟨ρ1, H1, _, _, Nat.le_refl _, Ext.rfl, W1, fun v hv => by (refine Zb (List.mem_map.mp hv) ?_; rintro a _ rfl); trivial, q, by rw [List.length_map]; exact Wr z, fun _ _ h => h, fun _ => True, ?_, fun _ _ _ _ _ _ _ => trivial⟩
     have := Zvq (B := B) (A := A) (σ := Za ρ1 H1) (x := ⟨l.toArray⟩)
     rw [show (Str.mk l.toArray).cps.size = (l.map fun c => V.str [c]).length by simp] at this
     refine IterV.congr this fun i hi => ?_
     have hi : i < l.length := by simpa using hi
     simp [List.getD, hi, cv]
   | _ => exact False.elim q
 · (refine Zg (Uf hw) ?_; clear hw; intro h0 hw)
   refine Ji O C.ok.F (Zao hb) (Zcy 2) (Zcz 2) hd (C.ok.glo g hg) hs (J.mono (S.a _ _ _ _ ha hs _ _ _ _ _ _ _ _ _ _ C hw) ?_)
   refine KL.all fun ρ1 H1 va l1 x1 W1 v1 q => ?_
   have fin : ∀ (x y : Int) (a : Addr) (t u v : Tok), Za ρ1 H1 a = none -> K (fun _ => True) (Xw x y) H1 -> -1000000 <= x -> x <= 1000000 -> -1000000 <= y -> y <= 1000000 -> Its B A ρ H K (.ref a) (upd (Za ρ1 H1) a (.raw (Gr x y t u v))) := fun x y a t u v hn q z1 z2 z3 z4 => by
     have hlen : (Xw x y).length = (y - x).toNat := by unfold Xw; simp
     refine ⟨ρ1, H1, _, _, l1, x1, W1, fun v hv => by (refine Zb (List.mem_map.mp hv) ?_; rintro a _ rfl); trivial, q, by rw [hlen, sizeLine_eq]; omega, Sub.upd_new hn, fun _ => True, ?_, fun _ _ _ _ _ _ _ => trivial⟩
     rw [hlen]
     refine IterV.congr (Zvk (B := B) (C.calm h0) (Yz ..) (by exact nc fun zz => L2 N0 (V1 _) 1 (.k (-1000000)) vA z1 1 (.a vA kI) (.k (-4611686018427387904)) zz kI kZ rfl) (by exact il (nc fun zz => L2 N0 (V1 _) 1 vA (.k 1000000) z2 1 (.a (.k 4611686018427387904) kI) (.a vA kI) zz kI kZ rfl)) (by exact nc fun zz => L2 N0 (V1 _) 1 (.k (-1000000)) vA z3 1 (.a vA kI) (.k (-4611686018427387904)) zz kI kZ rfl) (by exact il (nc fun zz => L2 N0 (V1 _) 1 vA (.k 1000000) z4 1 (.a (.k 4611686018427387904) kI) (.a vA kI) zz kI kZ rfl))) fun i hi => ?_
     unfold Xw
     simp [List.getD, hi, cv]
   cases va with
   | nil => exact False.elim q
   | cons a va =>
     (refine iE q ?_; clear q; rintro a rfl q)
     cases va with
     | nil =>
       (refine Yo q ?_; clear q; intro z q)
       refine Zg (of_decide_eq_true z) fun z1 z2 => ?_
       exact Zwr fun b t u v hn => fin 0 a b t u v hn q (by exact Int.natCast_nonneg _) (by exact Int.natCast_nonneg _) z1 z2
     | cons b va =>
       (refine Zg (Xu q) ?_; clear q; rintro rfl q)
       (refine iE q ?_; clear q; rintro b rfl q)
       (refine Yo q ?_; clear q; intro z q)
       refine Xs (of_decide_eq_true z) fun z1 z2 z3 z4 => ?_
       exact Zws fun d t u v hn => fin a b d t u v hn q z1 z2 z3 z4
end Mine.Ab
end
noncomputable section
namespace Mine.Ab
variable {B : Bgd} {A : Around} {E : Value -> Shared -> Prop} {env : Env} {χ : St} {ml : Zc} {ρ ρ' : Nat -> Addr} {m : Fm} {H H' : Hp} {sc : Sc} {n : Nat} {c : Bool} {w : Sys} {k : Nat}
variable {l r x y t b o it : Expr} {p : Pos} {e : Ab.E} {Q : V -> Hp -> Prop} {Qb : Bool -> Hp -> Prop}
theorem Vd {x : Str} {ns : Sc} : ∀ {l : Sc}, Qv sc x ns l = true -> ∀ y k, (y, k) ∈ l -> (k = .local -> ns.lookup y = some .local /\ (y = x \/ Zw y = none)) /\ (k = .free -> sc.lookup y = some .cell \/ sc.lookup y = some .free) /\ k ≠ .cell
 | [], _, y, k, h => absurd h (by simp)
 | (z, j) :: r, h, y, k, hm => by
   refine aE h fun h1 h2 => ?_
   rcases List.mem_cons.mp hm with e | e
   · cases e
     cases j with
     | «local» =>
       refine aE h1 fun g1 g2 => ?_
       refine Xx (fun _ => ⟨Ux g1, ?_⟩) (fun e => (nomatch e)) (fun e => nomatch e)
       rcases Bool.or_eq_true_iff.mp g2 with g | g
       · exact .inl (eq_of_beq g)
       · right
         cases q : Zw z with
         | none => rfl
         | some i => rw [q] at g; cases g
     | free => exact Xx (fun e => (nomatch e)) (fun _ => (Bool.or_eq_true_iff.mp h1).imp Ux Ux) (fun e => nomatch e)
     | cell => exact Yb h1
     | _ => exact Xx (fun e => (nomatch e)) (fun e => (nomatch e)) (fun e => nomatch e)
   · exact Vd h2 y k e
theorem Ve {x y : Str} {i : Nat} (h : Zw x = some i) (h' : Zw y = some i) : x = y := (Hh h).symm.trans (Hh h')
theorem Ycx {x : Str} {s : Scope} {D : Addr} (ok : EnvOk sc env) (hk : s.kind = .function) (hs : Qv sc x s.names s.names = true) : EnvOk s.names (compEnvC s (Uw env.cells s.names []) D env) := by
 have inv := Vd hs
 have kd : ∀ y k, s.names.lookup y = some k -> (compEnvC s (Uw env.cells s.names []) D env).kindOf y = some (if k = .free /\ env.kindOf y = some .cell then .cell else k) := fun y k h => Zid ok.F.kind h
 refine ⟨⟨hk, ok.F.globals, ok.F.builtins⟩, fun y h => ?_, fun y h => ?_, fun y h => ?_⟩
 · rw [kd y _ h, if_neg (fun z => nomatch z.1)]
 · have hf : s.names.lookup y = some .free := h.elim (fun h => absurd rfl ((inv y _ (mem_of_lookup h)).2.2)) fun h => h
   have hc := (inv y _ (mem_of_lookup hf)).2.1 rfl
   refine Zg (ok.cel y hc) fun g1 g2 => ?_
   refine ⟨by rw [kd y _ hf, if_pos ⟨rfl, g1⟩], ?_⟩
   refine Xg (Option.isSome_iff_exists.mp g2) fun a ha => ?_
   show ((Uw env.cells s.names []).lookup y).isSome = true
   rw [Sv ha s.names [] (.inr ⟨rfl, mem_of_lookup hf⟩)]; rfl
 · rw [kd y _ h, if_neg (fun z => nomatch z.1)]
theorem Ycy {x : Str} {xi : Nat} {s : Scope} {D : Addr} {v : V} (ok : EnvOk sc env) (fm : FmR sc env χ ml ρ m) (hx : s.names.lookup x = some .local) (hi : Zw x = some xi) (hs : Qv sc x s.names s.names = true) (hD : ∀ b o, fr env.locals ml χ b = some o -> b ≠ D) :
   FmR s.names (compEnvC s (Uw env.cells s.names []) D env) (fr env.locals ml χ) [(x, cv ρ v)] ρ ((xi, v) :: m) := by
 have inv := Vd hs
 refine ⟨fun y i u h1 h2 h3 => ?_, fun y i u h1 h2 h3 => ?_⟩
 · rcases ((inv y _ (mem_of_lookup h1)).1 rfl).2 with e | e
   · subst e
     rw [hi] at h2; (replace h2 := sI h2; subst h2)
     unfold Ze at h3; rw [Ts] at h3; (replace h3 := sI h3; subst h3)
     simp
   · rw [e] at h2; exact Zk h2
 · have hf : s.names.lookup y = some .free := h1.elim (fun h => absurd rfl ((inv y _ (mem_of_lookup h)).2.2)) fun h => h
   have hc := (inv y _ (mem_of_lookup hf)).2.1 rfl
   have hne : xi ≠ i := fun z => by
     subst z
     have := Ve hi h2
     subst this
     rw [hx] at hf; contradiction
   unfold Ze at h3; rw [Sz hne] at h3
   refine Yg (fm.cel y i u hc h2 h3) fun a g1 g2 g3 => ?_
   have g4 : fr env.locals ml χ a = some (.cell (some (cv ρ u))) := by unfold fr; rw [if_neg g1]; exact g3
   exact Yi a (hD _ _ g4) (Sv g2 s.names [] (.inr ⟨rfl, mem_of_lookup hf⟩)) g4
inductive CompI (sc : Sc) (f : Sc -> Expr -> Option Ab.E) (elt : Expr) (s : Scope) : List Comprehension -> Ab.E -> Prop
 | mk {x px it ifs xi rg i a d} (h1 : Qt it = false) (h2 : s.kind = .function) (h3 : Qv sc x s.names s.names = true) (h4 : s.names.lookup x = some .local) (h5 : Zw x = some xi) (h6 : He sc (f sc) it = some (rg, i)) (h7 : f s.names elt = some a) (h8 : Tp (f s.names) ifs = some d) :
   CompI sc f elt s [⟨.Name x px, it, ifs, 0⟩] (.comp xi rg i a d)
theorem Zkn {elt : Expr} {gs : List Comprehension} {s : Scope} {f : Sc -> Expr -> Option Ab.E} (h : Zck sc f elt gs s = some e) : CompI sc f elt s gs e := by
 cases gs with
 | nil => exact Zk h
 | cons g gs =>
  obtain ⟨t, it, ifs, asy⟩ := g
  (refine gE h ?_; clear h; intro h1 h)
  (refine aE h1 ?_; clear h1; intro h1 h2)
  cases t with
  | Name x px =>
   (refine gE h ?_; clear h; intro h3 h)
   (refine bE h ?_; clear h; intro xi g1 h)
   (refine bE h ?_; clear h; intro e1e g2 h)
   (refine bE h ?_; clear h; intro a g3 h)
   (refine bE h ?_; clear h; intro d g4 h)
   simp only [Bool.and_eq_true] at h3
   rw [<- sI h, Og h1, of_decide_eq_true h2]
   refine .mk (by simpa using h3.1.1.1) ?_ h3.1.2 (Ux h3.2) g1 g2 g3 g4
   have := h3.1.1.2
   cases hk : s.kind <;> rw [hk] at this <;> first | rfl | exact Yb this
  | _ => exact Zk h
theorem Ycz {f : Expr -> Option Ab.E} {ifs : List Expr} {d : Ab.E} (h : Tp f ifs = some d) : (ifs = [] /\ d = .lit (.bool true)) \/ ∃ t, ifs = [t] /\ f t = some d := by
 cases ifs with
 | nil => (replace h := sI h; subst h); exact .inl ⟨rfl, rfl⟩
 | cons t ifs =>
  (refine gE h ?_; clear h; intro h1 h)
  exact .inr ⟨t, by rw [Og h1], h⟩
theorem Yda {ifs : List Expr} {d : Ab.E} (S : Snd B w n c) (C : Ctx sc A env χ ml ρ m H n c) (h : Tp (Zf k sc) ifs = some d) (hw : w.e d (fun v H => Wp v fun b => Qb b H) m H) : J B A (fr env.locals ml χ) (_root_.id : Bool -> Bool) (Sr ifs env) (KB ρ H.nx Qb) E (Za ρ H) := by
 rcases Ycz h with ⟨rfl, rfl⟩ | ⟨t, rfl, h⟩
 · exact Zwi (C.wf.hereB (S.l _ _ _ _ hw))
 · exact Zwj (S.t _ _ _ _ h _ _ _ _ _ _ _ _ _ C hw)
inductive CInv (ρ1 : Nat -> Addr) (H1 : Hp) (L : List V -> List V -> Hp -> Prop) (xs : List V) (i : Nat) (acc : List Value) (σ : St) : Prop
 | mk (ρ' : Nat -> Addr) (H' : Hp) (av : List V) (le : H1.nx <= H'.nx) (ext : Ext H1.nx ρ1 ρ') (wf : Wf ρ' H') (lt : Yt H'.nx av) (ea : acc = av.map (cv ρ')) (hs : Sub (Za ρ' H') σ) (q : L (xs.drop i) av H') : CInv ρ1 H1 L xs i acc σ
theorem Zko {elt : Expr} {x : Str} {xi : Nat} {s : Scope} {ifs : List Expr} {a d : Ab.E} {chk : Hp -> Prop} {Ql : List V -> Hp -> Prop} {xs : List V} (S : Snd B w n c) (C : Ctx sc A env χ ml ρ m H n c) (hk : s.kind = .function) (hs : Qv sc x s.names s.names = true) (hx : s.names.lookup x = some .local) (hi : Zw x = some xi)
   (ha : Zf k s.names elt = some a) (hd : Tp (Zf k s.names) ifs = some d) (hxs : Yt H.nx xs) {i : Nat} (hlt : i < xs.length) :
   Su B A env (fr env.locals ml χ) s (Uw env.cells s.names []) x ifs elt (fun j => cv ρ (xs.getD j .none)) (CInv ρ H (Uu chk (fun v Q H => w.e a Q ((xi, v) :: m) H) (fun v Q H => w.e d Q ((xi, v) :: m) H) Ql) xs) i := by
 rintro acc σ ⟨ρ', H', av, l1, x1, W1, v1, rfl, hsub, q⟩ D E hDL hD
 obtain ⟨v, hv⟩ : ∃ v, xs[i]? = some v := ⟨_, List.getElem?_eq_getElem hlt⟩
 have hdrop : xs.drop i = v :: xs.drop (i + 1) := by
   rw [List.drop_eq_getElem_cons hlt]; congr 1
   exact Option.some.inj ((List.getElem?_eq_getElem hlt).symm.trans hv)
 have hget : xs.getD i .none = v := by rw [List.getD_eq_getElem?_getD, hv]; rfl
 have hvl : v.lt H.nx := hxs v (List.mem_of_getElem? hv)
 rw [hdrop] at q
 (refine Zg q ?_; clear q; intro hchk q)
 have C1 := C.next l1 x1 W1
 have C2 : Ctx s.names A (compEnvC s (Uw env.cells s.names []) D env) (fr env.locals ml χ) [(x, cv ρ' v)] ρ' ((xi, v) :: m) H' n c :=
   ⟨Ycx C.ok hk hs, Ycy C.ok C1.fm hx hi hs hD, fun y u e => by
     unfold Ze at e
     cases z : Nat.beq xi y with
     | true => rw [z] at e; (replace e := sI e; subst e); exact hvl.le l1
     | false => rw [z] at e; exact C1.lt y u e, W1, C.room, C.calm⟩
 have hX : cv ρ (xs.getD i .none) = cv ρ' v := by rw [hget, Ys x1 hvl]
 dsimp only
 rw [hX]
 refine J.sub hsub (J.mono (Yda S C2 hd q) ?_)
 refine KB.all fun ρ2 H2 d' l2 x2 W2 _ q => ?_
 refine ⟨fun e => ?_, fun e => ?_⟩
 · refine J.mono (S.e _ _ _ _ ha _ _ _ _ _ _ _ _ _ (C2.next l2 x2 W2) (Qc q e)) ?_
   refine KP.all fun ρ3 H3 u l3 x3 W3 u3 q => ?_
   refine ⟨_, fun _ _ h => h, ρ3, H3, av ++ [u], Nat.le_trans l1 (Nat.le_trans l2 l3), (x1.trans x2 l1).trans x3 (Nat.le_trans l1 l2), W3, Zac (fun z hz => ((v1 z hz).le l2).le l3) (Tw u3), ?_, fun _ _ h => h, q⟩
   rw [List.map_append, Hi x3 (fun z hz => (v1 z hz).le l2), Hi x2 v1]; rfl
 · refine ⟨_, fun _ _ h => h, ρ2, H2, av, Nat.le_trans l1 l2, x1.trans x2 l1, W2, fun z hz => (v1 z hz).le l2, ?_, fun _ _ h => h, Qd q e⟩
   rw [Hi x2 v1]
theorem Zkp {av : List V} (W : Wf ρ H) (hv : Yt H.nx av) (h : Sl av H fun a H => Q (.ref a) H) {b : Addr} (hb : Za ρ H b = none) : KV ρ H.nx Q (.ref b) (upd (Za ρ H) b (.lst (av.map (cv ρ)))) := by
 rcases h with ⟨l, rfl, h⟩ | h
 · rw [Zjh]; exact W.newV (o := .il l) trivial h b hb
 · exact W.newV (o := .lst av) hv h b hb
theorem Zkq {x : Str} {s : Scope} (ok : EnvOk sc env) (hs : Qv sc x s.names s.names = true) : closureFor s env = pure (Uw env.cells s.names []) :=
 Zwo fun y hy hf => (ok.cel _ ((Vd hs y.1 y.2 hy).2.1 hf)).2
theorem Zkr {x : Str} {s : Scope} (hs : Qv sc x s.names s.names = true) : ∀ y ∈ s.names, y.2 ≠ .cell := fun y hy => (Vd hs y.1 y.2 hy).2.2
theorem Zks {x : Str} {s : Scope} (hs : Qv sc x s.names s.names = true) : ∀ y ∈ s.names, y.2 = .local -> s.names.lookup y.1 = some .local := fun y hy e => ((Vd hs y.1 y.2 hy).1 e).1
theorem Ydb (O : B.Ok) {elt : Expr} {gs : List Comprehension} {s : Scope} (S : Snd B w n c) (C : Ctx sc A env χ ml ρ m H n c) (h : Zck sc (Zf k) elt gs s = some e) (hw : Yu T c w e Q m H) : JE B A env (fr env.locals ml χ) (.ListComp elt gs s p) (KV ρ H.nx Q) E (Za ρ H) := by
 obtain @⟨x, px, it, ifs, xi, rg, i, a, d, hset, hk, hs, hx, hi, g1, g2, g3⟩ := Zkn h
 have hw' : Hc c w rg i (fun chk xs H => Uu chk (fun v Q H => w.e a Q ((xi, v) :: m) H) (fun v Q H => w.e d Q ((xi, v) :: m) H) (fun acc H => Sl acc H fun a H => Q (.ref a) H) xs [] H) m H := hw
 refine J.done (Zwk C.ok.F Wo (Zkq C.ok hs) (Zkr hs) hk (Zks hs) hx (J.mono (Zde O S C g1 hw') ?_) fun v => fold_ok hset)
 rintro v σ₁ ⟨ρ1, H1, chk, xs, l1, x1, W1, v1, q, hz, hsub, src, iv, hsrc⟩
 refine ⟨xs.length, _, src, iv, hz, CInv ρ1 H1 (Uu chk _ _ _) xs, ⟨ρ1, H1, [], Nat.le_refl _, Ext.rfl, W1, Tv, rfl, hsub, q⟩, ?_, fun i hlt => Zko S (C.next l1 x1 W1) hk hs hx hi g2 g3 v1 hlt, ?_⟩
 · rintro j acc σ' ⟨ρ', H', av, l2, x2, W2, v2, rfl, hs', q⟩
   refine hsrc ρ' H' σ' x2 W2 ?_ hs'
   cases z : xs.drop j with
   | nil => rw [z] at q; exact q.1
   | cons => rw [z] at q; exact q.1
 · rintro acc σ' ⟨ρ', H', av, l2, x2, W2, v2, rfl, hs', q⟩ D hD
   rw [List.drop_length] at q
   exact Zp _ hs'.upd (((Zkp W2 v2 q.2 (hs'.none hD)).up l2 x2).up l1 x1)
end Mine.Ab
end
noncomputable section
namespace Mine.Ab
variable {B : Bgd} {A : Around} {E : Value -> Shared -> Prop} {env : Env} {χ : St} {ml : Zc} {ρ ρ' : Nat -> Addr} {m : Fm} {H H' : Hp} {sc : Sc} {n : Nat} {c : Bool} {w : Sys} {k : Nat}
variable {l r x y t b o it : Expr} {p : Pos} {e : Ab.E} {Q : V -> Hp -> Prop} {Qb : Bool -> Hp -> Prop}
theorem Qw {b : Bool} (h : (!b) = true) : b = false := by cases b <;> first | rfl | exact Yb h
theorem Ydc (O : B.Ok) {f : Expr} {es : List Expr} (S : Snd B w n c) (C : Ctx sc A env χ ml ρ m H (n + 1) c) (h0 : Wm es = true) (hl : es.length <= 20) (h : cFn sc (Zf k sc) f es p.line = some e) (hw : Yu T c w e Q m H) : JE B A env (fr env.locals ml χ) (.Call f es [] p) (KV ρ H.nx Q) E (Za ρ H) := by
 cases f with
 | Attribute o nn ap =>
  (refine gE h ?_; clear h; intro g0 h)
  (refine bE h ?_; clear h; intro a g1 h)
  (refine bE h ?_; clear h; intro i g2 h)
  (refine bE h ?_; clear h; intro as g3 h)
  (replace h := sI h; subst h)
  refine aE g0 fun z1 z2 => ?_
  exact Ycv O S C.dec (Qw z1) (by rw [Wn z2]; exact beq_self_eq_true _) hl g1 g2 h0 g3 hw
 | Name f q =>
  (refine gE h ?_; clear h; intro g0 h)
  have hd := Qw g0
  (refine gE h ?_; clear h; intro g1 h)
  have hg := Ux g1
  cases z1 : Wl f GTf with
  | some a =>
   rw [z1] at h
   (refine bE h ?_; clear h; intro as g3 h)
   (replace h := sI h; subst h)
   exact Ycr O S C.dec hd hg z1 h0 g3 hw
  | none =>
   rw [z1] at h
   dsimp only at h
   cases z2 : Wl f GTc with
   | some a =>
    rw [z2] at h
    (refine bE h ?_; clear h; intro as g3 h)
    (replace h := sI h; subst h)
    exact Ycu O S C hd hg z2 h0 g3 hw
   | none =>
    rw [z2] at h
    (refine bE h ?_; clear h; intro b z3 h)
    cases z4 : Nat.beq b 11 with
    | false =>
     rw [z4] at h
     (refine bE h ?_; clear h; intro as g3 h)
     (replace h := sI h; subst h)
     exact Ycs O S C.dec hd hg z3 h0 g3 hw
    | true =>
     rw [z4] at h
     rw [Wn z4] at z3
     cases es with
     | nil => exact Zk h
     | cons x es =>
      cases es with
      | nil => exact Zk h
      | cons t es =>
       (refine gE h ?_; clear h; intro g3 h)
       have := Og g3
       subst this
       cases t with
       | Name t q' =>
        (refine gE h ?_; clear h; intro g4 h)
        (refine bE h ?_; clear h; intro a g5 h)
        (replace h := sI h; subst h)
        refine aE g4 fun u1 u2 => ?_
        exact Yct O S C.dec hd hg z3 (eq_of_beq u1) (Ux u2) (Zal h0).1 g5 hw
       | _ => exact Zk h
 | _ => exact Zk h
theorem Zdf (O : B.Ok) (S : Snd B w n c) : ∀ k sc x e, Zf k sc x = some e -> ∀ A env χ ml ρ m H Q E, Ctx sc A env χ ml ρ m H (n + 1) c -> Yu T c w e Q m H -> JE B A env (fr env.locals ml χ) x (KV ρ H.nx Q) E (Za ρ H)
 | 0, _, _, _, h => by exact Zk h
 | k + 1, sc, x, e, h => by
  intro A env χ ml ρ m H Q E C hw
  cases x with
  | Constant => exact Ybr C h hw
  | Name x q => (refine gE h ?_; clear h; intro g0 h); exact Ybs O C h (Qw g0) hw
  | BinOp => exact Ybw S C.dec h hw
  | Compare => exact Ybx S C.dec h hw
  | BoolOp op vs q =>
   cases vs with
   | nil => exact Zk h
   | cons x vs =>
    cases vs with
    | nil => exact Zdf O S k sc x e h A env χ ml ρ m H Q E C hw
    | cons y vs =>
     (refine bE h ?_; clear h; intro a g1 h)
     (refine bE h ?_; clear h; intro b g2 h)
     (replace h := sI h; subst h)
     cases op with
     | And => exact Ybz S C.dec g1 g2 hw
     | Or => exact Yca S C.dec g1 g2 hw
  | UnaryOp op x q =>
   (refine bE h ?_; clear h; intro a g1 h)
   cases op with
   | Not => (replace h := sI h; subst h); exact Ycd S C.dec g1 hw
   | USub => (replace h := sI h; subst h); exact Ycf S C.dec g1 hw
   | _ => exact Zk h
  | IfExp t b o q =>
   (refine bE h ?_; clear h; intro t' g1 h)
   (refine bE h ?_; clear h; intro b' g2 h)
   (refine bE h ?_; clear h; intro o' g3 h)
   (replace h := sI h; subst h)
   exact Ycg S C.dec g1 g2 g3 hw
  | Attribute x f q =>
   (refine gE h ?_; clear h; intro g0 h)
   (refine bE h ?_; clear h; intro a g1 h)
   (refine bE h ?_; clear h; intro i g2 h)
   (replace h := sI h; subst h)
   exact Yci O S C.dec (Qw g0) g1 g2 hw
  | Subscript x i q =>
   (refine bE h ?_; clear h; intro a g1 h)
   have plain : Zcj i = false -> (bO (Zf k sc i) fun b => some (.item a b)) = some e -> JE B A env (fr env.locals ml χ) (.Subscript x i q) (KV ρ H.nx Q) E (Za ρ H) := fun hi h => by
    (refine bE h ?_; clear h; intro b g2 h)
    (replace h := sI h; subst h)
    exact Ycj S C.dec hi g1 g2 hw
   cases i with
   | Slice lo up st q' =>
    cases st with
    | none =>
     (refine bE h ?_; clear h; intro lo' g2 h)
     (refine bE h ?_; clear h; intro up' g3 h)
     (replace h := sI h; subst h)
     exact Ycl S C.dec g1 g2 g3 hw
    | some => exact Zk h
   | _ => exact plain rfl h
  | List es q =>
   (refine gE h ?_; clear h; intro g0 h)
   (refine bE h ?_; clear h; intro as g1 h)
   (replace h := sI h; subst h)
   exact Ycn S C.dec g0 g1 hw
  | Tuple es kk q =>
   (refine gE h ?_; clear h; intro g0 h)
   (refine bE h ?_; clear h; intro as g1 h)
   (replace h := sI h; subst h)
   exact Yco S C.dec g0 g1 hw
  | Dict ks vs q =>
   (refine gE h ?_; clear h; intro g0 h)
   (replace h := sI h; subst h)
   refine aE g0 fun z1 z2 => ?_
   rw [Og z1, Og z2]
   exact Ycp C hw
  | Call f es ks p =>
   (refine gE h ?_; clear h; intro g0 h)
   simp only [Bool.and_eq_true] at g0
   rw [Og g0.1.1]
   exact Ydc O S C g0.1.2 (Nat.le_of_ble_eq_true g0.2) h hw
  | ListComp elt gs s q => exact Ydb O S C.dec h hw
  | _ => exact Zk h
theorem Zkt (O : B.Ok) (S : Snd B w n c) : ∀ k sc x e, Zf k sc x = some e -> ∀ A env χ ml ρ m H (Q : Bool -> Hp -> Prop) E, Ctx sc A env χ ml ρ m H (n + 1) c -> Yu T c w e (fun v H => Wp v fun b => Q b H) m H -> JT B A env (fr env.locals ml χ) x (KB ρ H.nx Q) E (Za ρ H)
 | 0, _, _, _, h => by exact Zk h
 | k + 1, sc, x, e, h => by
  intro A env χ ml ρ m H Q E C hw
  have plain : Zjx x = false -> JT B A env (fr env.locals ml χ) x (KB ρ H.nx Q) E (Za ρ H) := fun ht =>
   Zqn (J.mono (Zdf O S (k + 1) sc x e h A env χ ml ρ m H (fun v H => Wp v fun b => Q b H) E C hw) fun v σ z => Ybt z) (Yaw ht)
  cases x with
  | Compare => exact Yby S C.dec h hw
  | BoolOp op vs q =>
   cases vs with
   | nil => exact Zk h
   | cons x vs =>
    cases vs with
    | nil =>
     have := Zkt O S k sc x e h A env χ ml ρ m H Q E C hw
     cases op with
     | And => exact Zfh (J.mono this fun d σ z => ⟨fun e => Zqr (e ▸ z), fun e => e ▸ z⟩)
     | Or => exact Zfi (J.mono this fun d σ z => ⟨fun e => Zqs (e ▸ z), fun e => e ▸ z⟩)
    | cons y vs =>
     (refine bE h ?_; clear h; intro a g1 h)
     (refine bE h ?_; clear h; intro b g2 h)
     (replace h := sI h; subst h)
     cases op with
     | And => exact Ycb S C.dec g1 g2 hw
     | Or => exact Ycc S C.dec g1 g2 hw
  | UnaryOp op y q =>
   cases op with
   | Not =>
    (refine bE h ?_; clear h; intro a g1 h)
    (replace h := sI h; subst h)
    exact Yce S C.dec g1 hw
   | _ => exact plain rfl
  | IfExp t b o q =>
   (refine bE h ?_; clear h; intro t' g1 h)
   (refine bE h ?_; clear h; intro b' g2 h)
   (refine bE h ?_; clear h; intro o' g3 h)
   (replace h := sI h; subst h)
   exact Ych S C.dec g1 g2 g3 hw
  | _ => exact plain rfl
end Mine.Ab
end
noncomputable section
namespace Mine.Ab
variable {B : Bgd} {A : Around} {E : Value -> Shared -> Prop} {env : Env} {χ : St} {ml : Zc} {ρ ρ' : Nat -> Addr} {m : Fm} {H H' : Hp} {sc : Sc} {n N : Nat} {c : Bool} {w : Sys} {k : Nat}
variable {l r x y t b o it : Expr} {p : Pos} {e : Ab.E} {Q : Fl -> Fm -> Hp -> Prop}
noncomputable def flR (ρ : Nat -> Addr) (n : Nat) (fl : Flow) : Fl -> Prop
 | .nx => fl = .next
 | .ret v => fl = .ret (cv ρ v) /\ v.lt n
inductive KX (sc : Sc) (env : Env) (χ : St) (ρ : Nat -> Addr) (N : Nat) (Q : Fl -> Fm -> Hp -> Prop) (fl : Flow) (ml : Zc) (σ : St) : Prop
 | mk (ρ' : Nat -> Addr) (H' : Hp) (m : Fm) (f : Fl) (le : N <= H'.nx) (ext : Ext N ρ ρ') (wf : Wf ρ' H') (fm : FmR sc env χ ml ρ' m) (lt : FmL m H'.nx) (hf : flR ρ' H'.nx fl f) (wk : Wk (Za ρ' H') σ) (q : Q f m H') : KX sc env χ ρ N Q fl ml σ
theorem KX.up {fl : Flow} {σ : St} (h : KX sc env χ ρ' N Q fl ml σ) {M : Nat} (l : M <= N) (e : Ext M ρ ρ') : KX sc env χ ρ M Q fl ml σ := by
 obtain ⟨ρ2, H2, m2, f, h1, h2, h3, h4, h5, h6, h7, h8⟩ := h
 exact ⟨ρ2, H2, m2, f, Nat.le_trans l h1, e.trans h2 l, h3, h4, h5, h6, h7, h8⟩
theorem Zku {σ : St} : Wk σ σ := fun a o e => ⟨o, e, .inl rfl⟩
theorem KX.here {ml : Zc} {f : Fl} {fl : Flow} (W : Wf ρ H) (fm : FmR sc env χ ml ρ m) (lt : FmL m H.nx) (hN : N <= H.nx) (hf : flR ρ H.nx fl f) (h : Q f m H) : KX sc env χ ρ N Q fl ml (Za ρ H) := ⟨ρ, H, m, f, hN, Ext.rfl, W, fm, lt, hf, Zku, h⟩
theorem JX.up {t : Sem Flow} {σ : St} (h : JX B A env χ t (KX sc env χ ρ' N Q) E ml σ) {M : Nat} (l : M <= N) (e : Ext M ρ ρ') : JX B A env χ t (KX sc env χ ρ M Q) E ml σ := JS.mono h fun b m' σ' z => z.up l e
theorem FmR.put (fm : FmR sc env χ ml ρ m) {x : Str} {i : Nat} {v : V} (hx : sc.lookup x = some .local) (hi : Zw x = some i) : FmR sc env χ (Ym x (cv ρ v) ml) ρ (Yk i v m) := by
 refine ⟨fun y j u h1 h2 h3 => ?_, fun y j u h1 h2 h3 => ?_⟩
 · rw [Zaa] at h3
   rw [Tc]
   by_cases z : j = i
   · subst z
     rw [Ve h2 hi, if_pos rfl]
     rw [if_pos rfl] at h3; (replace h3 := sI h3; subst h3); rfl
   · rw [if_neg z] at h3
     rw [if_neg fun e => z (by rw [e] at h2; rw [hi] at h2; exact (Option.some.inj h2).symm)]
     exact fm.loc y j u h1 h2 h3
 · rw [Zaa] at h3
   have z : j ≠ i := fun z => by
     subst z
     rw [Ve h2 hi, hx] at h1
     rcases h1 with h1 | h1 <;> contradiction
   rw [if_neg z] at h3
   exact fm.cel y j u h1 h2 h3
theorem FmL.put (h : FmL m n) {i : Nat} {v : V} (hv : v.lt n) : FmL (Yk i v m) n := fun y u e => by
 rw [Zaa] at e
 by_cases z : y = i
 · rw [if_pos z] at e; (replace e := sI e; subst e); exact hv
 · rw [if_neg z] at e; exact h y u e
theorem Ctx.put (C : Ctx sc A env χ ml ρ m H n c) {x : Str} {i : Nat} {v : V} (hx : sc.lookup x = some .local) (hi : Zw x = some i) (hv : v.lt H.nx) : Ctx sc A env χ (Ym x (cv ρ v) ml) ρ (Yk i v m) H n c :=
 ⟨C.ok, C.fm.put hx hi, C.lt.put hv, C.wf, C.room, C.calm⟩
theorem Ctx.set (C : Ctx sc A env χ ml ρ m H n c) {i : Nat} {o : Ab.O} (W : Wf ρ (H.set i o)) : Ctx sc A env χ ml ρ m (H.set i o) n c := ⟨C.ok, C.fm, C.lt, W, C.room, C.calm⟩
structure SndS (B : Bgd) (w : Sys) (n : Nat) (cm : Bool) : Prop extends Snd B w n cm where
 s : ∀ k sc ss Ss, Zq (Wu k sc) ss = some Ss -> ∀ A env χ ml ρ m H N Q E, Ctx sc A env χ ml ρ m H n cm -> N <= H.nx -> w.s N Ss Q m H -> JX B A env χ (execs ss env) (KX sc env χ ρ N Q) E ml (Za ρ H)
 u : ∀ k sc elt gs s p e, Zf k sc (.ListComp elt gs s p) = some e -> ∀ A env χ ml ρ m H (Q : V -> Hp -> Prop) E y q q' rest Q', Ctx sc A env χ ml ρ m H n cm -> w.e e Q m H -> env.kindOf y = some .local -> swapsWith (.ListComp elt gs s p) (some (.Name y q')) q.line env = pure true ->
  (∀ ρ1 H1 v, H.nx <= H1.nx -> Ext H.nx ρ ρ1 -> Wf ρ1 H1 -> v.lt H1.nx -> Q v H1 -> JX B A env χ (execs rest env) Q' E (Ym y (cv ρ1 v) ml) (Za ρ1 H1)) -> JX B A env χ (execs (.Assign [.Name y q'] (.ListComp elt gs s p) q :: rest) env) Q' E ml (Za ρ H)
theorem Zkv {Ss : List Ab.S} {rest : List Stmt} {fl : Flow} {σ : St} (S : SndS B w n c) (C0 : EnvOk sc env) (R : Room A n) (hc : c = true -> A.handled = none) (hr : Zq (Wu k sc) rest = some Ss) (h : KX sc env χ ρ N (Xj (w.s N Ss Q) Q) fl ml σ) : Kh B A env χ rest (KX sc env χ ρ N Q) E fl ml σ := by
 obtain ⟨ρ', H', m', f, h1, h2, h3, h4, h5, h6, h7, q⟩ := h
 cases f with
 | nx =>
  have h6 : fl = .next := h6
  subst h6
  exact JS.weak h7 (JX.up (S.s _ _ _ _ hr _ _ _ _ _ _ _ _ _ _ ⟨C0, h4, h5, h3, R, hc⟩ h1 q) (Nat.le_refl _) h2)
 | ret v =>
  obtain ⟨h6, h8⟩ := h6
  subst h6
  exact ⟨ρ', H', m', .ret v, h1, h2, h3, h4, h5, ⟨rfl, h8⟩, h7, q⟩
section
variable {rest : List Stmt} {Ss : List Ab.S}
theorem Ydd {v : Expr} {xi : Nat} {y : Str} {q q' : Pos} (S : SndS B w n c) (C : Ctx sc A env χ ml ρ m H n c) (hN : N <= H.nx) (hy : sc.lookup y = some .local) (hi : Zw y = some xi) (h : Zf k sc v = some e) {k' : Nat} (hr : Zq (Wu k' sc) rest = some Ss)
  (hw : w.e e (fun v H => Ww xi v m fun m => w.s N Ss Q m H) m H) : JX B A env χ (execs (.Assign [.Name y q'] v q :: rest) env) (KX sc env χ ρ N Q) E ml (Za ρ H) := by
 have next : ∀ ρ1 H1 (v : V), H.nx <= H1.nx -> Ext H.nx ρ ρ1 -> Wf ρ1 H1 -> v.lt H1.nx -> (Ww xi v m fun m => w.s N Ss Q m H1) -> JX B A env χ (execs rest env) (KX sc env χ ρ N Q) E (Ym y (cv ρ1 v) ml) (Za ρ1 H1) := fun ρ1 H1 v l1 x1 W1 v1 z => by
  rw [Ju] at z
  exact JX.up (S.s _ _ _ _ hr _ _ _ _ _ _ _ _ _ _ ((C.next l1 x1 W1).put hy hi v1) (Nat.le_trans hN l1) z) (Nat.le_refl _) (x1.le hN)
 have plain : swapsWith v (some (.Name y q')) q.line env = pure false -> JX B A env χ (execs (.Assign [.Name y q'] v q :: rest) env) (KX sc env χ ρ N Q) E ml (Za ρ H) := fun hs => by
  refine Zrk C.ok.F (J.mono (S.e _ _ _ _ h _ _ _ _ _ _ _ _ _ C hw) ?_) (C.ok.loc y hy) hs
  refine KP.all fun ρ1 H1 va l1 x1 W1 v1 z => ?_
  exact next ρ1 H1 va l1 x1 W1 v1 z
 cases hcomp : Hd v with
 | false => exact plain (Gz hcomp)
 | true =>
  cases v with
  | ListComp elt gs s p =>
   have hsw : swapsWith (.ListComp elt gs s p) (some (.Name y q')) q.line env = pure (env.blockKind == .function && env.kindOf y == some .local && q'.line == p.line && !(s.names.any fun (n, k) => n == y && (k == .local || k == .cell))) := rfl
   cases z : (env.blockKind == .function && env.kindOf y == some .local && q'.line == p.line && !(s.names.any fun (n, k) => n == y && (k == .local || k == .cell))) with
   | false => rw [z] at hsw; exact plain hsw
   | true => rw [z] at hsw; exact S.u _ _ _ _ _ _ _ h _ _ _ _ _ _ _ _ _ _ _ _ _ _ C hw (C.ok.loc y hy) hsw next
  | SetComp => cases k <;> exact Zk h
  | DictComp => cases k <;> exact Zk h
  | _ => exact Yb hcomp
theorem Zkw {v : V} {i : Nat} : ∀ {fs : List (Nat × V)}, Ym (nm i) (cv ρ v) (fs.map fun p => (nm p.1, cv ρ p.2)) = (Yk i v fs).map fun p => (nm p.1, cv ρ p.2)
 | [] => rfl
 | (j, u) :: r => by
  rw [List.map_cons]
  unfold Ym Yk
  cases z : Nat.beq j i with
  | true => rw [Wn z]; simp
  | false =>
   rw [if_neg fun e => Gu z (Ziv e), Zkw]; rfl
theorem Yde {v : V} {i : Nat} {fs : List (Nat × V)} (h : ∀ p ∈ fs, p.2.lt n) (hv : v.lt n) : ∀ p ∈ Yk i v fs, p.2.lt n := fun p hp => (Zab hp).elim (fun e => e ▸ hv) (h p)
theorem Ydf (O : B.Ok) {v o : Expr} {f : Str} {i : Nat} {o' : Ab.E} {q q' : Pos} (S : SndS B w n c) (C : Ctx sc A env χ ml ρ m H n c) (hN : N <= H.nx) (hf : Zw f = some i) (h : Zf k sc v = some e) (ho : Zf k sc o = some o') {k' : Nat} (hr : Zq (Wu k' sc) rest = some Ss)
   (hw : w.e e (fun v H => w.e o' (fun ov H => Uh ov fun j => H.lk j fun o => Sb o fun C fs => br ((T.fo C i || (Ze i fs).isSome) && Nat.ble fs.length 100) (Ww i v fs fun fs => H.setK j (.inst C fs) fun H => w.s N Ss Q m H) False) m H) m H) : JX B A env χ (execs (.Assign [.Attribute o f q'] v q :: rest) env) (KX sc env χ ρ N Q) E ml (Za ρ H) := by
 refine Zrm O (J.mono (S.e _ _ _ _ h _ _ _ _ _ _ _ _ _ C hw) ?_) Yax
 refine KP.all fun ρ1 H1 va l1 x1 W1 v1 z => ?_
 refine J.mono (S.e _ _ _ _ ho _ _ _ _ _ _ _ _ _ (C.next l1 x1 W1) z) ?_
 refine KP.all fun ρ2 H2 vo l2 x2 W2 v2 z => ?_
 (refine rE z ?_; clear z; rintro j rfl z)
 (refine kE z ?_; clear z; intro ob t1 z)
 (refine Zx (Zgu z) ?_; clear z; rintro cl fs rfl z)
 obtain ⟨g, z⟩ := Uk z
 obtain ⟨g1, g2⟩ := Bool.and_eq_true_iff.mp g
 rw [Ju, Rz] at z
 have ho : (Ab.O.inst cl (Yk i va fs)).lt H2.nx := Yde (W2.olt t1) (v1.le l2)
 refine Znk _ _ _ rfl (W2.look t1) ?_ (by rw [List.length_map]; have := Nat.le_of_ble_eq_true g2; omega) ?_
 · rcases Bool.or_eq_true_iff.mp g1 with g | g
   · rw [<- Hh hf]; exact .inl (Ybo g)
   · refine .inr ?_
     rw [<- Hh hf, Zaq]
     cases y : Ze i fs with
     | none => rw [y] at g; exact Yb g
     | some => rfl
 · rw [<- Hh hf, <- Ys x2 v1, Zkw]
   have := JX.up (S.s _ _ _ _ hr _ _ _ _ _ _ _ _ _ E (((C.next l1 x1 W1).next l2 x2 W2).set (W2.set (o' := .inst cl (Yk i va fs)) t1 ho)) (Nat.le_trans hN (Nat.le_trans l1 l2)) z) (Nat.le_refl _) ((x1.trans x2 l1).le hN)
   rw [W2.st_set t1] at this
   exact this
theorem Ydg {v o i : Expr} {i' o' : Ab.E} {q q' : Pos} (S : SndS B w n c) (C : Ctx sc A env χ ml ρ m H n c) (hN : N <= H.nx) (h : Zf k sc v = some e) (ho : Zf k sc o = some o') (hi : Zf k sc i = some i') {k' : Nat} (hr : Zq (Wu k' sc) rest = some Ss)
  (hw : w.e e (fun v H => w.e o' (fun ov H => w.e i' (fun iv H => Zby ov iv v (fun H => w.s N Ss Q m H) H) m H) m H) m H) : JX B A env χ (execs (.Assign [.Subscript o i q'] v q :: rest) env) (KX sc env χ ρ N Q) E ml (Za ρ H) := by
 refine Zfr (J.mono (S.e _ _ _ _ h _ _ _ _ _ _ _ _ _ C hw) ?_) Zjy
 refine KP.all fun ρ1 H1 va l1 x1 W1 v1 z => ?_
 refine J.mono (S.e _ _ _ _ ho _ _ _ _ _ _ _ _ _ (C.next l1 x1 W1) z) ?_
 refine KP.all fun ρ2 H2 vo l2 x2 W2 v2 z => ?_
 refine J.mono (S.e _ _ _ _ hi _ _ _ _ _ _ _ _ _ ((C.next l1 x1 W1).next l2 x2 W2) z) ?_
 refine KP.all fun ρ3 H3 vi l3 x3 W3 v3 z => ?_
 rw [<- Ys x3 v2, <- Ys x2 v1, <- Ys x3 (v1.le l2)]
 intro v' o' i' e1 e2 e3
 refine J.mono (Yar W3 ((v1.le l2).le l3) z v' o' i' e1 e2 e3) ?_
 rintro _ _ ⟨ρ4, H4, -, l4, x4, W4, -, -, rfl, z⟩
 have C4 := (((C.next l1 x1 W1).next l2 x2 W2).next l3 x3 W3).next l4 x4 W4
 exact JX.up (S.s _ _ _ _ hr _ _ _ _ _ _ _ _ _ _ C4 (Nat.le_trans hN (Nat.le_trans l1 (Nat.le_trans l2 (Nat.le_trans l3 l4)))) z) (Nat.le_refl _) ((((x1.trans x2 l1).trans x3 (Nat.le_trans l1 l2)).trans x4 (Nat.le_trans l1 (Nat.le_trans l2 l3))).le hN)
theorem Ydh {v o : Expr} {lo up : Option Expr} {lo' up' o' : Ab.E} {q q' q'' : Pos} (S : SndS B w n c) (C : Ctx sc A env χ ml ρ m H n c) (hN : N <= H.nx) (h : Zf k sc v = some e) (ho : Zf k sc o = some o') (hlo : Qg (Zf k sc) lo = some lo') (hup : Qg (Zf k sc) up = some up') {k' : Nat} (hr : Zq (Wu k' sc) rest = some Ss)
  (hw : w.e e (fun v H => w.e o' (fun ov H => w.e lo' (fun vl H => w.e up' (fun vh H => Zhc ov vl vh v (fun H => w.s N Ss Q m H) H) m H) m H) m H) m H) : JX B A env χ (execs (.Assign [.Subscript o (.Slice lo up none q'') q'] v q :: rest) env) (KX sc env χ ρ N Q) E ml (Za ρ H) := by
 refine Zfr (J.mono (S.e _ _ _ _ h _ _ _ _ _ _ _ _ _ C hw) ?_) Zjy
 refine KP.all fun ρ1 H1 va l1 x1 W1 v1 z => ?_
 refine J.mono (S.e _ _ _ _ ho _ _ _ _ _ _ _ _ _ (C.next l1 x1 W1) z) ?_
 refine KP.all fun ρ2 H2 vo l2 x2 W2 v2 z => ?_
 refine Zhn (J.mono (Zar S.toSnd ((C.next l1 x1 W1).next l2 x2 W2) hlo z) ?_)
 refine KP.all fun ρ3 H3 vl l3 x3 W3 v3 z => ?_
 refine J.mono (Zar S.toSnd (((C.next l1 x1 W1).next l2 x2 W2).next l3 x3 W3) hup z) ?_
 refine KP.all fun ρ4 H4 vu l4 x4 W4 v4 z => ?_
 rw [<- Ys x4 v3, <- Ys x3 v2, <- Ys x4 (v2.le l3), <- Ys x2 v1, <- Ys x3 (v1.le l2), <- Ys x4 ((v1.le l2).le l3)]
 (refine rE z ?_; rintro ja rfl z1)
 (refine iE z1 ?_; rintro i rfl z2)
 (refine iE z2 ?_; rintro j rfl z3)
 (refine rE z3 ?_; rintro je rfl z4)
 refine kE z4 fun oa t1 z5 => ?_
 (refine Os z5 ?_; rintro xs rfl z6)
 refine kE z6 fun oe t2 z7 => ?_
 (refine Os z7 ?_; rintro ys rfl z8)
 obtain ⟨g, z9⟩ := Uk z8
 obtain ⟨g1, g2⟩ := Bool.and_eq_true_iff.mp g
 refine Xo (of_decide_eq_true g1) fun b1 b2 b3 => ?_
 obtain ⟨i, rfl⟩ := Int.eq_ofNat_of_zero_le b1
 obtain ⟨j, rfl⟩ := Int.eq_ofNat_of_zero_le (Int.le_trans b1 b2)
 refine Qn (some i) (some j) rfl rfl (fun a vl vu ha pl pu => ?_)
 rw [Rz] at z9
 have W5 := W4.set (o' := .il (xs.take i ++ ys ++ xs.drop j)) t1 trivial
 have C4 := (((C.next l1 x1 W1).next l2 x2 W2).next l3 x3 W3).next l4 x4 W4
 have C5 := C4.set W5
 have := JX.up (S.s _ _ _ _ hr _ _ _ _ _ _ _ _ _ E C5 (Nat.le_trans hN (Nat.le_trans l1 (Nat.le_trans l2 (Nat.le_trans l3 l4)))) z9) (Nat.le_refl _) ((((x1.trans x2 l1).trans x3 (Nat.le_trans l1 l2)).trans x4 (Nat.le_trans l1 (Nat.le_trans l2 l3))).le hN)
 rw [W4.st_set t1] at this
 refine Zvb (Uz W4 t2) (W4.look t1) ha pl pu (by exact gl (L1 (N2 _ _) V0 1 nA nB (((of_decide_eq_true g1).2).1) nA nB rfl)) (by rw [List.length_map]; exact b3) (by rw [List.length_map, List.length_map]; exact Wr g2) fun τ hs => ?_
 refine JS.sub hs ?_
 have e : Zy ρ4 (.il (xs.take i ++ ys ++ xs.drop j)) = .lst ((xs.map Mine.I).take i ++ ys.map Mine.I ++ (xs.map Mine.I).drop j) := by simp [Zy, List.map_take, List.map_drop]
 rw [<- e]; exact this
end
end Mine.Ab
end
noncomputable section
namespace Mine.Ab
variable {B : Bgd} {A : Around} {E : Value -> Shared -> Prop} {env : Env} {χ : St} {ml : Zc} {ρ ρ' : Nat -> Addr} {m : Fm} {H H' : Hp} {sc : Sc} {n N : Nat} {c : Bool} {w : Sys} {k k' : Nat}
variable {l r x y t b o it : Expr} {p : Pos} {e : Ab.E} {Q : Fl -> Fm -> Hp -> Prop} {rest : List Stmt} {Ss : List Ab.S}
theorem Ydi (S : SndS B w n c) (C : Ctx sc A env χ ml ρ m H n c) (hN : N <= H.nx) (hc : Hd x = false) (h : Zf k sc x = some e) (hr : Zq (Wu k' sc) rest = some Ss) (hw : w.e e (fun _ H => w.s N Ss Q m H) m H) : JX B A env χ (execs (.Expr x p :: rest) env) (KX sc env χ ρ N Q) E ml (Za ρ H) := by
 refine Zfq (J.mono (S.e _ _ _ _ h _ _ _ _ _ _ _ _ _ C hw) ?_) (Zcw C.ok.F) (Gz hc)
 refine KP.all fun ρ1 H1 va l1 x1 W1 v1 z => ?_
 exact JX.up (S.s _ _ _ _ hr _ _ _ _ _ _ _ _ _ _ (C.next l1 x1 W1) (Nat.le_trans hN l1) z) (Nat.le_refl _) (x1.le hN)
theorem Ydj (S : SndS B w n c) (C : Ctx sc A env χ ml ρ m H n c) (hN : N <= H.nx) (h : Zf k sc x = some e) (hw : w.e e (fun v H => Q (.ret v) m H) m H) : JX B A env χ (execs (.Return (some x) p :: rest) env) (KX sc env χ ρ N Q) E ml (Za ρ H) := by
 refine Zri (J.mono (S.e _ _ _ _ h _ _ _ _ _ _ _ _ _ C hw) ?_)
 refine KP.all fun ρ1 H1 va l1 x1 W1 v1 z => ?_
 exact (KX.here (f := .ret va) W1 (C.fm.ext C.lt x1) (C.lt.le l1) (Nat.le_trans hN l1) ⟨rfl, v1⟩ z).up (Nat.le_refl _) (x1.le hN)
theorem Ydk (C : Ctx sc A env χ ml ρ m H n c) (hN : N <= H.nx) (hw : Q (.ret .none) m H) : JX B A env χ (execs (.Return none p :: rest) env) (KX sc env χ ρ N Q) E ml (Za ρ H) :=
 Zrj (KX.here (f := .ret .none) C.wf C.fm C.lt hN ⟨rfl, trivial⟩ hw)
theorem Ydl (C : Ctx sc A env χ ml ρ m H n c) (hN : N <= H.nx) (hw : Q .nx m H) : JX B A env χ (execs [] env) (KX sc env χ ρ N Q) E ml (Za ρ H) :=
 Zrh (KX.here (f := .nx) C.wf C.fm C.lt hN rfl hw)
theorem Ydm {bs os : List Stmt} {bS oS : List Ab.S} (S : SndS B w n c) (C : Ctx sc A env χ ml ρ m H n c) (hN : N <= H.nx) (h : Zf k sc t = some e) (hb : Zq (Wu k sc) bs = some bS) (ho : Zq (Wu k sc) os = some oS) (hr : Zq (Wu k' sc) rest = some Ss)
   (hw : w.e e (fun v H => Wp v fun x => br x (w.s N bS (Xj (w.s N Ss Q) Q) m H) (w.s N oS (Xj (w.s N Ss Q) Q) m H)) m H) : JX B A env χ (execs (.If t bs os p :: rest) env) (KX sc env χ ρ N Q) E ml (Za ρ H) := by
 refine Zfs (J.mono (S.t _ _ _ _ h _ _ _ _ _ _ _ (fun x H => br x (w.s N bS (Xj (w.s N Ss Q) Q) m H) (w.s N oS (Xj (w.s N Ss Q) Q) m H)) _ C hw) ?_)
 refine KB.all fun ρ1 H1 d l1 x1 W1 _ z => ?_
 have C1 := C.next l1 x1 W1
 refine ⟨fun e => ?_, fun e => ?_⟩
 · exact JS.mono (JX.up (S.s _ _ _ _ hb _ _ _ _ _ _ _ _ _ _ C1 (Nat.le_trans hN l1) (Qc z e)) (Nat.le_refl _) (x1.le hN)) fun fl m' σ' q => Zkv S C.ok C.room C.calm hr q
 · exact JS.mono (JX.up (S.s _ _ _ _ ho _ _ _ _ _ _ _ _ _ _ C1 (Nat.le_trans hN l1) (Qd z e)) (Nat.le_refl _) (x1.le hN)) fun fl m' σ' q => Zkv S C.ok C.room C.calm hr q
theorem Zdg {sc : Sc} {env : Env} {χ : St} : ∀ {l : List (Str × Pos)} {xs : List Nat} {vs : List V} {ml : Zc} {m : Fm} {K : Fm -> Prop}, (∀ q ∈ l, sc.lookup q.1 = some .local) -> l.length = xs.length -> (∀ (i : Nat) (q : Str × Pos) (j : Nat), l[i]? = some q -> xs[i]? = some j -> Zw q.1 = some j) -> Yt n vs ->
  FmR sc env χ ml ρ m -> FmL m n -> Kj xs vs m K -> l.length = vs.length /\ ∃ m', K m' /\ FmR sc env χ (putN (l.map (·.1)) (vs.map (cv ρ)) ml) ρ m' /\ FmL m' n
 | [], [], vs, ml, m, K, h1, h2, h3, hv, fm, lt, h => by
  (refine Zg (Xu h) ?_; clear h; rintro rfl h)
  exact ⟨rfl, m, h, fm, lt⟩
 | [], _ :: _, vs, ml, m, K, h1, h2, h3, hv, fm, lt, h => by contradiction
 | _ :: _, [], vs, ml, m, K, h1, h2, h3, hv, fm, lt, h => by contradiction
 | q :: l, x :: xs, [], ml, m, K, h1, h2, h3, hv, fm, lt, h => by exact False.elim h
 | q :: l, x :: xs, v :: vs, ml, m, K, h1, h2, h3, hv, fm, lt, h => by
  have h : Ww x v m fun m => Kj xs vs m K := h
  rw [Ju] at h
  have hq := h1 q (.head _)
  have hi := h3 0 q x rfl rfl
  (refine Zg (Zdg (fun q hq => h1 q (.tail _ hq)) (Nat.succ.inj h2) (fun i q j a b => h3 (i + 1) q j a b) (fun u hu => hv u (.tail _ hu)) (fm.put hq hi) (lt.put (hv v (.head _))) h) fun e zr => ?_; obtain ⟨m', g1, g2, g3⟩ := zr)
  exact ⟨by rw [List.length_cons, List.length_cons, e], m', g1, g2, g3⟩
theorem Zdh {ln : Nat} : ∀ {l : List (Str × Pos)}, (We ln (Wx l)).length <= l.length
 | [] => Nat.le_refl _
 | q :: l => by
  show (match q.2.line == ln with | true => q.1 :: We ln (Wx l) | false => We ln (Wx l)).length <= _
  cases q.2.line == ln with
  | true => exact Nat.succ_le_succ Zdh
  | false => exact Nat.le_succ_of_le Zdh
theorem Zkx {ln : Nat} : ∀ {l : List (Str × Pos)}, (We ln (Wx l)).length = l.length -> We ln (Wx l) = l.map (·.1)
 | [], _ => rfl
 | q :: l, h => by
  have h : (match q.2.line == ln with | true => q.1 :: We ln (Wx l) | false => We ln (Wx l)).length = l.length + 1 := h
  show (match q.2.line == ln with | true => q.1 :: We ln (Wx l) | false => We ln (Wx l)) = _
  cases z : q.2.line == ln with
  | true => rw [z] at h; dsimp only at h ⊢; rw [Zkx (Nat.succ.inj h)]; rfl
  | false => rw [z] at h; have := Zdh (ln := ln) (l := l); dsimp only at h; exact gf (L2 (N2 _ _) V0 1 (.a nB kI) nA (Yq h) 1 nA nB (nl this) kI kZ rfl)
theorem Ydn {ns : List Str} {vs : List Value} {ml : Zc} (hn : ns.length = vs.length) (h2 : ns.length = 2 \/ ns.length = 3) (hd : ns.Nodup) : ∀ y, (putN ns.reverse vs.reverse ml).lookup y = (putN ns vs ml).lookup y := by
 intro y
 rcases h2 with h2 | h2
 · have h3 := hn.symm.trans h2
   clear hn
   obtain ⟨a, r1, rfl, g1⟩ := Qm h2
   obtain ⟨b, r2, rfl, g2⟩ := Qm g1
   obtain rfl := Rm g2
   obtain ⟨u, r3, rfl, g3⟩ := Qm h3
   obtain ⟨v, r4, rfl, g4⟩ := Qm g3
   obtain rfl := Rm g4
   have hab : a ≠ b := by simpa using hd
   simp only [List.reverse_cons, List.reverse_nil, List.nil_append, List.cons_append, putN, Tc]
   by_cases z : y = a
   · subst z; simp [hab]
   · simp [z]
 · have h3 := hn.symm.trans h2
   clear hn
   obtain ⟨a, r1, rfl, g1⟩ := Qm h2
   obtain ⟨b, r2, rfl, g2⟩ := Qm g1
   obtain ⟨c, r5, rfl, g5⟩ := Qm g2
   obtain rfl := Rm g5
   obtain ⟨u, r3, rfl, g3⟩ := Qm h3
   obtain ⟨v, r4, rfl, g4⟩ := Qm g3
   obtain ⟨w, r6, rfl, g6⟩ := Qm g4
   obtain rfl := Rm g6
   have hd : (a ≠ b /\ a ≠ c) /\ b ≠ c := by simpa using hd
   simp only [List.reverse_cons, List.reverse_nil, List.nil_append, List.cons_append, putN, Tc]
   by_cases z : y = a
   · subst z; simp [hd.1.1, hd.1.2]
   · by_cases z' : y = b
     · subst z'; simp [hd.2, z]
     · simp [z, z']
theorem FmR.congr {ml' : Zc} (h : FmR sc env χ ml ρ m) (e : ∀ y, ml'.lookup y = ml.lookup y) : FmR sc env χ ml' ρ m := ⟨fun x i v h1 h2 h3 => by rw [e]; exact h.loc x i v h1 h2 h3, h.cel⟩
theorem Ydo {l : List Str} (h : l.eraseDups.length = l.length) : l.Nodup := by
 have key : ∀ {l : List Str}, l.eraseDups.Nodup /\ l.eraseDups.Sublist l := fun {l} => by
  induction h : l.length using Nat.strongRecOn generalizing l with
  | ind k ih =>
   cases l with
   | nil => simp
   | cons a r =>
    rw [List.eraseDups_cons]
    have hlt : (r.filter fun b => !b == a).length < k := by
     have := List.length_filter_le (fun b => !b == a) r
     simp at h; omega
    refine Zg (ih _ hlt (l := r.filter fun b => !b == a) rfl) fun g1 g2 => ?_
    refine ⟨List.nodup_cons.mpr ⟨fun hm => ?_, g1⟩, (g2.trans List.filter_sublist).cons_cons a⟩
    have := (List.mem_filter.mp (g2.subset hm)).2
    simp at this
 refine Zg (key (l := l)) fun h1 h2 => ?_
 rw [h2.eq_of_length h] at h1; exact h1
theorem Ydp {ts : List Expr} {v : Expr} {ns : List Str} (h : Hf ts v = some (some ns)) : ns = We (Of ts) ts /\ (ts.length = 2 \/ ts.length = 3) /\ ns.length = ts.length /\ ns.Nodup := by
 cases v with
 | Tuple vs k' q' =>
  unfold Hf at h
  dsimp only at h
  cases z1 : !(ts.length == 2 || ts.length == 3) || vs.length != ts.length with
  | true => rw [z1] at h; cases h
  | false =>
   rw [z1] at h
   dsimp only at h
   cases z2 : vs.any Km with
   | true => rw [z2] at h; cases h
   | false =>
    rw [z2] at h
    dsimp only at h
    cases z3 : (We (Of ts) ts).length != ts.length || (We (Of ts) ts).eraseDups.length != (We (Of ts) ts).length with
    | true => rw [z3] at h; cases h
    | false =>
     rw [z3] at h
     dsimp only at h
     cases z4 : vs.all (foldedForSure 8) with
     | true => rw [z4] at h; cases h
     | false =>
      rw [z4] at h
      dsimp only at h
      cases z5 : vs.all (constantsAlone 8) with
      | true => rw [z5] at h; exact Zk h
      | false =>
       rw [z5] at h
       have : We (Of ts) ts = ns := Option.some.inj (Option.some.inj h)
       subst this
       refine Zg (Bool.or_eq_false_iff.mp z1) fun a1 a2 => ?_
       refine Zg (Bool.or_eq_false_iff.mp z3) fun b1 b2 => ?_
       refine Zel rfl ?_ (by simpa using b1) (Ydo (by simpa using b2))
       have : ¬ ts.length = 2 -> ts.length = 3 := by simpa using a1
       omega
 | _ => cases h
theorem Ydq {α : Type} {o : Option α} (h : Jf o = true) : ∃ a, o = some a := by cases o <;> first | exact ⟨_, rfl⟩ | exact Yb h
theorem Ydr {v : Expr} {ts : List Expr} {kk : Nat} {xs : List Nat} {q q' : Pos} (S : SndS B w n c) (C : Ctx sc A env χ ml ρ m H n c) (hN : N <= H.nx) (hh : A.handled = none) (hcomp : Hd v = false) (hsw : Jf (Hf ts v) = true) (hts : Zq (Qu sc) ts = some xs) (h : Zf k sc v = some e) (hr : Zq (Wu k' sc) rest = some Ss)
  (hw : w.e e (fun v H => Gp v H fun ys => Kj xs ys m fun m => w.s N Ss Q m H) m H) : JX B A env χ (execs (.Assign [.Tuple ts kk q'] v q :: rest) env) (KX sc env χ ρ N Q) E ml (Za ρ H) := by
 (refine Vu (Zcx hts) ?_; rintro l rfl hl1 hl2 hl3)
 have hloc : ∀ q ∈ l, env.kindOf q.1 = some .local := fun q hq => C.ok.loc _ (hl1 q hq)
 (refine Xg (Ydq hsw) ?_; clear hsw; intro r hsw)
 have hmem : ∀ x p, Expr.Name x p ∈ Wx l -> env.kindOf x = some .local := fun x p hm => by
  refine Zb (List.mem_map.mp hm) fun q hq e => ?_
  (injection e with e; subst e); exact hloc q hq
 have hst := Ybc (k := kk) (q := q') C.ok.F hmem hsw
 have J1 := S.e _ _ _ _ h _ _ _ _ _ _ _ _ E C hw
 have after : ∀ ρ1 H1 (va : V), H.nx <= H1.nx -> Ext H.nx ρ ρ1 -> Wf ρ1 H1 -> va.lt H1.nx -> (Gp va H1 fun ys => Kj xs ys m fun m => w.s N Ss Q m H1) -> ∃ t ys, cv ρ1 va = .ref t /\ Za ρ1 H1 t = some (.tup ys) /\ l.length = ys.length /\
   ∀ ml', (∀ y, ml'.lookup y = (putN (l.map (·.1)) ys ml).lookup y) -> JX B A env χ (execs rest env) (KX sc env χ ρ N Q) E ml' (Za ρ1 H1) := fun ρ1 H1 va l1 x1 W1 v1 z => by
  (refine rE z ?_; rintro j rfl z1)
  refine kE z1 fun ob t1 z2 => ?_
  (refine Zb (Zgt z2) ?_; rintro ys rfl z3)
  have C1 := C.next l1 x1 W1
  (refine Zg (Zdg hl1 hl2 hl3 (W1.olt t1) C1.fm C1.lt z3) fun e1 zr => ?_; obtain ⟨m', g1, g2, g3⟩ := zr)
  refine Vw (ρ1 j) (ys.map (cv ρ1)) rfl (W1.look t1) (by rw [List.length_map]; exact e1) (fun ml' hm => ?_)
  exact JX.up (S.s _ _ _ _ hr _ _ _ _ _ _ _ _ _ _ ⟨C.ok, g2.congr hm, g3, W1, C.room, C.calm⟩ (Nat.le_trans hN l1) g1) (Nat.le_refl _) (x1.le hN)
 cases r with
 | none =>
  refine Zvw C.ok.F hh hloc (J.mono J1 ?_) (Gz hcomp) hst
  refine KP.all fun ρ1 H1 va l1 x1 W1 v1 z => ?_
  refine Hw (after ρ1 H1 va l1 x1 W1 v1 z) fun t ys g1 g2 g3 g4 => ?_
  exact Vw t ys g1 g2 g3 (g4 _ fun _ => rfl)
 | some ns =>
  (refine Xs (Ydp hsw) ?_; rintro rfl u2 u3 u4)
  have hlen : (Wx l).length = l.length := by unfold Wx; rw [List.length_map]
  rw [hlen] at u2 u3
  have hns := Zkx u3
  rw [hns] at hst u4
  refine Zvx C.ok.F hh (fun x hx => by (refine Zb (List.mem_map.mp hx) ?_; rintro q hq rfl); exact hloc q hq) (J.mono J1 ?_) (Gz hcomp) hst
  refine KP.all fun ρ1 H1 va l1 x1 W1 v1 z => ?_
  refine Hw (after ρ1 H1 va l1 x1 W1 v1 z) fun t ys g1 g2 g3 g4 => ?_
  exact Vw t ys g1 g2 (by rw [List.length_map]; exact g3) (g4 _ (Ydn (by rw [List.length_map]; exact g3) (by rw [List.length_map]; exact u2) u4))
inductive FInv (sc : Sc) (env : Env) (χ : St) (ρ1 : Nat -> Addr) (H1 : Hp) (L : List V -> Fm -> Hp -> Prop) (xs : List V) (i : Nat) (ml : Zc) (σ : St) : Prop
 | mk (ρ' : Nat -> Addr) (H' : Hp) (m : Fm) (le : H1.nx <= H'.nx) (ext : Ext H1.nx ρ1 ρ') (wf : Wf ρ' H') (fm : FmR sc env χ ml ρ' m) (lt : FmL m H'.nx) (hs : Sub (Za ρ' H') σ) (q : L (xs.drop i) m H') : FInv sc env χ ρ1 H1 L xs i ml σ
theorem Zky (O : B.Ok) {target : Expr} {bs : List Stmt} {bS : List Ab.S} {rg : Bool} {i : Ab.E} {put : V -> Fm -> Hp -> (Fm -> Prop) -> Prop} (S : SndS B w n c) (C : Ctx sc A env χ ml ρ m H n c) (hN : N <= H.nx) (hset : Qt it = false) (h : He sc (Zf k sc) it = some (rg, i)) (hb : Zq (Wu k sc) bs = some bS) (hr : Zq (Wu k' sc) rest = some Ss)
   (hput : ∀ A ml ρ m H (v : V) K (E : Value -> Shared -> Prop) (Q : Unit -> Zc -> St -> Prop) (u : Value), Ctx sc A env χ ml ρ m H n c -> v.lt H.nx -> er u = cv ρ v -> put v m H K -> (∀ ml' m', FmR sc env χ ml' ρ m' -> FmL m' H.nx -> K m' -> Q () ml' (Za ρ H)) -> JS B A env.locals χ (_root_.id : Unit -> Unit) (assign target env u) Q E ml (Za ρ H))
   (hw : Hc c w rg i (fun chk xs H => Oe chk put (fun Q m H' => w.s H.nx bS Q m H') (Xj (w.s N Ss Q) Q) xs m H) m H) : JX B A env χ (execs (.For target it bs [] p :: rest) env) (KX sc env χ ρ N Q) E ml (Za ρ H) := by
 refine Zvu (J.mono (Zde O S.toSnd C h hw) ?_) fun v => fold_ok hset
 rintro v σ₁ ⟨ρ1, H1, chk, xs, l1, x1, W1, v1, q, hz, hsub, src, iv, hsrc⟩
 have C1 := C.next l1 x1 W1
 refine ⟨xs.length, _, src, iv, FInv sc env χ ρ1 H1 (Oe chk put (fun Q m H' => w.s H1.nx bS Q m H') (Xj (w.s N Ss Q) Q)) xs, ⟨ρ1, H1, m, Nat.le_refl _, Ext.rfl, W1, C1.fm, C1.lt, hsub, q⟩, ?_, fun j hlt => ?_, ?_⟩
 · rintro j ml' σ' ⟨ρ', H', m', l2, x2, W2, f2, t2, hs', q⟩
   refine hsrc ρ' H' σ' x2 W2 ?_ hs'
   cases z : xs.drop j with
   | nil => rw [z] at q; exact q.1
   | cons => rw [z] at q; exact q.1
 · rintro ml' σ' ⟨ρ', H', m', l2, x2, W2, f2, t2, hs', q⟩ u hu E
   obtain ⟨v, hv⟩ : ∃ v, xs[j]? = some v := ⟨_, List.getElem?_eq_getElem hlt⟩
   have hdrop : xs.drop j = v :: xs.drop (j + 1) := by
     rw [List.drop_eq_getElem_cons hlt]; congr 1
     exact Option.some.inj ((List.getElem?_eq_getElem hlt).symm.trans hv)
   have hget : xs.getD j .none = v := by rw [List.getD_eq_getElem?_getD, hv]; rfl
   have hvl : v.lt H1.nx := v1 v (List.mem_of_getElem? hv)
   rw [hdrop] at q
   have hu : er u = cv ρ1 (xs.getD j .none) := hu
   rw [hget, <- Ys x2 hvl] at hu
   (refine Zg q ?_; clear q; intro _ q)
   refine JS.sub hs' (hput A ml' ρ' m' H' v _ E _ u ⟨C.ok, f2, t2, W2, C.room, C.calm⟩ (hvl.le l2) hu q fun ml2 m2 f3 t3 q => ?_)
   refine JS.mono (S.s _ _ _ _ hb _ _ _ _ _ _ _ _ _ _ ⟨C.ok, f3, t3, W2, C.room, C.calm⟩ l2 q) ?_
   rintro fl ml3 σ3 ⟨ρ3, H3, m3, f, l3, x3, W3, f4, t4, hf, hwk, q⟩
   cases f with
   | nx =>
     have hf : fl = .next := hf
     subst hf
     exact ⟨_, hwk, ρ3, H3, m3, l3, x2.trans x3 (Nat.le_refl _), W3, f4, t4, fun _ _ h => h, q⟩
   | ret v =>
     (refine Zg hf ?_; clear hf; intro hf hv)
     subst hf
     exact ⟨ρ3, H3, m3, .ret v, Nat.le_trans hN (Nat.le_trans l1 l3), ((x1.trans x2 l1).le hN).trans x3 (Nat.le_trans hN l1), W3, f4, t4, ⟨rfl, hv⟩, hwk, q⟩
 · rintro ml' σ' ⟨ρ', H', m', l2, x2, W2, f2, t2, hs', q⟩
   rw [List.drop_length] at q
   exact JS.sub hs' (JX.up (S.s _ _ _ _ hr _ _ _ _ _ _ _ _ _ _ ⟨C.ok, f2, t2, W2, C.room, C.calm⟩ (Nat.le_trans hN (Nat.le_trans l1 l2)) q.2) (Nat.le_refl _) ((x1.trans x2 l1).le hN))
theorem Yds {y : Str} {q : Pos} {xi : Nat} (hy : sc.lookup y = some .local) (hi : Zw y = some xi) : ∀ A ml ρ m H (v : V) K (E : Value -> Shared -> Prop) (Q : Unit -> Zc -> St -> Prop) (u : Value), Ctx sc A env χ ml ρ m H n c -> v.lt H.nx -> er u = cv ρ v -> (Ww xi v m K) -> (∀ ml' m', FmR sc env χ ml' ρ m' -> FmL m' H.nx -> K m' -> Q () ml' (Za ρ H)) -> JS B A env.locals χ (_root_.id : Unit -> Unit) (assign (.Name y q) env u) Q E ml (Za ρ H) := by
 intro A ml ρ m H v K E Q u C hv hu h k
 rw [Ju] at h
 have C' := C.put hy hi hv
 refine Sq C.ok.F (C.ok.loc y hy) ?_
 rw [hu]
 exact k _ _ C'.fm C'.lt h
theorem Ydt {l : List (Str × Pos)} {kk : Nat} {q : Pos} {xs : List Nat} (hc : c = true) (h1 : ∀ q ∈ l, sc.lookup q.1 = some .local) (h2 : l.length = xs.length) (h3 : ∀ (i : Nat) (q : Str × Pos) (j : Nat), l[i]? = some q -> xs[i]? = some j -> Zw q.1 = some j) : ∀ A ml ρ m H (v : V) K (E : Value -> Shared -> Prop) (Q : Unit -> Zc -> St -> Prop) (u : Value), Ctx sc A env χ ml ρ m H n c -> v.lt H.nx -> er u = cv ρ v -> (Gp v H fun ys => Kj xs ys m K) -> (∀ ml' m', FmR sc env χ ml' ρ m' -> FmL m' H.nx -> K m' -> Q () ml' (Za ρ H)) -> JS B A env.locals χ (_root_.id : Unit -> Unit) (assign (.Tuple (Wx l) kk q) env u) Q E ml (Za ρ H) := by
 intro A ml ρ m H v K E Q u C hv hu h k
 (refine rE h ?_; rintro j rfl z1)
 refine kE z1 fun ob t1 z2 => ?_
 (refine Zb (Zgt z2) ?_; rintro ys rfl z3)
 (refine Zg (Zdg h1 h2 h3 (C.wf.olt t1) C.fm C.lt z3) fun e1 zr => ?_; obtain ⟨m', g1, g2, g3⟩ := zr)
 rw [Yc hu]
 exact Zhv C.ok.F (C.calm hc) (C.wf.look t1) (by rw [List.length_map]; exact e1) (fun q hq => C.ok.loc _ (h1 q hq)) (k _ _ g2 g3 g1)
theorem Zkz {m : Fm} (lt : FmL m n) : ∀ {ks : List Nat} {K : List V -> Prop}, Sg m ks K -> ∃ vs, K vs /\ ks.length = vs.length /\ Yt n vs /\ ∀ (i : Nat) (x : Nat) (v : V), ks[i]? = some x -> vs[i]? = some v -> Ze x m = some v
 | [], K, h => ⟨[], h, rfl, Tv, fun i x v h => by simp at h⟩
 | x :: r, K, h => by
  unfold Sg at h
  cases z : Ze x m with
  | none => rw [z] at h; exact False.elim h
  | some v =>
   rw [z] at h
   refine Vu (Zkz lt h) fun vs h1 h2 h3 h4 => ?_
   refine Vv (v :: vs) h1 (by rw [List.length_cons, List.length_cons, h2]) (fun u hu => (List.mem_cons.mp hu).elim (fun e => e ▸ lt x v z) (h3 u)) (fun i y u a b => ?_)
   cases i with
   | zero => (replace a := sI a; subst a); (replace b := sI b; subst b); exact z
   | succ i => exact h4 i y u a b
theorem Zla : ∀ {ks : List Nat} {us : List V} {x : Nat} {u : V}, Ze x (Gn ks us) = some u -> ∃ i : Nat, ks[i]? = some x /\ us[i]? = some u
 | [], us, x, u, h => by contradiction <;> cases h
 | k :: ks, [], x, u, h => by exact Zk h
 | k :: ks, v :: us, x, u, h => by
  have h : Ze x ((k, v) :: Gn ks us) = some u := h
  unfold Ze at h
  cases z : Nat.beq k x with
  | true => rw [z] at h; (replace h := sI h; subst h); exact Zp 0 (by rw [Wn z]; rfl) rfl
  | false =>
   rw [z] at h
   refine Zb (Zla h) fun i h1 h2 => ?_
   exact Zp (i + 1) h1 h2
theorem Zlb : ∀ {N i : Nat} {sel : List Nat}, Qe N i sel = true -> ∀ j, j < N -> sel[j]? = some (i + j)
 | 0, i, sel, h, j, hj => absurd hj (Nat.not_lt_zero _)
 | N + 1, i, [], h, j, hj => by exact Yb h
 | N + 1, i, a :: r, h, j, hj => by
  refine aE (show (Nat.beq a i && Qe N (i + 1) r) = true from h) fun h1 h2 => ?_
  cases j with
  | zero => rw [Wn h1]; rfl
  | succ j =>
   have := Zlb h2 j (Nat.lt_of_succ_lt_succ hj)
   show r[j]? = _
   rw [this]; congr 1; exact gq (M0 (N2 _ _) V0 (.a (.a nA kI) nB) (.a nA (.a nB kI)) rfl)
theorem Ydu {N : Nat} {sel : List Nat} (h : Qe N 0 sel = true) : N <= sel.length /\ Ext N ρ (Wy ρ sel) := by
 have g := Zlb h
 refine ⟨?_, fun i hi => ?_⟩
 · cases N with
   | zero => exact Nat.zero_le _
   | succ N => exact Ko (g N (Nat.lt_succ_self _))
 · have := g i hi
   rw [Nat.zero_add] at this
   exact Hk this
theorem Zlc {sel : List Nat} {dr : List (Nat × Dr)} {vs : List V} {K : List V -> Hp -> Prop} (W : Wf ρ H) (hv : Yt H.nx vs) (hb : Qe N 0 sel = true) (h : Jd sel dr vs H K) :
  ∃ us H', K us H' /\ N <= H'.nx /\ Ext N ρ (Wy ρ sel) /\ Wf (Wy ρ sel) H' /\ Yt H'.nx us /\ us.map (cv (Wy ρ sel)) = vs.map (cv ρ) /\ Wk (Za (Wy ρ sel) H') (Za ρ H) := by
 refine Zei (Zjs W hv h) fun us hp g1 g2 g3 g4 g5 g6 g7 g8 => ?_
 refine Zg (Ydu (ρ := ρ) hb) fun b1 b2 => ?_
 refine Zg (Zjt W g3 g8) fun d hwk => ?_
 refine Znm us hp g1 (g2 ▸ b1) b2 g3 g4 g5 (fun a o e => hwk a o (Zn e))
theorem Ydv {ks sel : List Nat} {dr : List (Nat × Dr)} {K : Fm -> Hp -> Prop} (fm : FmR sc env χ ml ρ m) (lt : FmL m H.nx) (W : Wf ρ H) (h : Zgv N m H ks sel dr K) :
   ∃ ρ' H' m', K m' H' /\ N <= H'.nx /\ Ext N ρ ρ' /\ Wf ρ' H' /\ FmR sc env χ ml ρ' m' /\ FmL m' H'.nx /\ Wk (Za ρ' H') (Za ρ H) := by
 (refine Zg h ?_; clear h; intro hb h)
 refine Vu (Zkz lt h) fun vs h1 h2 h3 h4 => ?_
 refine Zeg (Zlc W h3 hb h1) fun us H' g1 g2 g3 g4 g5 g6 g7 => ?_
 have rel : ∀ x u, Ze x (Gn ks us) = some u -> ∃ v, Ze x m = some v /\ cv (Wy ρ sel) u = cv ρ v /\ u.lt H'.nx := fun x u e => by
   refine Zb (Zla e) fun i e1 e2 => ?_
   have hi : i < vs.length := h2 ▸ Ko e1
   obtain ⟨v, hv⟩ : ∃ v, vs[i]? = some v := ⟨_, List.getElem?_eq_getElem hi⟩
   refine Yi v (h4 i x v e1 hv) ?_ (g5 u (List.mem_of_getElem? e2))
   have := congrArg (fun l => l[i]?) g6
   simp only [List.getElem?_map, e2, hv, Option.map_some] at this
   exact Option.some.inj this
 refine Zep (Wy ρ sel) H' (Gn ks us) g1 g2 g3 g4 ⟨fun x i u a b d => ?_, fun x i u a b d => ?_⟩ (fun x u d => (rel x u d).elim fun v z => z.2.2) g7
 · refine Yg (rel i u d) fun v e1 e2 _ => ?_
   rw [e2]; exact fm.loc x i v a b e1
 · refine Yg (rel i u d) fun v e1 e2 _ => ?_
   refine Yg (fm.cel x i v a b e1) fun c q1 q2 q3 => ?_
   exact Yi c q1 q2 (by rw [e2]; exact q3)
end Mine.Ab
end
noncomputable section
namespace Mine.Ab
variable {B : Bgd} {A : Around} {E : Value -> Shared -> Prop} {env : Env} {χ : St} {ml : Zc} {ρ ρ' : Nat -> Addr} {m : Fm} {H H' : Hp} {sc : Sc} {n N : Nat} {c : Bool} {w : Sys} {k k' : Nat}
variable {l r x y t b o it : Expr} {p : Pos} {e : Ab.E}
theorem Ydw (O : B.Ok) (S : Snd B w n c) : ∀ k sc elt gs s p e, Zf k sc (.ListComp elt gs s p) = some e -> ∀ A env χ ml ρ m H (Q : V -> Hp -> Prop) E y q q' rest Q', Ctx sc A env χ ml ρ m H (n + 1) c -> Yu T c w e Q m H -> env.kindOf y = some .local -> swapsWith (.ListComp elt gs s p) (some (.Name y q')) q.line env = pure true ->
   (∀ ρ1 H1 v, H.nx <= H1.nx -> Ext H.nx ρ ρ1 -> Wf ρ1 H1 -> v.lt H1.nx -> Q v H1 -> JX B A env χ (execs rest env) Q' E (Ym y (cv ρ1 v) ml) (Za ρ1 H1)) -> JX B A env χ (execs (.Assign [.Name y q'] (.ListComp elt gs s p) q :: rest) env) Q' E ml (Za ρ H)
 | 0, _, _, _, _, _, _, h => by exact Zk h
 | k + 1, sc, elt, gs, s, p, e, h => by
   intro A env χ ml ρ m H Q E y q q' rest Q' C hw hy hsw fin
   obtain @⟨x, px, it, ifs, xi, rg, i, a, d, hset, hk, hs, hx, hi, g1, g2, g3⟩ := Zkn h
   have C := C.dec
   have hw' : Hc c w rg i (fun chk xs H => Uu chk (fun v Q H => w.e a Q ((xi, v) :: m) H) (fun v Q H => w.e d Q ((xi, v) :: m) H) (fun acc H => Sl acc H fun a H => Q (.ref a) H) xs [] H) m H := hw
   refine Zwl C.ok.F (Zkq C.ok hs) (Zkr hs) hk (Zks hs) hx hy (J.mono (Zde O S C g1 hw') ?_) (fun v => fold_ok hset) hsw
   rintro v σ₁ ⟨ρ1, H1, chk, xs, l1, x1, W1, v1, q, hz, hsub, src, iv, hsrc⟩
   refine ⟨xs.length, _, src, iv, hz, CInv ρ1 H1 (Uu chk _ _ _) xs, ⟨ρ1, H1, [], Nat.le_refl _, Ext.rfl, W1, Tv, rfl, hsub, q⟩, ?_, fun i hlt => Zko S (C.next l1 x1 W1) hk hs hx hi g2 g3 v1 hlt, ?_⟩
   · rintro j acc σ' ⟨ρ', H', av, l2, x2, W2, v2, rfl, hs', q⟩
     refine hsrc ρ' H' σ' x2 W2 ?_ hs'
     cases z : xs.drop j with
     | nil => rw [z] at q; exact q.1
     | cons => rw [z] at q; exact q.1
   · rintro acc σ' ⟨ρ', H', av, l2, x2, W2, v2, rfl, hs', q⟩ D hD
     rw [List.drop_length] at q
     obtain ⟨ρ3, H3, u, l3, x3, W3, u3, e1, e2, q⟩ := Zkp W2 v2 q.2 (hs'.none hD)
     refine JS.sub (hs'.upd (o := .lst (av.map (cv ρ')))) ?_
     rw [e1, e2]
     exact fin ρ3 H3 u (Nat.le_trans l1 (Nat.le_trans l2 l3)) ((x1.trans x2 l1).trans x3 (Nat.le_trans l1 l2)) W3 u3 q
structure DefF (f : Nat) (F : Fn) (st : Stmt) (names : List Str) (cd : Addr) (n q pm : Str) (dV : Value) (t : Tok) (dvs : List Value) : Prop where
 hK : ∀ P : Params, (K P).lookup f = some (fo n q st dV pm t cd)
 hc : (cd, q) ∈ codes
 body : Uy st = some F.body
 ps : Zq Zw names = some F.ps
 nd : names.Nodup
 co : (Zi st).isCoroutine = false
 gen : (Zi st).isGenerator = false
 kind : (Zi st).kind = .function
 dfl : ∀ ρ : Nat -> Addr, dvs.map er = F.dfl.map (cv ρ)
 ltd : ∀ v ∈ F.dfl, v.lt 0
 one : F.dfl.length <= 1
 bind : ∀ us : List Value, us.length = names.length -> ∀ P (s : Shared), (K P).In s.heap -> BindsTo s (fnX n q (Xy st) (Yl st) (Zi st) [] dV .none .none (.str pm t) none (.ref cd) .none) ⟨us, []⟩ (names.zip us)
 bindD : ∀ us : List Value, us.length + 1 = names.length -> dvs.length = 1 -> ∀ P (s : Shared), (K P).In s.heap -> BindsTo s (fnX n q (Xy st) (Yl st) (Zi st) [] dV .none .none (.str pm t) none (.ref cd) .none) ⟨us, []⟩ (names.zip (us ++ dvs))
 cells : ((∀ x ∈ names, (Zi st).names.lookup x = some .local) /\ ∀ y ∈ (Zi st).names, y.2 ≠ .cell /\ y.2 ≠ .free) \/
  (F.dfl = [] /\ (∀ x ∈ names, (Zi st).names.lookup x = some .local \/ (Zi st).names.lookup x = some .cell) /\ (∀ y ∈ (Zi st).names, y.2 ≠ .free) /\ (∀ us : List Value, us.length = names.length -> bindArgs (fnX n q (Xy st) (Yl st) (Zi st) [] dV .none .none (.str pm t) none (.ref cd) .none) ⟨us, []⟩ = pure (names.zip us)) /\
   ∀ x, (Zi st).names.lookup x = some .cell -> x ∈ names)
theorem Zld : ∀ {ps : List Nat} {d vs : List V} {K : Fm -> Prop}, d.length <= 1 -> Gq ps d vs K -> ∃ ws, ws.length = ps.length /\ K (ps.zip ws) /\ ((vs.length = ps.length /\ ws = vs) \/ (d.length = 1 /\ vs.length + 1 = ps.length /\ ws = vs ++ d))
 | [], d, vs, K, hd, h => by
  (refine Zg (Xu h) ?_; clear h; rintro rfl h)
  exact Yi ([]) rfl h (.inl ⟨rfl, rfl⟩)
 | p :: ps, d, [], K, hd, h => by
  (refine Zg (Xu h) ?_; clear h; rintro rfl h)
  (refine Zb (Xn h) ?_; clear h; rintro v rfl h)
  exact Yi ([v]) rfl h (.inr ⟨rfl, rfl, rfl⟩)
 | p :: ps, d, v :: vs, K, hd, h => by
  refine Yg (Zld (ps := ps) hd h) fun ws h1 h2 h3 => ?_
  refine Yi (v :: ws) (by rw [List.length_cons, List.length_cons, h1]) h2 (h3.imp (fun ⟨a, b⟩ => ⟨by rw [List.length_cons, List.length_cons, a], by rw [b]⟩) fun ⟨a, b, c⟩ => ⟨a, by rw [List.length_cons, List.length_cons]; exact gq (M1 (N2 _ _) V0 1 (.a nA kI) nB (nq b) (.a (.a nA kI) kI) (.a nB kI) rfl), by rw [c]; rfl⟩)
theorem Zle {α : Type} {x : Str} {v : α} : ∀ {l : List (Str × α)}, (l.map (·.1)).Nodup -> (x, v) ∈ l -> l.lookup x = some v
 | [], _, h => absurd h (by simp)
 | (y, u) :: r, hn, h => by
   refine Zg (List.nodup_cons.mp hn) fun h1 h2 => ?_
   rcases List.mem_cons.mp h with e | e
   · cases e; simp
   · have : x ≠ y := fun z => h1 (by subst z; exact List.mem_map.mpr ⟨_, e, rfl⟩)
     simp only [List.lookup_cons, beq_eq_false_iff_ne.mpr this]
     exact Zle h2 e
theorem Zlf {α β : Type} : ∀ {l : List α} {r : List β}, l.length = r.length -> (l.zip r).map (·.1) = l
 | [], _, _ => rfl
 | a :: l, [], h => by contradiction
 | a :: l, b :: r, h => by rw [List.zip_cons_cons, List.map_cons, Zlf (Nat.succ.inj h)]
theorem Zdi {names : List Str} {ps : List Nat} {ws : List V} (hp : Zq Zw names = some ps) : ∀ {i : Nat} {x : Str} {v : V}, Zw x = some i -> Ze i (ps.zip ws) = some v -> (x, v) ∈ names.zip ws := by
 induction names generalizing ps ws with
 | nil => intro i x v h1 h2; (replace hp := sI hp; subst hp); exact Zk h2
 | cons y r ih =>
  intro i x v h1 h2
  (refine bE hp ?_; clear hp; intro j g1 hp)
  (refine bE hp ?_; clear hp; intro js g2 hp)
  (replace hp := sI hp; subst hp)
  cases ws with
  | nil => exact Zk h2
  | cons u us =>
   have h2 : Ze i ((j, u) :: js.zip us) = some v := h2
   unfold Ze at h2
   rw [List.zip_cons_cons]
   cases z : Nat.beq j i with
   | true =>
    rw [z] at h2; (replace h2 := sI h2; subst h2)
    rw [Wn z] at g1
    rw [Ve h1 g1]; exact .head _
   | false => rw [z] at h2; exact .tail _ (ih g2 h1 h2)
theorem Zlg {ps : List Nat} {ws : List V} (h : Yt n ws) : FmL (ps.zip ws) n := fun x v e => h v (List.of_mem_zip (Ue e)).2
theorem Zdj {names : List Str} : ∀ {ws : List V} {us : List Value} {x : Str} {v : V}, us.map er = ws.map (cv ρ) -> (x, v) ∈ names.zip ws -> ∃ u, (x, u) ∈ names.zip us /\ er u = cv ρ v := by
 induction names with
 | nil => intro ws us x v h hm; simp at hm
 | cons y r ih =>
   intro ws us x v h hm
   cases ws with
   | nil => simp at hm
   | cons a ws =>
     cases us with
     | nil => contradiction
     | cons b us =>
       refine Zg (List.cons.inj h) fun h1 h2 => ?_
       rw [List.zip_cons_cons] at hm ⊢
       rcases List.mem_cons.mp hm with e | e
       · cases e; exact Zp b (.head _) h1
       · refine Zb (ih h2 e) fun u g1 g2 => ?_
         exact Zp u (.tail _ g1) g2
theorem Zlh {kd : Str -> Option NameKind} {x : Str} {v : Value} (hk : kd x = some .local) : ∀ {bs : List (Str × Value)} {ml : Zc}, (bs.map (·.1)).Nodup -> (x, v) ∈ bs \/ ((∀ u, (x, u) ∉ bs) /\ ml.lookup x = some (er v)) -> (Uc kd bs ml).lookup x = some (er v)
 | [], ml, hn, h => h.elim (fun h => absurd h (by simp)) fun h => h.2
 | (y, u) :: r, ml, hn, h => by
   refine Zg (List.nodup_cons.mp hn) fun h1 h2 => ?_
   unfold Uc
   refine Zlh hk h2 ?_
   rcases h with h | ⟨h3, h4⟩
   · rcases List.mem_cons.mp h with e | e
     · cases e
       refine .inr ⟨fun u hu => h1 (List.mem_map.mpr ⟨_, hu, rfl⟩), ?_⟩
       rw [if_pos hk]; simp
     · exact .inl e
   · refine .inr ⟨fun u hu => h3 u (.tail _ hu), ?_⟩
     have hne : x ≠ y := fun z => h3 u (by subst z; exact .head _)
     split
     · simp only [List.lookup_cons, beq_eq_false_iff_ne.mpr hne]; exact h4
     · exact h4
theorem Zli {kd : Str -> Option NameKind} {x : Str} {v : Value} (hk : kd x ≠ some .local) : ∀ {bs : List (Str × Value)} {ml : Zc}, (bs.map (·.1)).Nodup -> (x, v) ∈ bs \/ ((∀ u, (x, u) ∉ bs) /\ ml.lookup x = some (er v)) -> (Xq kd bs ml).lookup x = some (er v)
 | [], ml, hn, h => h.elim (fun h => absurd h (by simp)) fun h => h.2
 | (y, u) :: r, ml, hn, h => by
   refine Zg (List.nodup_cons.mp hn) fun h1 h2 => ?_
   unfold Xq
   refine Zli hk h2 ?_
   rcases h with h | ⟨h3, h4⟩
   · rcases List.mem_cons.mp h with e | e
     · cases e
       refine .inr ⟨fun u hu => h1 (List.mem_map.mpr ⟨_, hu, rfl⟩), ?_⟩
       rw [if_neg hk]; simp
     · exact .inl e
   · refine .inr ⟨fun u hu => h3 u (.tail _ hu), ?_⟩
     have hne : x ≠ y := fun z => h3 u (by subst z; exact .head _)
     split
     · exact h4
     · simp only [List.lookup_cons, beq_eq_false_iff_ne.mpr hne]; exact h4
theorem Ydx {α : Type} {l : List α} (h : l.Nodup) : l.reverse.Nodup := List.pairwise_reverse.mpr (h.imp fun z => Ne.symm z)
theorem Zlj (O : B.Ok) {f : Nat} {F : Fn} {st : Stmt} {names : List Str} {cd : Addr} {nn q pm : Str} {dV : Value} {t : Tok} {dvs : List Value} (D : DefF f F st names cd nn q pm dV t dvs) (S : SndS B w n c) {vs : List V} {us : List Value} {Q : Fl -> Hp -> Prop} {P : Value -> St -> Prop} (W : Wf ρ H) (hv : Yt H.nx vs) (R : Room A (n + 1)) (hh : c = true -> A.handled = none)
   (h : Gq F.ps F.dfl vs fun m => w.s H.nx F.body (fun fl _ H' => Q fl H') m H) (hus : us.map er = vs.map (cv ρ))
   (post : ∀ ρ' H' fl v, H.nx <= H'.nx -> Ext H.nx ρ ρ' -> Wf ρ' H' -> flR ρ' H'.nx v fl -> Q fl H' -> ∃ σ', Wk σ' (Za ρ' H') /\ P (Te v) σ') : wC B A (.ref f) us P E (Za ρ H) := by
 refine Yg (Zld D.one h) fun ws hw1 hw2 hw3 => ?_
 have hps : F.ps.length = names.length := (Zkj D.ps).symm
 obtain ⟨ul, e1, e2, e4, e3⟩ : ∃ ul : List Value, ul.length = names.length /\ ul.map er = ws.map (cv ρ) /\ (F.dfl = [] -> ul = us) /\ (∀ P (s : Shared), (K P).In s.heap -> BindsTo s (fnX nn q (Xy st) (Yl st) (Zi st) [] dV .none .none (.str pm t) none (.ref cd) .none) ⟨us, []⟩ (names.zip ul)) := by
   have hlen : us.length = vs.length := by simpa using congrArg List.length hus
   rcases hw3 with ⟨h1, rfl⟩ | ⟨h0, h1, rfl⟩
   · exact Vv us (by rw [hlen, h1, hps]) hus (fun _ => rfl) (D.bind us (by rw [hlen, h1, hps]))
   · have hd := D.dfl ρ
     have hdl : dvs.length = 1 := by have := congrArg List.length hd; simpa [h0] using this
     exact Vv (us ++ dvs) (by rw [List.length_append, hdl, hlen, h1, hps]) (by rw [List.map_append, List.map_append, hus, hd]) (fun z => (by rw [z] at h0; contradiction)) (D.bindD us (by rw [hlen, h1, hps]) hdl)
 have hwl : Yt H.nx ws := by
   rcases hw3 with ⟨_, rfl⟩ | ⟨_, _, rfl⟩
   · exact hv
   · exact Zac hv fun v hv => (D.ltd v hv).le (Nat.zero_le _)
 have hnd : ((names.zip ul).map (·.1)).Nodup := by rw [Zlf e1.symm]; exact D.nd
 have hbody : Zq (Wu 60 (Zi st).names) (Yl st) = some F.body := D.body
 have conv : ∀ {env : Env} {χ : St} (fl : Flow) (m' : Zc) (τ : St), KX (Zi st).names env χ ρ H.nx (fun fl _ H' => Q fl H') fl m' τ -> ∃ σc, Wk σc τ /\ P (Te fl) σc := fun fl m' τ ⟨ρ', H', m2, f2, l2, x2, W2, _, _, hf, hwk, q⟩ => by
   refine Zb (post ρ' H' f2 fl l2 x2 W2 hf q) fun σ' g1 g2 => ?_
   refine Zp σ' (fun a o e => ?_) g2
   refine Zb (g1 a o e) fun p1 p2 p3 => ?_
   refine Zb (hwk a p1 p2) fun q1 q2 q3 => ?_
   refine Zp q1 q2 ?_
   rcases q3 with rfl | ⟨i1, i2, i3, i4⟩
   · exact p3
   · rcases p3 with rfl | ⟨j1, j2, j3, j4⟩
     · exact .inr ⟨i1, i2, i3, i4⟩
     · exact .inr ⟨i1, i2, j3, fun w h δ a z => j4 w h δ a (i4 w h δ a z)⟩
 rcases D.cells with ⟨hloc, hnc⟩ | ⟨hd0, hkd, hnf, hba, hcn⟩
 · refine Zrg (k := n) O R D.hK D.hc (names.zip ul) (fun s X => e3 _ s X) (fun y hy => hloc _ (List.of_mem_zip hy).1) (fun E L hL => ?_) (fun y hy => (hnc y hy).1) D.co D.gen D.kind
   have ok : EnvOk (Zi st).names (envX q (Zi st) L f (.ref cd) []) := ⟨⟨D.kind, rfl, rfl⟩, fun x h => h, fun x h => by
     rcases h with h | h
     · exact absurd rfl (hnc _ (mem_of_lookup h)).1
     · exact absurd rfl (hnc _ (mem_of_lookup h)).2, fun x h => h⟩
   have fm : FmR (Zi st).names (envX q (Zi st) L f (.ref cd) []) (fun _ => none) ((names.zip ul).map fun b => (b.1, er b.2)).reverse ρ (F.ps.zip ws) := ⟨fun x i v h1 h2 h3 => by
     refine Zb (Zdj e2 (Zdi D.ps h2 h3)) fun u g1 g2 => ?_
     rw [<- g2]
     refine Zle ?_ (List.mem_reverse.mpr (List.mem_map.mpr ⟨(x, u), g1, rfl⟩))
     rw [List.map_reverse, List.map_map]
     exact Ydx hnd, fun x i v h1 => by
     rcases h1 with h | h
     · exact absurd rfl (hnc _ (mem_of_lookup h)).1
     · exact absurd rfl (hnc _ (mem_of_lookup h)).2⟩
   exact JS.mono (S.s _ _ _ _ hbody (A.deeper (envX q (Zi st) L f (.ref cd) [])) _ _ _ _ _ _ _ _ _ ⟨ok, fm, Zlg hwl, W, R.deeper _, hh⟩ (Nat.le_refl _) hw2) fun fl m' τ z => conv fl m' τ z
 · have hul := e4 hd0
   subst hul
   refine Zwq (k := n) O R D.hK D.hc (names.zip ul) (hba ul e1) (fun y hy => hkd _ (List.of_mem_zip hy).1) (fun E L χ env F' hsc hL hcel hsome hne hχ hσ => ?_) D.co D.gen D.kind
   subst hL
   have hko : ∀ x, env.kindOf x = (Zi st).names.lookup x := fun x => by rw [<- hsc]; rfl
   have ok : EnvOk (Zi st).names env := ⟨F', fun x h => by rw [hko]; exact h, fun x h => by
     rcases h with h | h
     · exact ⟨by rw [hko]; exact h, hsome x (mem_of_lookup h)⟩
     · exact absurd rfl (hnf _ (mem_of_lookup h)), fun x h => by rw [hko]; exact h⟩
   have fm : FmR (Zi st).names env χ (Uc (kO st) (names.zip ul) []) ρ (F.ps.zip ws) := ⟨fun x i v h1 h2 h3 => by
     refine Zb (Zdj e2 (Zdi D.ps h2 h3)) fun u g1 g2 => ?_
     rw [<- g2]
     exact Zlh h1 hnd (.inl g1), fun x i v h1 h2 h3 => by
     have h1 : (Zi st).names.lookup x = some .cell := h1.elim (fun h => h) fun h => absurd rfl (hnf _ (mem_of_lookup h))
     refine Zb (Zdj e2 (Zdi D.ps h2 h3)) fun u g1 g2 => ?_
     refine Xg (Option.isSome_iff_exists.mp (hsome x (mem_of_lookup h1))) fun a ha => ?_
     refine Yi a (hne x a ha) ha ?_
     rw [hcel x a ha, <- g2]
     exact congrArg (fun z => some (AO.cell z)) (Zli (by show (Zi st).names.lookup x ≠ _; rw [h1]; decide) hnd (.inl g1))⟩
   exact JS.mono (S.s _ _ _ _ hbody (A.deeper env) _ _ _ _ _ _ _ _ _ ⟨ok, fm, Zlg hwl, W, R.deeper _, hh⟩ (Nat.le_refl _) hw2) fun fl m' τ z => conv fl m' τ z
end Mine.Ab
end
noncomputable section
namespace Mine.Ab
variable {B : Bgd} {A : Around} {E : Value -> Shared -> Prop} {env : Env} {χ : St} {ml : Zc} {ρ ρ' : Nat -> Addr} {m : Fm} {H H' : Hp} {sc : Sc} {n N : Nat} {c : Bool} {w : Sys} {k k' : Nat}
variable {l r x y t b o it : Expr} {p : Pos} {e : Ab.E}
noncomputable def Oa : Prop := ∀ f F, T.fn f = some F -> ∃ st names cd n q pm dV t dvs, DefF f F st names cd n q pm dV t dvs
theorem ret_of {fl : Fl} {v : Flow} {n : Nat} (h : flR ρ n v fl) : Te v = cv ρ (Je fl) /\ (Je fl).lt n := by
 cases fl with
 | nx => have h : v = .next := h; subst h; exact ⟨rfl, trivial⟩
 | ret u => (refine Zg h ?_; clear h; intro h1 h2); subst h1; exact ⟨rfl, h2⟩
theorem Ydy (O : B.Ok) (AF : Oa) (S : SndS B w n c) {f : Nat} {vs : List V} {us : List Value} {P : V -> Hp -> Prop} (W : Wf ρ H) (hv : Yt H.nx vs) (R : Room A (n + 1)) (hh : c = true -> A.handled = none) (hr : Run T w f vs H P) (hus : us.map er = vs.map (cv ρ)) : wC B A (.ref f) us (KV ρ H.nx P) E (Za ρ H) := by
 obtain ⟨hr⟩ := hr
 cases z : T.fn f with
 | none => rw [z] at hr; exact False.elim hr
 | some F =>
  rw [z] at hr
  obtain ⟨n0, ob⟩ := H
  refine Zek (AF f F z) fun st names cd nn q pm dV t dvs D => ?_
  refine Zlj O D S W hv R hh (Q := fun fl h' => ∃ sel dr, Qe n0 0 sel = true /\ Jd sel dr [Je fl] h' fun us h'' => match us with
   | [v] => P v h''
   | _ => False) hr hus ?_
  rintro ρ' H' fl v l1 x1 W1 hf ⟨sel, dr, hb, q⟩
  refine Zg (ret_of hf) fun e1 e2 => ?_
  refine Zeg (Zlc W1 (Tw e2) hb q) fun us' H2 g1 g2 g3 g4 g5 g6 g7 => ?_
  cases us' with
  | nil => exact False.elim g1
  | cons u us' =>
   cases us' with
   | nil =>
    refine ⟨_, g7, _, H2, u, g2, x1.trans g3 (Nat.le_refl _), g4, g5 u (.head _), ?_, rfl, g1⟩
    rw [e1]
    exact (List.cons.inj g6).1.symm
   | cons => exact False.elim g1
theorem Ydz (O : B.Ok) (AF : Oa) (S : SndS B w n c) {f : Nat} {vs : List V} {us : List Value} {Q : V -> Hp -> Prop} (W : Wf ρ H) (hv : Yt H.nx vs) (R : Room A (n + 1)) (hh : c = true -> A.handled = none) (hr : callD T w f vs Q H) (hus : us.map er = vs.map (cv ρ)) : wC B A (.ref f) us (KV ρ H.nx Q) E (Za ρ H) := by
 obtain ⟨sel, dr, h⟩ := hr
 refine Zei (Zjs W hv h) fun vs' hp g1 g2 g3 g4 g5 g6 g7 g8 => ?_
 refine Zg (Zjt W g3 g8) fun d hwk => ?_
 have base := Ydy (E := E) O AF S g3 g4 R hh g1 (hus.trans g5.symm)
 refine Zrf hwk (Zfo (Zre d base) ?_)
 rintro v τ ⟨σ', d', rfl, ρ1, H1, u, l1, x1, W1, u1, rfl, rfl, q⟩
 rw [g2] at l1 x1
 refine Zej (Yau W g6 g7 W1 x1 l1 u1 d' q) fun ρ' H'' u' q1 q2 q3 q4 q5 q6 q7 => ?_
 exact ⟨_, q6.wk, ρ', H'', u', q1, q2, q3, q4, q5, rfl, q7⟩
theorem Yea (O : B.Ok) (AF : Oa) (S : SndS B w n c) : ∀ f vs A ρ H Q us E, Wf ρ H -> Yt H.nx vs -> Room A (n + 1) -> (c = true -> A.handled = none) -> Zbz T w f vs Q H -> Yj us = vs.map (cv ρ) -> wC B A (.ref f) us (KV ρ H.nx Q) E (Za ρ H) := by
 intro f vs A ρ H Q us E W hv R hh h hus
 unfold Zbz at h
 cases z0 : T.wk f with
 | true => rw [z0] at h; exact Ydz O AF S W hv R hh h hus
 | false =>
  rw [z0] at h
  dsimp only at h
  cases z : T.fn f with
  | none => rw [z] at h; exact False.elim h
  | some F =>
   rw [z] at h
   obtain ⟨n0, ob⟩ := H
   refine Zek (AF f F z) fun st names cd nn q pm dV t dvs D => ?_
   refine Zlj O D S W hv R hh (Q := fun fl h' => Q (Je fl) h') h hus ?_
   intro ρ' H' fl v l1 x1 W1 hf q
   refine Zg (ret_of hf) fun e1 e2 => ?_
   exact ⟨_, Zku, ρ', H', Je fl, l1, x1, W1, e2, e1, rfl, q⟩
section
variable {Q : Fl -> Fm -> Hp -> Prop} {rest : List Stmt} {Ss : List Ab.S}
theorem Yeb {bs : List Stmt} {bS : List Ab.S} {d : Ab.E} (IH : ∀ j, j <= n -> SndS B (W T j c) j c) (C : Ctx sc A env χ ml ρ m H (n + 1) c) (hN : N <= H.nx) (ht : Zf k sc t = some d) (hb : Zq (Wu k sc) bs = some bS) (hr : Zq (Wu k' sc) rest = some Ss)
   (hw : (W T (n + 1) c).s N (.whl d bS :: Ss) Q m H) : JX B A env χ (execs (.While t bs [] p :: rest) env) (KX sc env χ ρ N Q) E ml (Za ρ H) := by
 refine Zvy (fun j ml' σ' => j <= n + 1 /\ ∃ ρ' H' m', N <= H'.nx /\ Ext N ρ ρ' /\ Wf ρ' H' /\ FmR sc env χ ml' ρ' m' /\ FmL m' H'.nx /\ σ' = Za ρ' H' /\ (W T j c).s N (.whl d bS :: Ss) Q m' H') (n + 1) ⟨Nat.le_refl _, ρ, H, m, hN, Ext.rfl, C.wf, C.fm, C.lt, rfl, hw⟩ ?_
 rintro j ml' σ' ⟨hj, ρ1, H1, m1, l1, x1, W1, f1, t1, rfl, q⟩ E
 cases j with
 | zero => exact False.elim q
 | succ j =>
   have S := IH j (Nat.le_of_succ_le_succ hj)
   (refine Znf q ?_; clear q; intro ks sel dr q)
   (refine Zej (Ydv f1 t1 W1 q) ?_; clear q; intro ρ2 H2 m2 q l2 x2 W2 f2 t2 hwk)
   have C2 : Ctx sc A env χ ml' ρ2 m2 H2 j c := ⟨C.ok, f2, t2, W2, C.room.le (Nat.le_of_succ_le hj), C.calm⟩
   refine J.weak hwk (J.mono (S.t _ _ _ _ ht _ _ _ _ _ _ _ (fun x H => br x ((W T j c).s N bS (Xj ((W T j c).s N (.whl d bS :: Ss) Q) Q) m2 H) ((W T j c).s N Ss Q m2 H)) E C2 q) ?_)
   refine KB.all fun ρ3 H3 g l3 x3 W3 _ q => ?_
   have C3 := C2.next l3 x3 W3
   have e3 : Ext N ρ ρ3 := (x1.trans x2 (Nat.le_refl _)).trans (x3.le l2) (Nat.le_refl _)
   have n3 : N <= H3.nx := Nat.le_trans l2 l3
   refine ⟨fun e => ?_, fun e => ?_⟩
   · refine JS.mono (S.s _ _ _ _ hb _ _ _ _ _ _ _ _ _ _ C3 n3 (Qc q e)) ?_
     rintro fl ml4 σ4 ⟨ρ4, H4, m4, f, l4, x4, W4, f4, t4, hf, hwk4, q⟩
     cases f with
     | nx =>
       have hf : fl = .next := hf
       subst hf
       exact ⟨j, Nat.lt_succ_self _, _, hwk4, Nat.le_of_succ_le hj, ρ4, H4, m4, l4, e3.trans x4 (Nat.le_refl _), W4, f4, t4, rfl, q⟩
     | ret v =>
       (refine Zg hf ?_; clear hf; intro hf hv)
       subst hf
       exact ⟨ρ4, H4, m4, .ret v, l4, e3.trans x4 (Nat.le_refl _), W4, f4, t4, ⟨rfl, hv⟩, hwk4, q⟩
   · exact JX.up (S.s _ _ _ _ hr _ _ _ _ _ _ _ _ _ _ C3 n3 (Qd q e)) (Nat.le_refl _) e3
end
end Mine.Ab
end
noncomputable section
namespace Mine.Ab
variable {B : Bgd} {A : Around} {E : Value -> Shared -> Prop} {env : Env} {χ : St} {ml : Zc} {ρ ρ' : Nat -> Addr} {m : Fm} {H H' : Hp} {sc : Sc} {n N : Nat} {c : Bool} {w : Sys} {k k' : Nat}
variable {l r x y t b o it : Expr} {p : Pos} {e : Ab.E}
theorem Yec {f : Expr -> Option Ab.E} {bs : List Stmt} {hs : List ExceptHandler} {s : Ab.S} (h : Zil sc f bs hs = some s) : ∃ e d, s = .tri e d := by
 cases bs with
 | nil => exact Zk h
 | cons s bs =>
  (refine gE h ?_; clear h; intro _ h)
  cases s with
  | Expr e q =>
   (refine bE h ?_; clear h; intro e' _ h)
   cases hs with
   | nil => exact Zk h
   | cons hd hs =>
    (refine gE h ?_; clear h; intro _ h)
    (refine bE h ?_; clear h; intro d _ h)
    (replace h := sI h; subst h)
    exact Hx _ _ rfl
  | _ => exact Zk h
inductive AsgI (sc : Sc) (f : Expr -> Option Ab.E) (v : Expr) : Expr -> Ab.S -> Prop
 | nm {y q xi e} (h1 : sc.lookup y = some .local) (h2 : Zw y = some xi) (h3 : f v = some e) : AsgI sc f v (.Name y q) (.asg xi e)
 | tp {ts kk q xs e} (h1 : Hd v = false) (h2 : Jf (Hf ts v) = true) (h3 : Zq (Qu sc) ts = some xs) (h4 : f v = some e) : AsgI sc f v (.Tuple ts kk q) (.asgT xs e)
 | af {o nn q o' i e} (h1 : f o = some o') (h2 : Zw nn = some i) (h3 : f v = some e) : AsgI sc f v (.Attribute o nn q) (.setf o' i e)
 | sl {o lo up q q' o' l u e} (h1 : f o = some o') (h2 : Qg f lo = some l) (h3 : Qg f up = some u) (h4 : f v = some e) : AsgI sc f v (.Subscript o (.Slice lo up none q') q) (.sets o' l u e)
 | su {o i q o' i' e} (h1 : f o = some o') (h2 : f i = some i') (h3 : f v = some e) : AsgI sc f v (.Subscript o i q) (.seti o' i' e)
theorem Yed {f : Expr -> Option Ab.E} {t v : Expr} {s : Ab.S} (h : Zik sc f t v = some s) : AsgI sc f v t s := by
 cases t with
 | Name y q =>
  (refine bE h ?_; clear h; intro xi h1 h)
  (refine bE h ?_; clear h; intro e h2 h)
  refine gE h1 fun g1 g2 => ?_
  rw [<- sI h]; exact .nm (Ux g1) g2 h2
 | Tuple ts kk q =>
  (refine gE h ?_; clear h; intro h0 h)
  (refine bE h ?_; clear h; intro xs h1 h)
  (refine bE h ?_; clear h; intro e h2 h)
  refine aE h0 fun g1 g2 => ?_
  rw [<- sI h]; exact .tp (Qw g1) g2 h1 h2
 | Attribute o nn q =>
  (refine bE h ?_; clear h; intro o' h1 h)
  (refine bE h ?_; clear h; intro i h2 h)
  (refine bE h ?_; clear h; intro e h3 h)
  rw [<- sI h]; exact .af h1 h2 h3
 | Subscript o i q =>
  have plain : (bO (f o) fun o => bO (f i) fun i => bO (f v) fun e => some (S.seti o i e)) = some s -> AsgI sc f v (.Subscript o i q) s := fun h => by
   (refine bE h ?_; clear h; intro o' h1 h)
   (refine bE h ?_; clear h; intro i' h2 h)
   (refine bE h ?_; clear h; intro e h3 h)
   rw [<- sI h]; exact .su h1 h2 h3
  cases i with
  | Slice lo up st q' =>
   (refine gE h ?_; clear h; intro h0 h)
   (refine bE h ?_; clear h; intro o' h1 h)
   (refine bE h ?_; clear h; intro l h2 h)
   (refine bE h ?_; clear h; intro u h3 h)
   (refine bE h ?_; clear h; intro e h4 h)
   cases st with
   | none => rw [<- sI h]; exact .sl h1 h2 h3 h4
   | some => exact Yb h0
  | _ => exact plain h
 | _ => exact Zk h
theorem Yee (O : B.Ok) (IH : ∀ j, j <= n -> SndS B (W T j c) j c) : ∀ k sc ss Ss, Zq (Wu k sc) ss = some Ss -> ∀ A env χ ml ρ m H N Q E, Ctx sc A env χ ml ρ m H (n + 1) c -> N <= H.nx -> (W T (n + 1) c).s N Ss Q m H -> JX B A env χ (execs ss env) (KX sc env χ ρ N Q) E ml (Za ρ H) := by
 intro k sc ss Ss h A env χ ml ρ m H N Q E C hN hw
 have S := IH n (Nat.le_refl _)
 have D := C.dec
 cases ss with
 | nil => (replace h := sI h; subst h); exact Ydl C hN hw
 | cons s rest =>
  (refine bE h ?_; clear h; intro s' hs h)
  (refine bE h ?_; clear h; intro rs hr h)
  (replace h := sI h; subst h)
  cases k with
  | zero => exact Zk hs
  | succ k =>
   cases s with
   | Assign ts v q =>
    cases ts with
    | nil => exact Zk hs
    | cons t ts =>
     (refine gE hs ?_; clear hs; intro g0 hs)
     have := Og g0
     subst this
     cases Yed hs with
     | nm h1 h2 h3 => exact Ydd S D hN h1 h2 h3 hr hw
     | tp h1 h2 h3 h4 =>
      (refine Zg (Uf hw) ?_; clear hw; intro h0 hw)
      exact Ydr S D hN (C.calm h0) h1 h2 h3 h4 hr hw
     | af h1 h2 h3 => exact Ydf O S D hN h2 h3 h1 hr hw
     | sl h1 h2 h3 h4 => exact Ydh S D hN h4 h1 h2 h3 hr hw
     | su h1 h2 h3 => exact Ydg S D hN h3 h1 h2 hr hw
   | Expr v q =>
    (refine gE hs ?_; clear hs; intro g0 hs)
    (refine bE hs ?_; clear hs; intro e g1 hs)
    (replace hs := sI hs; subst hs)
    exact Ydi S D hN (Qw g0) g1 hr hw
   | Return v q =>
    cases v with
    | none => (replace hs := sI hs; subst hs); exact Ydk D hN hw
    | some v =>
     (refine bE hs ?_; clear hs; intro e g1 hs)
     (replace hs := sI hs; subst hs)
     exact Ydj S D hN g1 hw
   | If t b o q =>
    (refine bE hs ?_; clear hs; intro t' g1 hs)
    (refine bE hs ?_; clear hs; intro b' g2 hs)
    (refine bE hs ?_; clear hs; intro o' g3 hs)
    (replace hs := sI hs; subst hs)
    exact Ydm (k := k) S D hN g1 g2 g3 hr hw
   | While t b o q =>
    (refine gE hs ?_; clear hs; intro g0 hs)
    (refine bE hs ?_; clear hs; intro t' g1 hs)
    (refine bE hs ?_; clear hs; intro b' g2 hs)
    (replace hs := sI hs; subst hs)
    rw [Og g0]
    exact Yeb (k := k) IH C hN g1 g2 hr hw
   | For t it b o q =>
    (refine gE hs ?_; clear hs; intro g0 hs)
    (refine bE hs ?_; clear hs; intro e1e g1 hs; obtain ⟨rg, i⟩ := e1e)
    (refine bE hs ?_; clear hs; intro b' g2 hs)
    refine aE g0 fun z1 z2 => ?_
    rw [Og z1]
    cases t with
    | Name y q' =>
     (refine bE hs ?_; clear hs; intro xi g3 hs)
     (replace hs := sI hs; subst hs)
     refine gE g3 fun u1 u2 => ?_
     exact Zky O (put := fun v m _ k => Ww xi v m k) S D hN (Qw z2) g1 g2 hr (Yds (Ux u1) u2) hw
    | Tuple ts kk q' =>
     (refine bE hs ?_; clear hs; intro xs g3 hs)
     (replace hs := sI hs; subst hs)
     (refine Zg (Uf hw) ?_; clear hw; intro h0 hw)
     (refine Vu (Zcx g3) ?_; rintro l rfl hl1 hl2 hl3)
     exact Zky O (put := fun v m H k => Gp v H fun ys => Kj xs ys m k) S D hN (Qw z2) g1 g2 hr (Ydt h0 hl1 hl2 hl3) hw
    | _ => exact Zk hs
   | Raise => (replace hs := sI hs; subst hs); exact False.elim hw
   | Try b hs' o fb q =>
    (refine gE hs ?_; clear hs; intro g0 hs)
    (refine Ks (Yec hs) ?_; rintro e d rfl)
    exact False.elim hw
   | _ => exact Zk hs
theorem Rc (O : B.Ok) (AF : Oa) : ∀ n c, SndS B (W T n c) n c := by
 intro n
 induction n using Nat.strongRecOn with
 | ind n ih =>
   intro c
   cases n with
   | zero => exact ⟨⟨fun _ _ _ _ h => False.elim h, fun _ _ _ _ _ _ _ _ _ _ _ _ _ _ _ h => False.elim h, fun _ _ _ _ _ _ _ _ _ _ _ _ _ _ _ h => False.elim h, fun _ _ _ _ _ _ _ _ _ _ _ _ _ _ _ _ _ h => False.elim h, fun _ _ _ _ _ _ _ _ _ _ _ _ h => False.elim h⟩,
       fun _ _ _ _ _ _ _ _ _ _ _ _ _ _ _ _ _ h => False.elim h, fun _ _ _ _ _ _ _ _ _ _ _ _ _ _ _ _ _ _ _ _ _ _ _ h => False.elim h⟩
   | succ n =>
     have S := ih n (Nat.lt_succ_self _) c
     refine ⟨⟨fun _ _ _ _ h => h, Zdf O S.toSnd, Zkt O S.toSnd, fun k sc xs es h1 h2 A env χ ml ρ m H Q E p C hw => Ycq S.toSnd C.dec h2 h1 hw, ?_⟩, ?_, Ydw O S.toSnd⟩
     · exact Yea O AF S
     · exact Yee O fun j hj => ih j (Nat.lt_succ_of_le hj) c
end Mine.Ab
end
noncomputable section
namespace Mine.Ab
noncomputable def Zu (st : Stmt) : List Str := (Xy st).args.map (·.arg)
noncomputable def kOk (k : NameKind) : Bool := match k with
 | .cell => false
 | .free => false
 | _ => true
noncomputable def Yef (k : NameKind) : Bool := match k with
 | .free => false
 | _ => true
noncomputable def Zat (st : Stmt) (cd : Addr) (q : Str) : Bool := codes.contains (cd, q) && decide ((Zu st).Nodup) && !(Zi st).isCoroutine && !(Zi st).isGenerator && Zij (Zi st).kind
noncomputable def Qh (st : Stmt) (cd : Addr) (q : Str) : Bool := Zat st cd q && (Zu st).all (fun x => Uj (Zi st).names x .local) && (Zi st).names.all fun y => kOk y.2
noncomputable def Rd (st : Stmt) (cd : Addr) (q : Str) : Bool := Zat st cd q && (Zu st).all (fun x => Uj (Zi st).names x .local || Uj (Zi st).names x .cell) && ((Zi st).names.all fun y => Yef y.2) && (Zi st).names.all fun y => match y.2 with
 | .cell => (Zu st).contains y.1
 | _ => true
abbrev fd (n q : Str) (st : Stmt) (dV : Value) (pm : Str) (t : Tok) (cd : Addr) : FuncData := fnX n q (Xy st) (Yl st) (Zi st) [] dV .none .none (.str pm t) none (.ref cd) .none
section
variable {f : Nat} {F : Fn} {st : Stmt} {cd : Addr} {n q pm : Str} {dV : Value} {t : Tok} {dvs : List Value}
theorem Zdk (h : Zat st cd q = true) : (cd, q) ∈ codes /\ (Zu st).Nodup /\ (Zi st).isCoroutine = false /\ (Zi st).isGenerator = false /\ (Zi st).kind = .function := by
 simp only [Zat, Bool.and_eq_true] at h
 (refine Zg h ?_; clear h; intro e1e h5; obtain ⟨⟨⟨h1, h2⟩, h3⟩, h4⟩ := e1e)
 refine Znh (by simpa using h1) (of_decide_eq_true h2) (Qw h3) (Qw h4) ?_
 cases hk : (Zi st).kind <;> rw [hk] at h5 <;> first | rfl | exact Yb h5
theorem DefF.plain (hK : ∀ P : Params, (K P).lookup f = some (fo n q st .none pm t cd)) (h : Qh st cd q = true) (hb : Uy st = some F.body) (hp : Zq Zw (Zu st) = some F.ps) (hd : F.dfl = []) (hbi : ∀ us : List Value, us.length = (Zu st).length -> bindArgs (fd n q st .none pm t cd) ⟨us, []⟩ = pure ((Zu st).zip us)) :
  DefF f F st (Zu st) cd n q pm .none t [] := by
 simp only [Qh, Bool.and_eq_true] at h
 (refine Zg h ?_; clear h; intro e1e h2; obtain ⟨h0, h1⟩ := e1e)
 refine Vt (Zdk h0) fun g1 g2 g3 g4 g5 => ?_
 refine ⟨hK, g1, hb, hp, g2, g3, g4, g5, fun ρ => by rw [hd]; rfl, fun v hv => by rw [hd] at hv; exact absurd hv (by simp), by rw [hd]; exact Nat.zero_le _, fun us hu P s _ => BindsTo.of_eq (hbi us hu), fun us hu h => (by contradiction), .inl ⟨fun x hx => Ux (List.all_eq_true.mp h1 x hx), fun y hy => ?_⟩⟩
 have := List.all_eq_true.mp h2 y hy
 constructor <;> intro e <;> rw [e] at this <;> exact Yb this
theorem DefF.dflt {T : Addr} {c : Value} {dv : Value} {d : V} {k : Nat} (hK : ∀ P : Params, (K P).lookup f = some (fo n q st (.ref T) pm t cd)) (hT : ∀ P : Params, (K P).lookup T = some { cls := c, data := .seq #[dv] k }) (h : Qh st cd q = true) (hb : Uy st = some F.body) (hp : Zq Zw (Zu st) = some F.ps) (hd : F.dfl = [d]) (hl : d.lt 0) (he : ∀ ρ, er dv = cv ρ d)
   (hbi : ∀ us : List Value, us.length = (Zu st).length -> ∃ k, bindArgs (fd n q st (.ref T) pm t cd) ⟨us, []⟩ = seqItems? (.ref T) >>= k /\ k (some #[dv]) = pure ((Zu st).zip us))
   (hbd : ∀ us : List Value, us.length + 1 = (Zu st).length -> ∃ k, bindArgs (fd n q st (.ref T) pm t cd) ⟨us, []⟩ = seqItems? (.ref T) >>= k /\ k (some #[dv]) = pure ((Zu st).zip (us ++ [dv]))) :
   DefF f F st (Zu st) cd n q pm (.ref T) t [dv] := by
 simp only [Qh, Bool.and_eq_true] at h
 (refine Zg h ?_; clear h; intro e1e h2; obtain ⟨h0, h1⟩ := e1e)
 refine Vt (Zdk h0) fun g1 g2 g3 g4 g5 => ?_
 refine ⟨hK, g1, hb, hp, g2, g3, g4, g5, fun ρ => by rw [hd]; exact congrArg (fun x => [x]) (he ρ), fun v hv => by rw [hd] at hv; rw [List.mem_singleton.mp hv]; exact hl, by rw [hd]; exact Nat.le_refl _, fun us hu P s X => ?_, fun us hu _ P s X => ?_, .inl ⟨fun x hx => Ux (List.all_eq_true.mp h1 x hx), fun y hy => ?_⟩⟩
 · refine Zb (hbi us hu) fun k h3 h4 => ?_
   exact BindsTo.of_defaults rfl (X _ _ (hT P)) rfl h3 h4
 · refine Zb (hbd us hu) fun k h3 h4 => ?_
   exact BindsTo.of_defaults rfl (X _ _ (hT P)) rfl h3 h4
 · have := List.all_eq_true.mp h2 y hy
   constructor <;> intro e <;> rw [e] at this <;> exact Yb this
theorem DefF.cel (hK : ∀ P : Params, (K P).lookup f = some (fo n q st .none pm t cd)) (h : Rd st cd q = true) (hb : Uy st = some F.body) (hp : Zq Zw (Zu st) = some F.ps) (hd : F.dfl = []) (hbi : ∀ us : List Value, us.length = (Zu st).length -> bindArgs (fd n q st .none pm t cd) ⟨us, []⟩ = pure ((Zu st).zip us)) :
   DefF f F st (Zu st) cd n q pm .none t [] := by
 simp only [Rd, Bool.and_eq_true] at h
 (refine Zg h ?_; clear h; intro e1e h3; obtain ⟨⟨h0, h1⟩, h2⟩ := e1e)
 refine Vt (Zdk h0) fun g1 g2 g3 g4 g5 => ?_
 refine ⟨hK, g1, hb, hp, g2, g3, g4, g5, fun ρ => by rw [hd]; rfl, fun v hv => by rw [hd] at hv; exact absurd hv (by simp), by rw [hd]; exact Nat.zero_le _, fun us hu P s _ => BindsTo.of_eq (hbi us hu), fun us hu h => (by contradiction), .inr ⟨hd, fun x hx => (Bool.or_eq_true_iff.mp (List.all_eq_true.mp h1 x hx)).imp Ux Ux, fun y hy e => ?_, hbi, fun x hx => ?_⟩⟩
 · have := List.all_eq_true.mp h2 y hy
   rw [e] at this; exact Yb this
 · have := List.all_eq_true.mp h3 _ (mem_of_lookup hx)
   simpa using this
end
theorem Xa {α : Type} {P : List α -> Prop} (h : P []) : ∀ us : List α, us.length = 0 -> P us := fun us e => by cases us <;> first | exact h | contradiction
theorem Zt {α : Type} {n : Nat} {P : List α -> Prop} (h : ∀ a, ∀ us : List α, us.length = n -> P (a :: us)) : ∀ us : List α, us.length = n + 1 -> P us := fun us e => by
 cases us with
 | nil => contradiction
 | cons a us => exact h a us (Nat.succ.inj e)
theorem Zau {α : Type} {n : Nat} {P : List α -> Prop} (h : ∀ us : List α, us.length = n -> P us) : ∀ us : List α, us.length + 1 = n + 1 -> P us := fun us e => h us (Nat.succ.inj e)
inductive AllL : List (Nat × Fn) -> Prop
 | nil : AllL []
 | cons {f F r st names cd n q pm dV t dvs} (d : DefF f F st names cd n q pm dV t dvs) (h : AllL r) : AllL ((f, F) :: r)
theorem AllL.at_ {f : Nat} {F : Fn} {l : List (Nat × Fn)} (h : AllL l) (e : Ze f l = some F) : ∃ st names cd n q pm dV t dvs, DefF f F st names cd n q pm dV t dvs := by
 induction h with
 | nil => exact Zk e
 | @cons g G r st names cd n q pm dV t dvs d hr ih =>
  unfold Ze at e
  cases z : Nat.beq g f with
  | true => rw [z] at e; replace e := sI e; subst e; rw [<- Wn z]; exact ⟨_, _, _, _, _, _, _, _, _, d⟩
  | false => rw [z] at e; exact ih e
theorem AllL.p0 {r : List (Nat × Fn)} {f : Nat} {F : Fn} (st : Stmt) (cd : Addr) (n q pm : Str) (t : Tok) (hr : AllL r) (hK : ∀ P : Params, (K P).lookup f = some (fo n q st .none pm t cd) := by intro _; rfl) (h : (Qh st cd q, Uy st, Zq Zw (Zu st), F.dfl, (Zu st).length) = (true, some F.body, some F.ps, [], 0) := by kernel_rfl)
  (b : bindArgs (fd n q st .none pm t cd) ⟨[], []⟩ = pure ((Zu st).zip []) := by intros; kernel_rfl) : AllL ((f, F) :: r) := by
 simp only [Prod.mk.injEq] at h
 obtain ⟨h1, h2, h3, h4, h5⟩ := h
 exact .cons (DefF.plain hK h1 h2 h3 h4 (by rw [h5]; exact Xa (b))) hr
theorem AllL.p1 {r : List (Nat × Fn)} {f : Nat} {F : Fn} (st : Stmt) (cd : Addr) (n q pm : Str) (t : Tok) (hr : AllL r) (hK : ∀ P : Params, (K P).lookup f = some (fo n q st .none pm t cd) := by intro _; rfl) (h : (Qh st cd q, Uy st, Zq Zw (Zu st), F.dfl, (Zu st).length) = (true, some F.body, some F.ps, [], 1) := by kernel_rfl)
  (b : ∀ a0 : Value, bindArgs (fd n q st .none pm t cd) ⟨[a0], []⟩ = pure ((Zu st).zip [a0]) := by intros; kernel_rfl) : AllL ((f, F) :: r) := by
 simp only [Prod.mk.injEq] at h
 obtain ⟨h1, h2, h3, h4, h5⟩ := h
 exact .cons (DefF.plain hK h1 h2 h3 h4 (by rw [h5]; exact Zt fun a0 => Xa (b a0))) hr
theorem AllL.p2 {r : List (Nat × Fn)} {f : Nat} {F : Fn} (st : Stmt) (cd : Addr) (n q pm : Str) (t : Tok) (hr : AllL r) (hK : ∀ P : Params, (K P).lookup f = some (fo n q st .none pm t cd) := by intro _; rfl) (h : (Qh st cd q, Uy st, Zq Zw (Zu st), F.dfl, (Zu st).length) = (true, some F.body, some F.ps, [], 2) := by kernel_rfl)
  (b : ∀ a0 a1 : Value, bindArgs (fd n q st .none pm t cd) ⟨[a0, a1], []⟩ = pure ((Zu st).zip [a0, a1]) := by intros; kernel_rfl) : AllL ((f, F) :: r) := by
 simp only [Prod.mk.injEq] at h
 obtain ⟨h1, h2, h3, h4, h5⟩ := h
 exact .cons (DefF.plain hK h1 h2 h3 h4 (by rw [h5]; exact Zt fun a0 => Zt fun a1 => Xa (b a0 a1))) hr
theorem AllL.p3 {r : List (Nat × Fn)} {f : Nat} {F : Fn} (st : Stmt) (cd : Addr) (n q pm : Str) (t : Tok) (hr : AllL r) (hK : ∀ P : Params, (K P).lookup f = some (fo n q st .none pm t cd) := by intro _; rfl) (h : (Qh st cd q, Uy st, Zq Zw (Zu st), F.dfl, (Zu st).length) = (true, some F.body, some F.ps, [], 3) := by kernel_rfl)
  (b : ∀ a0 a1 a2 : Value, bindArgs (fd n q st .none pm t cd) ⟨[a0, a1, a2], []⟩ = pure ((Zu st).zip [a0, a1, a2]) := by intros; kernel_rfl) : AllL ((f, F) :: r) := by
 simp only [Prod.mk.injEq] at h
 obtain ⟨h1, h2, h3, h4, h5⟩ := h
 exact .cons (DefF.plain hK h1 h2 h3 h4 (by rw [h5]; exact Zt fun a0 => Zt fun a1 => Zt fun a2 => Xa (b a0 a1 a2))) hr
theorem AllL.p4 {r : List (Nat × Fn)} {f : Nat} {F : Fn} (st : Stmt) (cd : Addr) (n q pm : Str) (t : Tok) (hr : AllL r) (hK : ∀ P : Params, (K P).lookup f = some (fo n q st .none pm t cd) := by intro _; rfl) (h : (Qh st cd q, Uy st, Zq Zw (Zu st), F.dfl, (Zu st).length) = (true, some F.body, some F.ps, [], 4) := by kernel_rfl)
  (b : ∀ a0 a1 a2 a3 : Value, bindArgs (fd n q st .none pm t cd) ⟨[a0, a1, a2, a3], []⟩ = pure ((Zu st).zip [a0, a1, a2, a3]) := by intros; kernel_rfl) : AllL ((f, F) :: r) := by
 simp only [Prod.mk.injEq] at h
 obtain ⟨h1, h2, h3, h4, h5⟩ := h
 exact .cons (DefF.plain hK h1 h2 h3 h4 (by rw [h5]; exact Zt fun a0 => Zt fun a1 => Zt fun a2 => Zt fun a3 => Xa (b a0 a1 a2 a3))) hr
theorem AllL.p5 {r : List (Nat × Fn)} {f : Nat} {F : Fn} (st : Stmt) (cd : Addr) (n q pm : Str) (t : Tok) (hr : AllL r) (hK : ∀ P : Params, (K P).lookup f = some (fo n q st .none pm t cd) := by intro _; rfl) (h : (Qh st cd q, Uy st, Zq Zw (Zu st), F.dfl, (Zu st).length) = (true, some F.body, some F.ps, [], 5) := by kernel_rfl)
  (b : ∀ a0 a1 a2 a3 a4 : Value, bindArgs (fd n q st .none pm t cd) ⟨[a0, a1, a2, a3, a4], []⟩ = pure ((Zu st).zip [a0, a1, a2, a3, a4]) := by intros; kernel_rfl) : AllL ((f, F) :: r) := by
 simp only [Prod.mk.injEq] at h
 obtain ⟨h1, h2, h3, h4, h5⟩ := h
 exact .cons (DefF.plain hK h1 h2 h3 h4 (by rw [h5]; exact Zt fun a0 => Zt fun a1 => Zt fun a2 => Zt fun a3 => Zt fun a4 => Xa (b a0 a1 a2 a3 a4))) hr
theorem AllL.p6 {r : List (Nat × Fn)} {f : Nat} {F : Fn} (st : Stmt) (cd : Addr) (n q pm : Str) (t : Tok) (hr : AllL r) (hK : ∀ P : Params, (K P).lookup f = some (fo n q st .none pm t cd) := by intro _; rfl) (h : (Qh st cd q, Uy st, Zq Zw (Zu st), F.dfl, (Zu st).length) = (true, some F.body, some F.ps, [], 6) := by kernel_rfl)
  (b : ∀ a0 a1 a2 a3 a4 a5 : Value, bindArgs (fd n q st .none pm t cd) ⟨[a0, a1, a2, a3, a4, a5], []⟩ = pure ((Zu st).zip [a0, a1, a2, a3, a4, a5]) := by intros; kernel_rfl) : AllL ((f, F) :: r) := by
 simp only [Prod.mk.injEq] at h
 obtain ⟨h1, h2, h3, h4, h5⟩ := h
 exact .cons (DefF.plain hK h1 h2 h3 h4 (by rw [h5]; exact Zt fun a0 => Zt fun a1 => Zt fun a2 => Zt fun a3 => Zt fun a4 => Zt fun a5 => Xa (b a0 a1 a2 a3 a4 a5))) hr
theorem AllL.c1 {r : List (Nat × Fn)} {f : Nat} {F : Fn} (st : Stmt) (cd : Addr) (n q pm : Str) (t : Tok) (hr : AllL r) (hK : ∀ P : Params, (K P).lookup f = some (fo n q st .none pm t cd) := by intro _; rfl) (h : (Rd st cd q, Uy st, Zq Zw (Zu st), F.dfl, (Zu st).length) = (true, some F.body, some F.ps, [], 1) := by kernel_rfl)
  (b : ∀ a0 : Value, bindArgs (fd n q st .none pm t cd) ⟨[a0], []⟩ = pure ((Zu st).zip [a0]) := by intros; kernel_rfl) : AllL ((f, F) :: r) := by
 simp only [Prod.mk.injEq] at h
 obtain ⟨h1, h2, h3, h4, h5⟩ := h
 exact .cons (DefF.cel hK h1 h2 h3 h4 (by rw [h5]; exact Zt fun a0 => Xa (b a0))) hr
theorem AllL.c2 {r : List (Nat × Fn)} {f : Nat} {F : Fn} (st : Stmt) (cd : Addr) (n q pm : Str) (t : Tok) (hr : AllL r) (hK : ∀ P : Params, (K P).lookup f = some (fo n q st .none pm t cd) := by intro _; rfl) (h : (Rd st cd q, Uy st, Zq Zw (Zu st), F.dfl, (Zu st).length) = (true, some F.body, some F.ps, [], 2) := by kernel_rfl)
  (b : ∀ a0 a1 : Value, bindArgs (fd n q st .none pm t cd) ⟨[a0, a1], []⟩ = pure ((Zu st).zip [a0, a1]) := by intros; kernel_rfl) : AllL ((f, F) :: r) := by
 simp only [Prod.mk.injEq] at h
 obtain ⟨h1, h2, h3, h4, h5⟩ := h
 exact .cons (DefF.cel hK h1 h2 h3 h4 (by rw [h5]; exact Zt fun a0 => Zt fun a1 => Xa (b a0 a1))) hr
theorem AllL.c4 {r : List (Nat × Fn)} {f : Nat} {F : Fn} (st : Stmt) (cd : Addr) (n q pm : Str) (t : Tok) (hr : AllL r) (hK : ∀ P : Params, (K P).lookup f = some (fo n q st .none pm t cd) := by intro _; rfl) (h : (Rd st cd q, Uy st, Zq Zw (Zu st), F.dfl, (Zu st).length) = (true, some F.body, some F.ps, [], 4) := by kernel_rfl)
  (b : ∀ a0 a1 a2 a3 : Value, bindArgs (fd n q st .none pm t cd) ⟨[a0, a1, a2, a3], []⟩ = pure ((Zu st).zip [a0, a1, a2, a3]) := by intros; kernel_rfl) : AllL ((f, F) :: r) := by
 simp only [Prod.mk.injEq] at h
 obtain ⟨h1, h2, h3, h4, h5⟩ := h
 exact .cons (DefF.cel hK h1 h2 h3 h4 (by rw [h5]; exact Zt fun a0 => Zt fun a1 => Zt fun a2 => Zt fun a3 => Xa (b a0 a1 a2 a3))) hr
theorem Yeg : DefF 295 Zim (Zh 34) (Zu (Zh 34)) 294 "insert_at" "insert_at" "emacs.editing" (.ref 288) 481 [.bool false] := DefF.dflt (c := .type "tuple") (d := .bool false) (k := 0) (fun P => rfl) (fun P => rfl) (by kernel_rfl) (by kernel_rfl) (by kernel_rfl) rfl trivial (fun ρ => rfl)
 (Zt fun a0 => Zt fun a1 => Zt fun a2 => Zt fun a3 => Xa (⟨_, rfl, rfl⟩))
 (Zau (Zt fun a0 => Zt fun a1 => Zt fun a2 => Xa (⟨_, rfl, rfl⟩)))
theorem Yeh : DefF 303 Zin (Zh 35) (Zu (Zh 35)) 302 "insert" "insert" "emacs.editing" (.ref 296) 481 [.bool false] := DefF.dflt (c := .type "tuple") (d := .bool false) (k := 0) (fun P => rfl) (fun P => rfl) (by kernel_rfl) (by kernel_rfl) (by kernel_rfl) rfl trivial (fun ρ => rfl)
 (Zt fun a0 => Zt fun a1 => Zt fun a2 => Xa (⟨_, rfl, rfl⟩))
 (Zau (Zt fun a0 => Zt fun a1 => Xa (⟨_, rfl, rfl⟩)))
theorem Yei : DefF 531 Zio (Zr 55 0) (Zu (Zr 55 0)) 530 "__init__" "SyntaxTable.__init__" "emacs.syntax" (.ref 524) 829 [.none] := DefF.dflt (c := .type "tuple") (d := .none) (k := 0) (fun P => rfl) (fun P => rfl) (by kernel_rfl) (by kernel_rfl) (by kernel_rfl) rfl trivial (fun ρ => rfl)
 (Zt fun a0 => Zt fun a1 => Xa (⟨_, rfl, rfl⟩))
 (Zau (Zt fun a0 => Xa (⟨_, rfl, rfl⟩)))
theorem Zlk : DefF 620 Zip (Zh 62) (Zu (Zh 62)) 619 "pair_of" "pair_of" "emacs.replacecommands" .none 1034 [] := DefF.plain (fun P => rfl) (by kernel_rfl) (by kernel_rfl) (by kernel_rfl) rfl
 (Zt fun a0 => Zt fun a1 => Xa (by kernel_rfl))
theorem Zll : DefF 641 Ziq (Zh 65) (Zu (Zh 65)) 640 "do_replace_string" "do_replace_string" "emacs.replacecommands" .none 1034 [] := DefF.plain (fun P => rfl) (by kernel_rfl) (by kernel_rfl) (by kernel_rfl) rfl
 (Zt fun a0 => Zt fun a1 => Xa (by kernel_rfl))
theorem Yej : DefF 852 Zir (Zr 73 0) (Zu (Zr 73 0)) 851 "__init__" "Buffer.__init__" "emacs.buffer" (.ref 845) 1343 [.int 8 1357] := DefF.dflt (c := .type "tuple") (d := .int (8)) (k := 0) (fun P => rfl) (fun P => rfl) (by kernel_rfl) (by kernel_rfl) (by kernel_rfl) rfl trivial (fun ρ => rfl)
 (Zt fun a0 => Zt fun a1 => Zt fun a2 => Zt fun a3 => Xa (⟨_, rfl, rfl⟩))
 (Zau (Zt fun a0 => Zt fun a1 => Zt fun a2 => Xa (⟨_, rfl, rfl⟩)))
theorem Zlm : DefF 1261 F1261 (Zh 87) (Zu (Zh 87)) 1260 "law" "law" "law_on0078_01" .none 1865 [] := DefF.plain (fun P => rfl) (by kernel_rfl) (by kernel_rfl) (by kernel_rfl) rfl
 (Zt fun a0 => Xa (by kernel_rfl))
theorem allL : AllL FTl := .p1 (Zh 2) 27 "downcase" "downcase" "emacs.casefold" 194 <|
 .p1 (Zh 3) 34 "upcase" "upcase" "emacs.casefold" 194 <|
 .p1 (Zh 4) 41 "fold" "fold" "emacs.casefold" 194 <|
 .p1 (Zh 5) 48 "is_upper" "is_upper" "emacs.casefold" 194 <|
 .p1 (Zh 6) 55 "is_lower" "is_lower" "emacs.casefold" 194 <|
 .p1 (Zh 7) 60 "upcased" "upcased" "emacs.casefold" 194 <|
 .p1 (Zh 8) 65 "has_upper" "has_upper" "emacs.casefold" 194 <|
 .p2 (Zh 9) 72 "initials_upcased" "initials_upcased" "emacs.casefold" 194 <|
 .p3 (Zr 11 0) 86 "__init__" "Literal.__init__" "emacs.countlines" 254 <|
 .p3 (Zr 11 1) 93 "fits" "Literal.fits" "emacs.countlines" 254 <|
 .p4 (Zr 11 2) 100 "next" "Literal.next" "emacs.countlines" 254 <|
 .p3 (Zr 18 0) 160 "__init__" "Shape.__init__" "emacs.replacing" 363 <|
 .p4 (Zr 18 1) 167 "see" "Shape.see" "emacs.replacing" 363 <|
 .p2 (Zh 19) 181 "case_of" "case_of" "emacs.replacing" 363 <|
 .p3 (Zh 20) 188 "cased" "cased" "emacs.replacing" 363 <|
 .p3 (Zh 21) 195 "cased_like" "cased_like" "emacs.replacing" 363 <|
 .p3 (Zr 23 0) 209 "__init__" "Cased.__init__" "emacs.makers" 438 <|
 .p4 (Zr 23 1) 216 "made" "Cased.made" "emacs.makers" 438 <|
 .p1 (Zh 25) 230 "need_writable" "need_writable" "emacs.editing" 481 <|
 .p3 (Zh 26) 237 "reached" "reached" "emacs.editing" 481 <|
 .p3 (Zh 27) 244 "tell_ahead" "tell_ahead" "emacs.editing" 481 <|
 .p4 (Zh 28) 251 "tell_behind" "tell_behind" "emacs.editing" 481 <|
 .p3 (Zh 29) 258 "text_out" "text_out" "emacs.editing" 481 <|
 .p3 (Zh 30) 265 "text_in" "text_in" "emacs.editing" 481 <|
 .p3 (Zh 31) 272 "hung_out" "hung_out" "emacs.editing" 481 <|
 .p4 (Zh 32) 279 "hung_in" "hung_in" "emacs.editing" 481 <|
 .p5 (Zh 33) 286 "put_in" "put_in" "emacs.editing" 481 <|
 .cons Yeg <|
 .cons Yeh <|
 .p3 (Zh 36) 309 "delete" "delete" "emacs.editing" 481 <|
 .p4 (Zh 37) 316 "replace" "replace" "emacs.editing" 481 <|
 .p2 (Zr 41 0) 330 "__init__" "Plain.__init__" "emacs.queryreplace" 616 <|
 .p4 (Zr 41 1) 337 "made" "Plain.made" "emacs.queryreplace" 616 <|
 .p5 (Zr 42 0) 358 "__init__" "Step.__init__" "emacs.queryreplace" 616 <|
 .p6 (Zr 43 0) 379 "__init__" "Replacing.__init__" "emacs.queryreplace" 616 <|
 .p3 (Zr 43 1) 386 "look" "Replacing.look" "emacs.queryreplace" 616 <|
 .p1 (Zr 43 2) 393 "put_new" "Replacing.put_new" "emacs.queryreplace" 616 <|
 .p1 (Zr 43 3) 400 "go_on" "Replacing.go_on" "emacs.queryreplace" 616 <|
 .p1 (Zr 43 4) 407 "put_all" "Replacing.put_all" "emacs.queryreplace" 616 <|
 .p5 (Zh 44) 456 "replaced_all" "replaced_all" "emacs.queryreplace" 616 <|
 .p4 (Zr 52 0) 470 "__init__" "Syntax.__init__" "emacs.syntax" 829 <|
 .c1 (Zh 53) 510 "sorted_flags" "sorted_flags" "emacs.syntax" 829 <|
 .p1 (Zh 54) 515 "read_syntax" "read_syntax" "emacs.syntax" 829 <|
 .cons Yei <|
 .p3 (Zr 55 2) 544 "modify_all" "SyntaxTable.modify_all" "emacs.syntax" 829 <|
 .p2 (Zr 55 4) 558 "own" "SyntaxTable.own" "emacs.syntax" 829 <|
 .p2 (Zr 55 5) 565 "at" "SyntaxTable.at" "emacs.syntax" 829 <|
 .p2 (Zr 55 6) 572 "kind_of" "SyntaxTable.kind_of" "emacs.syntax" 829 <|
 .p0 (Zh 56) 593 "letters" "letters" "emacs.syntax" 829 <|
 .p0 (Zh 57) 600 "standard_table" "standard_table" "emacs.syntax" 829 <|
 .p1 (Zh 59) 605 "text_codes" "text_codes" "emacs.textcommands" 1026 <|
 .p1 (Zh 61) 612 "syntax_of" "syntax_of" "emacs.replacecommands" 1034 <|
 .cons Zlk <|
 .p2 (Zh 63) 626 "told_many" "told_many" "emacs.replacecommands" 1034 <|
 .p2 (Zh 64) 633 "replace_from_point" "replace_from_point" "emacs.replacecommands" 1034 <|
 .cons Zll <|
 .p3 (Zr 67 0) 654 "__init__" "GapText.__init__" "emacs.gap" 1079 <|
 .p1 (Zr 67 1) 661 "size" "GapText.size" "emacs.gap" 1079 <|
 .p2 (Zr 67 2) 668 "code" "GapText.code" "emacs.gap" 1079 <|
 .p3 (Zr 67 3) 675 "codes" "GapText.codes" "emacs.gap" 1079 <|
 .p2 (Zr 67 4) 682 "move_gap" "GapText.move_gap" "emacs.gap" 1079 <|
 .p2 (Zr 67 5) 689 "widen_gap" "GapText.widen_gap" "emacs.gap" 1079 <|
 .p3 (Zr 67 6) 696 "insert" "GapText.insert" "emacs.gap" 1079 <|
 .p3 (Zr 67 7) 703 "delete" "GapText.delete" "emacs.gap" 1079 <|
 .p1 (Zr 71 0) 780 "__init__" "Markers.__init__" "emacs.markers" 1243 <|
 .p1 (Zr 71 1) 787 "numbers" "Markers.numbers" "emacs.markers" 1243 <|
 .p4 (Zr 71 5) 815 "inserted" "Markers.inserted" "emacs.markers" 1243 <|
 .p3 (Zr 71 6) 822 "deleted" "Markers.deleted" "emacs.markers" 1243 <|
 .p4 (Zr 71 7) 829 "replaced" "Markers.replaced" "emacs.markers" 1243 <|
 .cons Yej <|
 .p1 (Zr 73 5) 886 "size" "Buffer.size" "emacs.buffer" 1343 <|
 .p2 (Zr 73 6) 893 "code_at" "Buffer.code_at" "emacs.buffer" 1343 <|
 .p3 (Zr 73 7) 900 "codes" "Buffer.codes" "emacs.buffer" 1343 <|
 .p2 (Zr 73 8) 907 "goto" "Buffer.goto" "emacs.buffer" 1343 <|
 .p2 (Zr 73 12) 935 "touch" "Buffer.touch" "emacs.buffer" 1343 <|
 .p1 (Zr 75 0) 954 "__init__" "BufferTable.__init__" "emacs.buffers" 1482 <|
 .p2 (Zr 75 1) 961 "by_number" "BufferTable.by_number" "emacs.buffers" 1482 <|
 .p2 (Zr 75 2) 968 "by_name" "BufferTable.by_name" "emacs.buffers" 1482 <|
 .p2 (Zr 75 3) 975 "create" "BufferTable.create" "emacs.buffers" 1482 <|
 .p2 (Zr 75 6) 997 "select" "BufferTable.select" "emacs.buffers" 1482 <|
 .p2 (Zr 75 7) 1004 "set_current" "BufferTable.set_current" "emacs.buffers" 1482 <|
 .p1 (Zr 77 0) 1060 "__init__" "Amalgam.__init__" "emacs.amalgam" 1621 <|
 .p4 (Zr 79 0) 1081 "__init__" "Editor.__init__" "emacs.editor" 1652 <|
 .p1 (Zr 79 1) 1088 "current" "Editor.current" "emacs.editor" 1652 <|
 .p1 (Zh 81) 1226 "_law_deck" "_law_deck" "law_on0078_01" 1865 <|
 .p2 (Zh 82) 1233 "_law_draw" "_law_draw" "law_on0078_01" 1865 <|
 .c4 (Zh 83) 1238 "_law_text" "_law_text" "law_on0078_01" 1865 <|
 .p1 (Zh 84) 1243 "_law_units" "_law_units" "law_on0078_01" 1865 <|
 .c2 (Zh 85) 1248 "_law_shaped" "_law_shaped" "law_on0078_01" 1865 <|
 .p4 (Zh 86) 1255 "_law_done" "_law_done" "law_on0078_01" 1865 <|
 .cons Zlm <|
 .nil
theorem Yek : Oa := fun f F h => allL.at_ h
end Mine.Ab
end
end
section
end
section
local macro_rules | `(tactic| w_fin) => `(tactic| (repeat first | (refine (?_ : Mine.Ab.br _ _ _); first | refine Mine.Ab.bT ?_ | refine Mine.Ab.bN ?_ | refine Mine.Ab.br_T rfl ?_ | refine Mine.Ab.br_N rfl ?_) | refine Mine.Ab.aI ?_ | refine Mine.Ab.aT ?_ | refine Mine.Ab.ap.mk ?_))
local macro_rules | `(tactic| w_means) => `(tactic| (repeat first | (refine (?_ : Mine.Ab.br _ _ _); first | refine Mine.Ab.bT ?_ | refine Mine.Ab.bN ?_) | refine Mine.Ab.aI ?_ | refine Mine.Ab.aT ?_ | refine Mine.Ab.ap.mk ?_))
section
namespace Mine.Ab.Cc
theorem Ug {c : Bool} {A : Prop} (h : c = true) (q : A) : br c A False := br_T h q
theorem Zo {n : Nat} (h : n <= 1000) : sz n = true := Nat.ble_eq_true_of_le (Nat.le_trans h (Nat.le_of_ble_eq_true rfl))
theorem sz2 {n m : Nat} (h : n <= 400) (h' : m <= 400) : sz (n + m) = true := Zo (Nat.le_trans (Nat.add_le_add h h') (Nat.le_of_ble_eq_true rfl))
theorem Ou {a b : Bool} (h : a = true) (h' : b = true) : (a && b) = true := by rw [h, h']; rfl
abbrev IX (i : Int) : Prop := decide (0 <= i /\ i < 4611686018427387904) = true
theorem Xb {i : Int} (h : 0 <= i) (h' : i <= 1000) : IX i := decide_eq_true ⟨h, Int.lt_of_le_of_lt h' (by decide)⟩
theorem Yv {t : Tabs} {w : Sys} {f n : Nat} {vs : List V} {ob : List (Nat × O)} {P : V -> Hp -> Prop} {F : Fn} (e : t.fn f = some F)
  (h : Gq F.ps F.dfl vs fun m => w.s n F.body (fun fl _ h' => ∃ sel dr, Qe n 0 sel = true /\ Jd sel dr [Je fl] h' fun us h'' => match us with
   | [v] => P v h''
   | _ => False) m ⟨n, ob⟩) : Run t w f vs ⟨n, ob⟩ P := by
 constructor
 rw [e]
 exact h
theorem Zm {t : Tabs} {w : Sys} {f n : Nat} {vs : List V} {Q : V -> Hp -> Prop} {ob : List (Nat × O)} (sel : List Nat) (dr : List (Nat × Dr)) (e : (Ki sel && Gl n sel) = true)
 (h : Jc (fun i k => Jb i sel 0 k) vs fun us => Jy sel dr ob sel 0 fun l => Qs (Ot sel 0) fun n' => Run t w f us ⟨n', l⟩ fun v h' => Sf sel ⟨n, ob⟩ v h' Q) : callD t w f vs Q ⟨n, ob⟩ := .mk sel dr ⟨e, h⟩
theorem ret_of {n n' : Nat} {v : V} {ob : List (Nat × O)} {P : V -> Hp -> Prop} (sel : List Nat) (dr : List (Nat × Dr)) (b : Qe n 0 sel = true) (e : (Ki sel && Gl n' sel) = true)
 (h : Jc (fun i k => Jb i sel 0 k) [v] fun us => Jy sel dr ob sel 0 fun l => Qs (Ot sel 0) fun n'' => match us with
  | [v] => P v ⟨n'', l⟩
  | _ => False) : ∃ sel dr, Qe n 0 sel = true /\ Jd sel dr [v] ⟨n', ob⟩ fun us h'' => match us with
  | [v] => P v h''
  | _ => False := ⟨sel, dr, b, e, h⟩
theorem Zav {a b : Int} (h : b <= a) : Xw a b = [] := by
 unfold Xw
 rw [Int.toNat_of_nonpos (by exact L1 N0 (V2 _ _) 1 vA vB h (.s vA vB) kZ rfl)]; rfl
theorem Zdl {a b : Int} (h : a < b) : Xw a b = .int a :: Xw (a + 1) b := by
 unfold Xw
 have : (b - a).toNat = (b - (a + 1)).toNat + 1 := nt (M1 (N1 _) (V2 _ _) (-1) nA (.s vA (.a vB kI)) (@Int.toNat_of_nonneg (b - (a + 1)) (L1 N0 (V2 _ _) 1 (.a vB kI) vA (li h) kZ (.s vA (.a vB kI)) rfl)) (.s vA vB) (.a nA kI) rfl)
 rw [this, List.range_succ_eq_map, List.map_cons, List.map_map]
 refine congr (congrArg _ (congrArg V.int (Int.add_zero a))) (List.map_congr_left fun k _ => congrArg V.int ?_)
 show a + ((k + 1 : Nat) : Int) = a + 1 + k
 rw [Int.natCast_add]; exact M0 (N1 _) (V1 _) (.a vA (.a nA kI)) (.a (.a vA kI) nA) rfl
theorem Zdm {α : Type} {chk : Hp -> Prop} {elt cond : V -> (V -> Hp -> Prop) -> Hp -> Prop} {Q : List V -> Hp -> Prop} {H : Hp} {g : α -> V} (f : α -> V) (p : α -> Bool) (hk : chk H) : ∀ {l : List α} {acc : List V},
  (∀ x ∈ l, ∀ K : V -> Hp -> Prop, K (.bool (p x)) H -> cond (g x) K H) -> (∀ x ∈ l, ∀ K : V -> Hp -> Prop, K (f x) H -> elt (g x) K H) -> Q (acc ++ (l.filter p).map f) H -> Uu chk elt cond Q (l.map g) acc H
 | [], acc, hc, he, q => ⟨hk, by rw [List.filter_nil, List.map_nil, List.append_nil] at q; exact q⟩
 | x :: l, acc, hc, he, q => ⟨hk, hc x (.head _) _ (by
   have hc' := fun y hy => hc y (List.Mem.tail _ hy)
   have he' := fun y hy => he y (List.Mem.tail _ hy)
   cases e : p x with
   | true =>
    refine Gj (he x (.head _) _ (Zdm f p hk hc' he' ?_))
    rw [List.filter_cons, if_pos e, List.map_cons] at q
    rw [List.append_assoc]; exact q
   | false =>
    refine Jv (Zdm f p hk hc' he' ?_)
    rw [List.filter_cons, if_neg (by rw [e]; exact Bool.false_ne_true)] at q
    exact q)⟩
theorem Vf {α : Type} {chk : Hp -> Prop} {elt cond : V -> (V -> Hp -> Prop) -> Hp -> Prop} {Q : List V -> Hp -> Prop} {H : Hp} {g : α -> V} {l : List α} (f : α -> V) (p : α -> Bool) (hk : chk H)
  (hc : ∀ x ∈ l, ∀ K : V -> Hp -> Prop, K (.bool (p x)) H -> cond (g x) K H) (he : ∀ x ∈ l, ∀ K : V -> Hp -> Prop, K (f x) H -> elt (g x) K H) (q : Q ((l.filter p).map f) H) : Uu chk elt cond Q (l.map g) [] H :=
 Zdm f p hk hc he (by rw [List.nil_append]; exact q)
theorem Yel {α : Type} {l : List α} : l.filter (fun _ => true) = l := List.filter_eq_self.mpr fun _ _ => rfl
theorem Qx {α : Type} {chk : Hp -> Prop} {elt cond : V -> (V -> Hp -> Prop) -> Hp -> Prop} {Q : List V -> Hp -> Prop} {H : Hp} {g : α -> V} {l : List α} (f : α -> V) (hk : chk H)
  (hc : ∀ x ∈ l, ∀ K : V -> Hp -> Prop, K (.bool true) H -> cond (g x) K H) (he : ∀ x ∈ l, ∀ K : V -> Hp -> Prop, K (f x) H -> elt (g x) K H) (q : Q (l.map f) H) : Uu chk elt cond Q (l.map g) [] H :=
 Vf f (fun _ => true) hk hc he (by rw [Yel]; exact q)
theorem Hl {x y : Bool} {Q : V -> Hp -> Prop} {H : Hp} {B : Prop} (hb : Q (.bool y) H -> B) (h : Q (.bool (x || y)) H) : br x (ap Q (.bool true) H) B := by
 cases x with
 | true => exact Gj ⟨h⟩
 | false => exact Jv (hb h)
theorem Kp {x y : Bool} {Q : V -> Hp -> Prop} {H : Hp} {A : Prop} (hb : Q (.bool y) H -> A) (h : Q (.bool (x && y)) H) : br x A (ap Q (.bool false) H) := by
 cases x with
 | true => exact Gj (hb h)
 | false => exact Jv ⟨h⟩
theorem Zln {n x : Nat} {c : Bool} {m : Fm} {H : Hp} {v : V} {Q : V -> Hp -> Prop} (h : Ze x m = some v) (q : Q v H) : (W T (n + 1) c).e (.loc x) Q m H := by
 show Xe (Ze x m) _
 rw [h]; exact q
theorem Re {n x : Nat} {c b : Bool} {m : Fm} {H : Hp} {Q : V -> Hp -> Prop} (h : Ze x m = some (.bool b)) (q : Q (.bool (!b)) H) : (W T (n + 2) c).e (.not (.loc x)) Q m H := by
 show Xe (Ze x m) _
 rw [h]; exact q
theorem Zdn {n x i k N C : Nat} {c b : Bool} {m : Fm} {ob : List (Nat × O)} {fs : List (Nat × V)} {Q : V -> Hp -> Prop} (h1 : Ze x m = some (.ref i)) (h2 : Ze i ob = some (.inst C fs)) (h3 : Ze k fs = some (.bool b)) (q : Q (.bool (!b)) ⟨N, ob⟩) :
  (W T (n + 3) c).e (.not (.fld (.loc x) k)) Q m ⟨N, ob⟩ := by
 show Xe (Ze x m) _
 rw [h1]
 refine lkL_eq.mpr ⟨_, h2, ?_⟩
 show Xe (Ze k fs) _
 rw [h3]; exact q
theorem Zlo {v : V} {q : V -> Prop} (m : Nat) (h : q v) : Jz [v] ((((m + 1 : Nat) : Int) - 1).toNat - m) q := by
 rw [show (((m + 1 : Nat) : Int) - 1).toNat - m = 0 by lia]; exact h
theorem Zlp (m : Nat) (h : m <= 1000) : decide ((m : Int) <= ((m + 1 : Nat) : Int) - 1 /\ ((m + 1 : Nat) : Int) - 1 < 4611686018427387904) = true := decide_eq_true ⟨by exact L0 (N1 _) V0 nA (.s (.a nA kI) kI) rfl, by exact il (nc fun zz => L2 (N1 _) V0 1 nA (.k 1000) (nl h) 1 (.a (.k 4611686018427387904) kI) (.a (.s (.a nA kI) kI) kI) zz kI kZ rfl)⟩
theorem Zdo {α : Type} {I : Hp -> Prop} {chk : Hp -> Prop} {elt cond : V -> (V -> Hp -> Prop) -> Hp -> Prop} {Q : List V -> Hp -> Prop} {g : α -> V} (f : α -> V) (p : α -> Bool) (hk : ∀ H, I H -> chk H) : ∀ {l : List α} {acc : List V} {H : Hp}, I H ->
  (∀ x ∈ l, ∀ K H, I H -> (∀ H', I H' -> K (.bool (p x)) H') -> cond (g x) K H) -> (∀ x ∈ l, ∀ K H, I H -> K (f x) H -> elt (g x) K H) -> (∀ H, I H -> Q (acc ++ (l.filter p).map f) H) -> Uu chk elt cond Q (l.map g) acc H
 | [], acc, H, i, hc, he, q => ⟨hk H i, by have := q H i; rw [List.filter_nil, List.map_nil, List.append_nil] at this; exact this⟩
 | x :: l, acc, H, i, hc, he, q => ⟨hk H i, hc x (.head _) _ H i fun H' i' => by
   have hc' := fun y hy => hc y (List.Mem.tail _ hy)
   have he' := fun y hy => he y (List.Mem.tail _ hy)
   cases e : p x with
   | true =>
    refine Gj (he x (.head _) _ H' i' (Zdo f p hk i' hc' he' ?_))
    rw [List.filter_cons, if_pos e, List.map_cons] at q
    rw [List.append_assoc]; exact q
   | false =>
    refine Jv (Zdo f p hk i' hc' he' ?_)
    rw [List.filter_cons, if_neg (by rw [e]; exact Bool.false_ne_true)] at q
    exact q⟩
theorem Yem (N : Nat) : Nat.beq (N + 1) N = false := by
 cases e : Nat.beq (N + 1) N with
 | false => rfl
 | true => exact absurd (Nat.eq_of_beq_eq_true e) (Nat.succ_ne_self N)
theorem Zaw : ∀ l : List Nat, Ut [] (l.map fun x => [x]) = l
 | [] => rfl
 | [x] => rfl
 | x :: y :: r => by
  show [x] ++ [] ++ Ut [] ((y :: r).map fun x => [x]) = _
  rw [Zaw (y :: r)]; rfl
theorem Zlq {α : Type} (f : α -> Nat) (l : List α) : Ut [] (l.map fun x => [f x]) = l.map f := by
 have := Zaw (l.map f)
 rw [List.map_map] at this
 exact this
theorem Yen {n N : Nat} {c : Bool} {k : Fm -> Hp -> Prop} {Q : Fl -> Fm -> Hp -> Prop} {m : Fm} {H : Hp} (h : k m H) : (W T (n + 1) c).s N [] (Xj k Q) m H := h
theorem Zax {i j : Int} {n m : Nat} (h0 : 0 <= i) (h1 : i <= j) (h2 : j <= (n : Int)) (h3 : n <= 400) (h4 : m <= 400) : (decide (0 <= i /\ i <= j /\ j.toNat <= n) && sz (n + m)) = true := Ou (decide_eq_true ⟨h0, h1, Int.toNat_le.mpr h2⟩) (sz2 h3 h4)
end Mine.Ab.Cc
namespace Mine.Ab.Cc
section
variable {α : Type} {a b p q d x y z : List α}
theorem Rf (h : p ++ q = a ++ b) (l : p.length <= a.length) : ∃ c, a = p ++ c /\ q = c ++ b := by
 rcases List.append_eq_append_iff.mp h with ⟨c, e1, e2⟩ | ⟨c, e1, e2⟩
 · exact Zp c e1 e2
 · have : c = [] := by
     rw [e1, List.length_append] at l
     exact List.length_eq_zero_iff.mp (gq (Int.le_antisymm (L1 (N2 _ _) V0 1 (.a nB nA) nB (nl l) nA kZ rfl) (L0 (N1 _) V0 kZ nA rfl)))
   subst this
   exact Zp ([]) (by rw [e1, List.append_nil, List.append_nil]) e2.symm
theorem lo3 (h : p ++ (d ++ q) = a ++ b) (l : p.length + d.length <= a.length) : ∃ c, a = p ++ (d ++ c) /\ q = c ++ b := by
 rw [<- List.append_assoc] at h
 (refine Zb (Rf h (by rw [List.length_append]; exact l)) fun c e1 e2 => ?_)
 exact Zp c (by rw [e1, List.append_assoc]) e2
theorem hi3 (h : p ++ q = a ++ b) (l : a.length <= p.length) : ∃ c, p = a ++ c /\ b = c ++ q := Rf h.symm l
theorem Zlr (h : p ++ (d ++ q) = a ++ b) (l : p.length <= a.length) (l' : a.length <= p.length + d.length) : ∃ d1 d2, d = d1 ++ d2 /\ a = p ++ d1 /\ b = d2 ++ q := by
 (refine Zb (Rf h l) ?_; rintro c rfl e)
 rw [List.length_append] at l'
 (refine Zb (Rf e.symm (Nat.le_of_add_le_add_left l')) ?_; rintro d2 rfl e2)
 exact Qn c d2 rfl rfl e2
theorem Vg {i j : Nat} (hi : i = x.length) (hj : j = x.length + y.length) : Wt (x ++ (y ++ z)) (some i) (some j) = y := by
 subst hi hj
 show ((x ++ (y ++ z)).drop x.length).take (x.length + y.length - x.length) = y
 rw [List.drop_left, Nat.add_sub_cancel_left, List.take_left]
theorem Zdp {i j : Nat} (hi : i = x.length) (hj : j = x.length + y.length) {l : List α} : (x ++ (y ++ z)).take i ++ l ++ (x ++ (y ++ z)).drop j = x ++ (l ++ z) := by
 subst hi hj
 rw [List.take_left, <- List.append_assoc x y z, <- List.length_append, List.drop_left, List.append_assoc]
end
theorem Zls {α : Type} (l : List α) (i j : Nat) : (Wt l (some i) (some j)).length <= l.length := by
 show ((l.drop i).take (j - i)).length <= l.length
 rw [List.length_take, List.length_drop]
 exact Nat.le_trans (Nat.min_le_right _ _) (Nat.sub_le _ _)
inductive Gap (cells : List Int) (gs ge : Int) (t : List Int) : Prop
 | mk (a g b : List Int) (e : cells = a ++ (g ++ b)) (et : t = a ++ b) (es : gs = a.length) (eg : ge = a.length + g.length) (sz : a.length + (g.length + b.length) <= 400)
theorem Gap.z {cells t : List Int} {gs ge : Int} (g : Gap cells gs ge t) : cells.length <= 400 := by
 obtain ⟨a, g, b, e1, ht, e3, e4, hN⟩ := g
 rw [e1, List.length_append, List.length_append]; exact hN
theorem Gap.n {cells t : List Int} {gs ge : Int} (g : Gap cells gs ge t) : 0 <= gs /\ gs <= ge /\ ge <= 400 /\ (t.length : Int) + (ge - gs) <= 400 := by
 obtain ⟨a, g, b, -, rfl, rfl, rfl, hN⟩ := g
 rw [List.length_append]
 exact ⟨L0 (N1 _) V0 kZ nA rfl, ⟨L0 (N2 _ _) V0 nA (.a nA nB) rfl, ⟨L1 (N3 _ _ _) V0 1 (.a nA (.a nB nC)) (.k 400) (nl hN) (.a nA nB) (.k 400) rfl, L1 (N3 _ _ _) V0 1 (.a nA (.a nC nB)) (.k 400) (nl hN) (.a (.a nA nB) (.s (.a nA nC) nA)) (.k 400) rfl⟩⟩⟩
noncomputable abbrev Ov (gs ge : Int) : O := .inst 728 [(95, .int 8), (96, .ref 1), (97, .int gs), (98, .int ge)]
theorem Hm {n : Nat} {c : Bool} {cells p d q : List Int} {gs ge s e : Int} {P : V -> Hp -> Prop} (g : Gap cells gs ge (p ++ (d ++ q))) (hs : s = p.length) (he : e = p.length + d.length)
   (k : P (.ref 2) ⟨3, [(0, Ov gs ge), (1, .il cells), (2, .il d)]⟩) :
   Run T (W T (n + 30) c) 676 [.ref 0, .int s, .int e] ⟨2, [(0, Ov gs ge), (1, .il cells)]⟩ P := by
 have z := g.z
 have zz := Zo (Nat.le_trans z (Nat.le_of_ble_eq_true rfl))
 refine Xs g.n fun b1 b2 b3 b4 => ?_
 rw [List.length_append, List.length_append] at b4
 have x1 : IX gs := Xb b1 (by clear hs he; exact nc fun zz => L3 N0 (V2 _ _) 1 vA vB b2 1 vB (.k 400) b3 1 (.a (.k 1000) kI) vA zz kI kZ rfl)
 have x2 : IX ge := Xb (by clear hs he; exact L2 N0 (V2 _ _) 1 kZ vB b1 1 vB vA b2 kZ vA rfl) (by clear hs he; exact nc fun zz => L2 N0 (V1 _) 1 vA (.k 400) b3 1 (.a (.k 1000) kI) vA zz kI kZ rfl)
 have x3 : IX s := Xb (by clear he; exact L1 (N1 _) (V1 _) 1 nA vA (Zl hs) kZ vA rfl) (nc fun zz => L4 (N3 _ _ _) (V3 _ _ _) 1 vA nA (Zj hs) 1 vB vC b2 1 (.a (.a nA (.a nB nC)) (.s vC vB)) (.k 400) b4 1 (.a (.k 1000) kI) vA zz kI kZ rfl)
 have x4 : IX e := Xb (by clear hs; exact L1 (N2 _ _) (V1 _) 1 (.a nA nB) vA (Zl he) kZ vA rfl) (by clear hs; exact nc fun zz => L4 (N3 _ _ _) (V3 _ _ _) 1 vA (.a nA nB) (Zj he) 1 vB vC b2 1 (.a (.a nA (.a nB nC)) (.s vC vB)) (.k 400) b4 1 (.a (.k 1000) kI) vA zz kI kZ rfl)
 obtain ⟨a, g, b, e1, ht, e3, e4, hN⟩ := g
 clear hN b1 b2 b3
 refine Yv rfl ?_
 refine Ur (fun h => ?_) (fun h => ?_)
 · refine Zb (lo3 ht (gl (L3 (N3 _ _ _) (V2 _ _) 1 (.a nA nB) vA (Zl he) 1 vB nC (Zj e3) 1 vA vB h (.a nA nB) nC rfl))) fun c f1 f2 => ?_
   have k1 : Wt cells (some s.toNat) (some e.toNat) = d := by
     rw [e1, f1, List.append_assoc, List.append_assoc]
     exact Vg (by rw [hs]; rfl) (by rw [he]; rfl)
   clear ht e1 f1 f2
   rw [<- k1] at k
   w_fin
   exact ret_of [0, 1, 2] [] rfl rfl k
 · have x5 : IX (e + (ge - gs)) := Xb (by clear b4 x1 x2 x3 x4; exact L3 (N4 _ _ _ _) (V3 _ _ _) 1 (.a nA nB) vA (Zl he) 1 vC nC (Zj e3) 1 (.a nC nD) vB (Zl e4) kZ (.a vA (.s vB vC)) rfl) (by clear e3 e4 hs; exact nc fun zz => L3 (N3 _ _ _) (V3 _ _ _) 1 vA (.a nA nB) (Zj he) 1 (.a (.a nA (.a nB nC)) (.s vB vC)) (.k 400) b4 1 (.a (.k 1000) kI) (.a vA (.s vB vC)) zz kI kZ rfl)
   refine Ur (fun h' => ?_) (fun h' => ?_)
   · (refine Zb (hi3 ht (by clear b4; exact gl (L3 (N2 _ _) (V2 _ _) 1 vA nB (Zj hs) 1 nA vB (Zl e3) 1 vB vA h' nA nB rfl))) fun c f1 f2 => ?_)
     have x6 : IX (s + (ge - gs)) := Xb (by clear b4 he; exact L2 N0 (V3 _ _ _) 1 kZ vB ((of_decide_eq_true x2).1) 1 vC vA h' kZ (.a vA (.s vB vC)) rfl) (by clear e3 e4 he; exact nc fun zz => L3 (N3 _ _ _) (V3 _ _ _) 1 vA nA (Zj hs) 1 (.a (.a nA (.a nB nC)) (.s vB vC)) (.k 400) b4 1 (.a (.k 1000) kI) (.a vA (.s vB vC)) zz kI kZ rfl)
     have k1 : Wt cells (some (s + (ge - gs)).toNat) (some (e + (ge - gs)).toNat) = d := by
       rw [e1, f2, <- List.append_assoc, <- List.append_assoc]
       rw [f1, List.length_append] at hs he
       clear b4 h h'
       exact Vg (by rw [List.length_append, List.length_append]; exact nt (M3 (N3 _ _ _) (V3 _ _ _) (-1) vC nA e3 1 vB (.a nA nB) e4 1 vA (.a nA nC) hs (.a vA (.s vB vC)) (.a (.a nA nB) nC) rfl)) (by rw [List.length_append, List.length_append]; exact nt (M3 (N4 _ _ _ _) (V3 _ _ _) (-1) vC nA e3 1 vB (.a nA nB) e4 1 vA (.a (.a nA nC) nD) he (.a vA (.s vB vC)) (.a (.a (.a nA nB) nC) nD) rfl))
     clear ht e1 f1 f2
     rw [<- k1] at k
     w_fin
     exact ret_of [0, 1, 2] [] rfl rfl k
   · (refine Xp (Zlr ht (by clear b4; exact gl (nc fun zz => L4 (N2 _ _) (V2 _ _) 1 nA vA (Zl hs) 1 vB nB (Zj e3) 1 (.a vA kI) vB (li (Int.not_le.mp h')) 1 (.a nB kI) nA zz kI kZ rfl)) (by clear b4; exact gl (nc fun zz => L4 (N3 _ _ _) (V2 _ _) 1 vA (.a nA nB) (Zj he) 1 nC vB (Zl e3) 1 (.a vB kI) vA (li (Int.not_le.mp h)) 1 (.a (.a nA nB) kI) nC zz kI kZ rfl))) fun d1 d2 f1 f2 f3 => ?_)
     have zc := fun i j i' j' => sz2 (Nat.le_trans (Zls cells i j) z) (Nat.le_trans (Zls cells i' j') z)
     have zc := zc s.toNat gs.toNat ge.toNat (e + (ge - gs)).toNat
     rw [f1, List.length_append] at he
     rw [f2, List.length_append] at e3 e4
     clear b4 h h'
     have k1 : Wt cells (some s.toNat) (some gs.toNat) = d1 := by
       rw [e1, f2, List.append_assoc]
       exact Vg (by rw [hs]; rfl) (by rw [e3]; rfl)
     have k2 : Wt cells (some ge.toNat) (some (e + (ge - gs)).toNat) = d2 := by
       rw [e1, f3, <- List.append_assoc]
       exact Vg (by rw [f2, List.length_append, List.length_append]; exact nt (M1 (N3 _ _ _) (V1 _) 1 vA (.a (.a nA nB) nC) e4 vA (.a (.a nA nB) nC) rfl)) (by rw [f2, List.length_append, List.length_append]; exact nt (M3 (N4 _ _ _ _) (V3 _ _ _) 1 vB (.a (.a nA nB) nC) e4 (-1) vC (.a nA nB) e3 1 vA (.a nA (.a nB nD)) he (.a vA (.s vB vC)) (.a (.a (.a nA nB) nC) nD) rfl))
     clear ht e1 f2 f3
     rw [f1, <- k1, <- k2] at k
     w_fin
     exact ret_of [0, 1, 4] [] rfl rfl k
end Mine.Ab.Cc
namespace Mine.Ab.Cc
theorem Zdq {n : Nat} {c : Bool} {cells p q : List Int} {gs ge i : Int} {P : V -> Hp -> Prop} (G : Gap cells gs ge (p ++ q)) (hs : i = p.length)
   (k : ∀ cells' ge', Gap cells' i ge' (p ++ q) -> ge' - i = ge - gs -> P .none ⟨2, [(0, Ov i ge'), (1, .il cells')]⟩) :
   Run T (W T (n + 30) c) 683 [.ref 0, .int i] ⟨2, [(0, Ov gs ge), (1, .il cells)]⟩ P := by
 have z := G.z
 have zz := Zo (Nat.le_trans z (Nat.le_of_ble_eq_true rfl))
 refine Xs G.n fun b1 b2 b3 b4 => ?_
 rw [List.length_append] at b4
 have x1 : IX i := Xb (L1 (N1 _) (V1 _) 1 nA vA (Zl hs) kZ vA rfl) (nc fun zz => L4 (N2 _ _) (V3 _ _ _) 1 vA nA (Zj hs) 1 vB vC b2 1 (.a (.a nA nB) (.s vC vB)) (.k 400) b4 1 (.a (.k 1000) kI) vA zz kI kZ rfl)
 have x2 : IX gs := Xb b1 (by clear hs; exact nc fun zz => L3 N0 (V2 _ _) 1 vA vB b2 1 vB (.k 400) b3 1 (.a (.k 1000) kI) vA zz kI kZ rfl)
 have x3 : IX ge := Xb (by clear hs; exact L2 N0 (V2 _ _) 1 kZ vB b1 1 vB vA b2 kZ vA rfl) (by clear hs; exact nc fun zz => L2 N0 (V1 _) 1 vA (.k 400) b3 1 (.a (.k 1000) kI) vA zz kI kZ rfl)
 obtain ⟨a, g, b, e1, ht, e3, e4, hN⟩ := G
 refine Yv rfl ?_
 refine Ur (fun h => ?_) (fun h => ?_)
 · refine Zb (Rf ht (gl (nc fun zz => L4 (N2 _ _) (V2 _ _) 1 nA vA (Zl hs) 1 vB nB (Zj e3) 1 (.a vA kI) vB (li h) 1 (.a nB kI) nA zz kI kZ rfl))) fun d f1 f2 => ?_
   have k1 : Wt cells (some i.toNat) (some gs.toNat) = d := by
     rw [e1, f1, List.append_assoc]
     exact Vg (by rw [hs]; rfl) (by rw [e3, f1, List.length_append]; rfl)
   have k2 : cells = (p ++ (d ++ g).take g.length) ++ ((d ++ g).drop g.length ++ b) := by
     rw [e1, f1, List.append_assoc, List.append_assoc, <- List.append_assoc d, <- List.append_assoc (List.take _ _), List.take_append_drop]
   rw [f1, List.length_append] at e3 e4 hN
   have k3 : ((d ++ g).take g.length).length = g.length := by rw [List.length_take, List.length_append]; exact gq (M1 (N2 _ _) V0 1 nA nB (nq (@Nat.min_eq_left g.length (d.length + g.length) (gl (nc fun zz => L1 (N2 _ _) V0 1 (.a (.a nA nB) kI) nB zz kI kZ rfl)))) nA nB rfl)
   have k4 : ((d ++ g).drop g.length).length = d.length := by rw [List.length_drop, List.length_append]; exact gq (M1 (N3 _ _ _) V0 1 (.a nA nC) (.a nB nC) (@Wb (d.length + g.length) g.length (gl (nc fun zz => L1 (N2 _ _) V0 1 (.a (.a nA nB) kI) nB zz kI kZ rfl))) nA nB rfl)
   w_fin
   rw [k1]
   have y1 := Zax (i := ge - d.length) (j := ge) (n := cells.length) (m := d.length) (L2 (N2 _ _) (V2 _ _) 1 vB vA b2 1 (.a nB nA) vB (Zl e3) kZ (.s vA nA) rfl) (nc fun zz => L1 (N1 _) (V1 _) 1 (.a vA kI) (.s vA nA) zz kI kZ rfl) (by rw [e1, f1, List.length_append, List.length_append, List.length_append]; exact L1 (N4 _ _ _ _) (V1 _) 1 vA (.a (.a nA nB) nC) (Zj e4) vA (.a (.a nA nB) (.a nC nD)) rfl) z (gl (L3 (N2 _ _) (V2 _ _) 1 vA vB b2 1 vB (.k 400) b3 1 (.a nB nA) vA (Zl e3) nA (.k 400) rfl))
   have y0 := Zo (n := d.length) (gl (nc fun zz => L4 (N2 _ _) (V2 _ _) 1 vA vB b2 1 vB (.k 400) b3 1 (.a nA nB) vA (Zl e3) 1 (.a (.k 1000) kI) nB zz kI kZ rfl))
   w_fin
   have k5 : (cells.take (ge - d.length).toNat ++ d ++ cells.drop ge.toNat) = (p ++ (d ++ g).take g.length) ++ (d ++ b) := by
     rw [k2]
     exact Zdp (by rw [List.length_append, k3]; exact nt (M1 (N3 _ _ _) (V1 _) 1 vA (.a (.a nB nA) nC) e4 (.s vA nA) (.a nB nC) rfl)) (by rw [List.length_append, k3, k4]; exact nt (M1 (N3 _ _ _) (V1 _) 1 vA (.a (.a nA nC) nB) e4 vA (.a (.a nA nB) nC) rfl))
   rw [k5]
   refine ret_of [0, 1] [] rfl rfl (k _ (ge - d.length) ⟨p, (d ++ g).take g.length, d ++ b, List.append_assoc _ _ _, by rw [f2], hs, by rw [k3]; exact M1 (N3 _ _ _) (V1 _) 1 vA (.a (.a nB nA) nC) e4 (.s vA nA) (.a nB nC) rfl, by rw [k3, List.length_append]; exact gl (L1 (N4 _ _ _ _) V0 1 (.a (.a nA nC) (.a nB nD)) (.k 400) (nl hN) (.a nA (.a nB (.a nC nD))) (.k 400) rfl)⟩ (M2 (N2 _ _) (V3 _ _ _) (-1) vB nB hs 1 vC (.a nB nA) e3 (.s (.s vA nA) vB) (.s vA vC) rfl))
 · refine Zb (hi3 ht (gl (L3 (N2 _ _) (V2 _ _) 1 vA nB (Zj hs) 1 nA vB (Zl e3) 1 vB vA (Int.not_lt.mp h) nA nB rfl))) fun d f1 f2 => ?_
   have k1 : Wt cells (some ge.toNat) (some (ge + i - gs).toNat) = d := by
     rw [e1, f2, <- List.append_assoc]
     rw [f1, List.length_append] at hs
     exact Vg (by rw [List.length_append]; exact nt (M1 (N2 _ _) (V1 _) 1 vA (.a nA nB) e4 vA (.a nA nB) rfl)) (by rw [List.length_append]; exact nt (M3 (N3 _ _ _) (V3 _ _ _) (-1) vC nA e3 1 vA (.a nA nB) e4 1 vB (.a nA nC) hs (.s (.a vA vB) vC) (.a (.a nA nB) nC) rfl))
   have k2 : cells = a ++ ((g ++ d).take d.length ++ ((g ++ d).drop d.length ++ q)) := by
     rw [e1, f2, <- List.append_assoc g, <- List.append_assoc (List.take _ _), List.take_append_drop]
   rw [f1, List.length_append] at hs b4
   have k3 : ((g ++ d).take d.length).length = d.length := by rw [List.length_take, List.length_append]; exact gq (M1 (N2 _ _) V0 1 nA nB (nq (@Nat.min_eq_left d.length (g.length + d.length) (gl (L0 (N2 _ _) V0 nA (.a nB nA) rfl)))) nA nB rfl)
   have k4 : ((g ++ d).drop d.length).length = g.length := by rw [List.length_drop, List.length_append]; exact gq (M1 (N3 _ _ _) V0 1 (.a nA nC) (.a nB nC) (@Wb (g.length + d.length) d.length (gl (L0 (N2 _ _) V0 nA (.a nB nA) rfl))) nA nB rfl)
   have x4 : IX (ge + i - gs) := Xb (L2 N0 (V3 _ _ _) 1 vC vA b2 1 kZ vB ((of_decide_eq_true x1).1) kZ (.s (.a vA vB) vC) rfl) (nc fun zz => L3 (N3 _ _ _) (V3 _ _ _) 1 (.a (.a (.a nA nB) nC) (.s vA vB)) (.k 400) b4 1 vC (.a nA nB) (Zj hs) 1 (.a (.k 1000) kI) (.s (.a vA vC) vB) zz kI kZ rfl)
   have y0 := Zo (n := d.length) (gl (nc fun zz => L3 (N3 _ _ _) (V2 _ _) 1 vA vB b2 1 (.a (.a (.a nA nB) nC) (.s vB vA)) (.k 400) b4 1 (.a (.k 1000) kI) nB zz kI kZ rfl))
   w_fin
   rw [k1]
   have y1 := Zax (i := gs) (j := gs + d.length) (n := cells.length) (m := d.length) (by assumption) (L0 (N1 _) (V1 _) vA (.a vA nA) rfl) (by rw [e1, f2, List.length_append, List.length_append, List.length_append]; exact L2 (N4 _ _ _ _) (V2 _ _) 1 vA vB b2 1 vB (.a nB nC) (Zj e4) (.a vA nA) (.a nB (.a nC (.a nA nD))) rfl) z (gl (L2 (N3 _ _ _) (V2 _ _) 1 vA vB b2 1 (.a (.a (.a nB nA) nC) (.s vB vA)) (.k 400) b4 nA (.k 400) rfl))
   w_fin
   have k5 : (cells.take gs.toNat ++ d ++ cells.drop (gs + d.length).toNat) = a ++ (d ++ ((g ++ d).drop d.length ++ q)) := by
     rw [k2]
     exact Zdp (by rw [e3]; rfl) (by rw [k3, e3]; rfl)
   rw [k5]
   refine ret_of [0, 1] [] rfl rfl (k _ (ge + d.length) ⟨p, (g ++ d).drop d.length, q, by rw [f1, List.append_assoc], rfl, by rw [f1, List.length_append]; exact hs, by rw [f1, List.length_append, k4]; exact M1 (N3 _ _ _) (V1 _) 1 vA (.a nB nC) e4 (.a vA nA) (.a (.a nB nA) nC) rfl, by rw [f1, k4, List.length_append]; exact gl (L3 (N4 _ _ _ _) (V2 _ _) 1 vA nA (Zj e3) 1 (.a nA nC) vB (Zl e4) 1 (.a (.a (.a nA nB) nD) (.s vB vA)) (.k 400) b4 (.a (.a nA nB) (.a nC nD)) (.k 400) rfl)⟩ (M2 (N2 _ _) (V3 _ _ _) 1 vC nB e3 (-1) vB (.a nB nA) hs (.s (.a vA nA) vB) (.s vA vC) rfl))
theorem Yeo {n : Nat} {c : Bool} {cells t : List Int} {gs ge i : Int} {P : V -> Hp -> Prop} (G : Gap cells gs ge t) (h0 : 0 <= i) (h1 : t.length + i <= 390)
   (k : ∀ cells' ge', Gap cells' gs ge' t -> i <= ge' - gs -> P .none ⟨2, [(0, Ov gs ge'), (1, .il cells')]⟩) :
   Run T (W T (n + 30) c) 690 [.ref 0, .int i] ⟨2, [(0, Ov gs ge), (1, .il cells)]⟩ P := by
 refine Yv rfl ?_
 refine Ur (fun h => ?_) (fun h => ?_)
 · have z := G.z
   obtain ⟨a, g, b, e1, e2, e3, e4, hN⟩ := G
   obtain ⟨m, hm⟩ : ∃ m : Nat, i - (ge - gs) + 8 = m := ⟨(i - (ge - gs) + 8).toNat, by exact M1 (N1 _) (V3 _ _ _) (-1) nA (.a (.s vA (.s vB vC)) (.k 8)) (@Int.toNat_of_nonneg (i - (ge - gs) + 8) (nc fun zz => L2 N0 (V3 _ _ _) 1 (.a kZ kI) (.s vA (.s vB vC)) (li h) 1 (.a (.a (.s vA (.s vB vC)) (.k 8)) kI) kZ zz kI kZ rfl)) (.a (.s vA (.s vB vC)) (.k 8)) nA rfl⟩
   rw [e2, List.length_append] at h1
   have y1 : decide (-4611686018427387904 < i - (ge - gs) + 8 /\ i - (ge - gs) + 8 <= 1000000) = true := decide_eq_true ⟨by exact il (nc fun zz => L2 N0 (V3 _ _ _) 1 (.a kZ kI) (.s vA (.s vB vC)) (li h) 1 (.a (.a (.s vA (.s vB vC)) (.k 8)) kI) (.a (.k (-4611686018427387904)) kI) zz kI kZ rfl), by exact nc fun zz => L4 (N3 _ _ _) (V3 _ _ _) 1 (.a (.a nA nB) vA) (.k 390) h1 1 vB nA (Zj e3) 1 (.a nA nC) vC (Zl e4) 1 (.a (.k 1000000) kI) (.a (.s vA (.s vC vB)) (.k 8)) zz kI kZ rfl⟩
   have hr : (List.replicate m (0 : Int)).length = m := List.length_replicate
   w_fin
   rw [hm, Int.toNat_natCast]
   have y2 := Zax (i := ge) (j := ge) (n := cells.length) (m := (List.replicate m (0 : Int)).length) (L1 (N2 _ _) (V1 _) 1 (.a nA nB) vA (Zl e4) kZ vA rfl) (L0 N0 (V1 _) vA vA rfl) (by rw [e1, List.length_append, List.length_append]; exact L1 (N3 _ _ _) (V1 _) 1 vA (.a nA nB) (Zj e4) vA (.a nA (.a nB nC)) rfl) z (gl (nc fun zz => L6 (N5 _ _ _ _ _) (V3 _ _ _) 1 (.a (.a nA nB) vA) (.k 390) h1 1 vB nA (Zj e3) 1 (.a nA nC) vC (Zl e4) 1 nD (.a (.s vA (.s vC vB)) (.k 8)) (Zl hm) 1 nE nD (Wv hr) 1 (.a (.k 400) kI) nE zz kI kZ rfl))
   w_fin
   have k5 : (cells.take ge.toNat ++ List.replicate m (0 : Int) ++ cells.drop ge.toNat) = a ++ ((g ++ List.replicate m 0) ++ b) := by
     rw [e1, <- List.append_assoc a g, <- List.append_assoc a]
     have : ge.toNat = (a ++ g).length := by rw [e4, List.length_append]; rfl
     rw [this, List.take_left, List.drop_left, List.append_assoc a g, List.append_assoc a]
   refine ret_of [0, 1] [] rfl rfl (?_ : P _ _)
   rw [k5]
   refine k _ (ge + (i - (ge - gs)) + 8) ⟨a, g ++ List.replicate m 0, b, rfl, e2, e3, ?_, ?_⟩ ?_
   · rw [List.length_append, hr]; exact M2 (N3 _ _ _) (V3 _ _ _) 1 vA (.a nA nB) e4 1 (.a (.s vB (.s vA vC)) (.k 8)) nC hm (.a (.a vA (.s vB (.s vA vC))) (.k 8)) (.a nA (.a nB nC)) rfl
   · rw [List.length_append, hr]; exact gl (nc fun zz => L5 (N4 _ _ _ _) (V3 _ _ _) 1 (.a (.a nA nB) vA) (.k 390) h1 1 vB nA (Zj e3) 1 (.a nA nC) vC (Zl e4) 1 nD (.a (.s vA (.s vC vB)) (.k 8)) (Zl hm) 1 (.a (.k 400) kI) (.a nA (.a (.a nC nD) nB)) zz kI kZ rfl)
   · lia
 · refine ret_of [0, 1] [] rfl rfl (k cells ge G (L1 N0 (V3 _ _ _) 1 (.s vA (.s vB vC)) kZ (Int.not_lt.mp h) vA (.s vB vC) rfl))
end Mine.Ab.Cc
namespace Mine.Ab.Cc
theorem Zlt {n : Nat} {c : Bool} {cells p q ys : List Int} {gs ge i : Int} {P : V -> Hp -> Prop} (G : Gap cells gs ge (p ++ q)) (hs : i = p.length) (h1 : p.length + q.length + ys.length <= 390)
   (k : ∀ cells' gs' ge', Gap cells' gs' ge' (p ++ (ys ++ q)) -> P .none ⟨3, [(0, Ov gs' ge'), (1, .il cells'), (2, .il ys)]⟩) :
   Run T (W T (n + 60) c) 697 [.ref 0, .int i, .ref 2] ⟨3, [(0, Ov gs ge), (1, .il cells), (2, .il ys)]⟩ P := by
 have y0 := Zo (n := ys.length) (gl (nc fun zz => L2 (N3 _ _ _) V0 1 (.a (.a nA nB) nC) (.k 390) (nl h1) 1 (.a (.k 1000) kI) nC zz kI kZ rfl))
 refine Yv rfl ?_
 w_fin
 refine Zm [0, 1] [] rfl ?_
 refine Yeo G (Int.natCast_nonneg _) (by rw [List.length_append]; exact L1 (N3 _ _ _) V0 1 (.a (.a nA nB) nC) (.k 390) (nl h1) (.a (.a nA nB) nC) (.k 390) rfl) fun cells1 ge1 G1 h2 => ?_
 refine Zm [0, 1] [] rfl ?_
 refine Zdq G1 hs fun cells2 ge2 G2 h3 => ?_
 obtain ⟨a, g, b, e1, ht, e3, e4, hN⟩ := G2
 (refine Zg (List.append_inj ht (gq (M2 (N2 _ _) (V1 _) (-1) vA nA hs 1 vA nB e3 nA nB rfl))) ?_; rintro rfl rfl)
 have hg : ys.length <= g.length := gl (L4 (N3 _ _ _) (V4 _ _ _ _) 1 nC vA (Zl hs) 1 nA (.s vB vC) h2 1 (.s vB vC) (.s vD vA) (Zl h3) 1 vD (.a nC nB) (Zj e4) nA nB rfl)
 have y2 := Zax (i := i) (j := i + ys.length) (n := cells2.length) (m := ys.length) (L1 (N1 _) (V1 _) 1 nA vA (Zl hs) kZ vA rfl) (L0 (N1 _) (V1 _) vA (.a vA nA) rfl) (by rw [e1, List.length_append, List.length_append]; exact L3 (N4 _ _ _ _) (V4 _ _ _ _) 1 nA (.s vB vC) h2 1 (.s vB vC) (.s vD vA) (Zl h3) 1 vD (.a nB nC) (Zj e4) (.a vA nA) (.a nB (.a nC nD)) rfl) (by rw [e1, List.length_append, List.length_append]; exact hN) (gl (L5 (N4 _ _ _ _) (V4 _ _ _ _) 1 nB vA (Zl hs) 1 nA (.s vB vC) h2 1 (.s vB vC) (.s vD vA) (Zl h3) 1 vD (.a nB nC) (Zj e4) 1 (.a nB (.a nC nD)) (.k 400) (nl hN) nA (.k 400) rfl))
 have k3 : (g.take ys.length).length = ys.length := List.length_take_of_le hg
 have k5 : cells2.take i.toNat ++ ys ++ cells2.drop (i + ys.length).toNat = p ++ (ys ++ (g.drop ys.length ++ q)) := by
   have : cells2 = p ++ (g.take ys.length ++ (g.drop ys.length ++ q)) := by rw [e1, <- List.append_assoc (List.take _ _), List.take_append_drop]
   rw [this]
   exact Zdp (by rw [hs]; rfl) (by rw [hs, k3]; rfl)
 w_fin
 refine ret_of [0, 1, 2] [] rfl rfl (?_ : P _ _)
 rw [k5]
 refine k _ (i + ys.length) ge2 ⟨p ++ ys, g.drop ys.length, q, by rw [List.append_assoc], by rw [List.append_assoc], by rw [hs, List.length_append]; rfl, ?_, ?_⟩
 · rw [e4, List.length_append, List.length_drop]; exact M1 (N4 _ _ _ _) V0 (-1) (.a nD nC) nB (@Wb g.length ys.length (gl (L4 (N3 _ _ _) (V4 _ _ _ _) 1 nC vA (Zl hs) 1 nA (.s vB vC) h2 1 (.s vB vC) (.s vD vA) (Zl h3) 1 vD (.a nC nB) (Zj e4) nA nB rfl))) (.a nA nB) (.a (.a nA nC) nD) rfl
 · rw [List.length_append, List.length_drop]; exact gl (L2 (N5 _ _ _ _ _) V0 1 (.a nA (.a nE nD)) (.k 400) (nl hN) 1 (.a nC nB) nE (Zj (@Wb g.length ys.length (gl (L4 (N3 _ _ _) (V4 _ _ _ _) 1 nC vA (Zl hs) 1 nA (.s vB vC) h2 1 (.s vB vC) (.s vD vA) (Zl h3) 1 vD (.a nC nB) (Zj e4) nA nB rfl)))) (.a (.a nA nB) (.a nC nD)) (.k 400) rfl)
theorem Yep {n : Nat} {c : Bool} {cells p q : List Int} {v gs ge i : Int} {P : V -> Hp -> Prop} (G : Gap cells gs ge (p ++ v :: q)) (hs : i = p.length)
   (k : P (.int v) ⟨2, [(0, Ov gs ge), (1, .il cells)]⟩) :
   Run T (W T (n + 30) c) 669 [.ref 0, .int i] ⟨2, [(0, Ov gs ge), (1, .il cells)]⟩ P := by
 refine Xs G.n fun b1 b2 b3 b4 => ?_
 rw [List.length_append, List.length_cons] at b4
 have x1 : IX i := Xb (L1 (N1 _) (V1 _) 1 nA vA (Zl hs) kZ vA rfl) (nc fun zz => L4 (N2 _ _) (V3 _ _ _) 1 vA nA (Zj hs) 1 vB vC b2 1 (.a (.a nA (.a nB kI)) (.s vC vB)) (.k 400) b4 1 (.a (.k 1000) kI) vA zz kI kZ rfl)
 obtain ⟨a, g, b, e1, ht, e3, e4, hN⟩ := G
 refine Yv rfl ?_
 refine Ur (fun h => ?_) (fun h => ?_)
 · (refine Zb (lo3 (d := [v]) ht (by clear b4; simp only [List.length_cons, List.length_nil]; exact gl (L3 (N2 _ _) (V2 _ _) 1 nA vA (Zl hs) 1 vB nB (Zj e3) 1 (.a vA kI) vB (li h) (.a nA (.a kZ kI)) nB rfl))) fun d f1 f2 => ?_)
   w_fin
   refine Us (v := v) ?_ (ret_of [0, 1] [] rfl rfl k)
   rw [e1, f1, hs, List.append_assoc]
   show (p ++ (v :: (d ++ (g ++ b))))[p.length]? = some v
   rw [List.getElem?_append_right (Nat.le_refl _), Nat.sub_self]; rfl
 · (refine Zb (hi3 ht (by clear b4; exact gl (L3 (N2 _ _) (V2 _ _) 1 vA nB (Zj hs) 1 nA vB (Zl e3) 1 vB vA (Int.not_lt.mp h) nA nB rfl))) fun d f1 f2 => ?_)
   rw [f1, List.length_append] at hs b4
   have x2 : IX (i - gs + ge) := Xb (L2 N0 (V3 _ _ _) 1 vB vC b2 1 kZ vA ((of_decide_eq_true x1).1) kZ (.a (.s vA vB) vC) rfl) (nc fun zz => L3 (N3 _ _ _) (V3 _ _ _) 1 (.a (.a (.a nA nB) (.a nC kI)) (.s vA vB)) (.k 400) b4 1 vC (.a nA nB) (Zj hs) 1 (.a (.k 1000) kI) (.a (.s vC vB) vA) zz kI kZ rfl)
   w_fin
   refine Us (v := v) ?_ (ret_of [0, 1] [] rfl rfl k)
   have hi : (i - gs + ge).toNat = (a ++ (g ++ d)).length := by rw [List.length_append, List.length_append]; exact nt (M3 (N3 _ _ _) (V3 _ _ _) (-1) vB nA e3 1 vC (.a nA nB) e4 1 vA (.a nA nC) hs (.a (.s vA vB) vC) (.a nA (.a nB nC)) rfl)
   rw [e1, f2, hi, <- List.append_assoc g, <- List.append_assoc a]
   rw [List.getElem?_append_right (Nat.le_refl _), Nat.sub_self]; rfl
theorem Gap.del {cells p q d : List Int} {gs ge s e : Int} (G : Gap cells gs ge (p ++ (d ++ q))) (hs : s = p.length) (he : e = p.length + d.length) (h : s <= gs) (h' : gs <= e) : Gap cells s (ge + e - gs) (p ++ q) := by
 obtain ⟨a, g, b, e1, ht, e3, e4, hN⟩ := G
 refine Xp (Zlr ht (gl (L3 (N2 _ _) (V2 _ _) 1 nA vA (Zl hs) 1 vA vB h 1 vB nB (Zj e3) nA nB rfl)) (gl (L3 (N3 _ _ _) (V2 _ _) 1 vA (.a nB nC) (Zj he) 1 vB vA h' 1 nA vB (Zl e3) nA (.a nB nC) rfl))) fun d1 d2 f1 f2 f3 => ?_
 rw [f2, f3, List.length_append, List.length_append] at hN
 refine ⟨p, d1 ++ (g ++ d2), q, by rw [e1, f2, f3]; simp only [List.append_assoc], rfl, hs, ?_, ?_⟩
 · rw [e4, e3, he, f2, f1, List.length_append, List.length_append, List.length_append, List.length_append]; exact M0 (N4 _ _ _ _) V0 (.s (.a (.a (.a nA nB) nC) (.a nA (.a nB nD))) (.a nA nB)) (.a nA (.a nB (.a nC nD))) rfl
 · rw [List.length_append, List.length_append]; exact gl (L1 (N5 _ _ _ _ _) V0 1 (.a (.a nA nB) (.a nC (.a nD nE))) (.k 400) (nl hN) (.a nA (.a (.a nB (.a nC nD)) nE)) (.k 400) rfl)
theorem Zlu {n : Nat} {c : Bool} {cells p q d : List Int} {gs ge s e : Int} {P : V -> Hp -> Prop} (G : Gap cells gs ge (p ++ (d ++ q))) (hs : s = p.length) (he : e = p.length + d.length)
   (k : ∀ cells' gs' ge', Gap cells' gs' ge' (p ++ q) -> P (.ref 2) ⟨3, [(0, Ov gs' ge'), (1, .il cells'), (2, .il d)]⟩) :
   Run T (W T (n + 60) c) 704 [.ref 0, .int s, .int e] ⟨2, [(0, Ov gs ge), (1, .il cells)]⟩ P := by
 have hse : s <= e := L2 (N2 _ _) (V2 _ _) 1 vA nA (Zj hs) 1 (.a nA nB) vB (Zl he) vA vB rfl
 refine Yv rfl ?_
 refine Zm [0, 1] [] rfl ?_
 refine Hm G hs he ?_
 refine Ur (fun h => ?_) (fun h => ?_)
 · refine Zm [0, 1] [] rfl ?_
   rw [<- List.append_assoc] at G
   refine Zdq G (by rw [he, List.length_append]; rfl) fun cells' ge' G' h2 => ?_
   rw [List.append_assoc] at G'
   refine br_N (decide_eq_false (Int.not_lt.mpr hse)) ?_
   w_fin
   exact ret_of [0, 1, 2] [] rfl rfl (k _ _ _ (G'.del hs he hse (Int.le_refl _)))
 · refine Ur (fun h' => ?_) (fun h' => ?_)
   · refine Zm [0, 1] [] rfl ?_
     refine Zdq G hs fun cells' ge' G' h2 => ?_
     w_fin
     exact ret_of [0, 1, 2] [] rfl rfl (k _ _ _ (G'.del hs he (Int.le_refl _) hse))
   · w_fin
     exact ret_of [0, 1, 2] [] rfl rfl (k _ _ _ (G.del hs he (Int.not_lt.mp h') (Int.not_lt.mp h)))
end Mine.Ab.Cc
namespace Mine.Ab.Cc
noncomputable abbrev Oh (pt zv tk ct : Int) (a b c : Nat) : O := .inst 939 [(106, .int 1), (31, .str [97]), (47, .ref a), (58, .ref b), (45, .int pt), (34, .int 1), (35, .int zv), (111, .none), (112, .bool true), (30, .bool false), (113, .int tk), (114, .int ct), (115, .int 1), (37, .ref c), (43, .none), (50, .none), (51, .none), (116, .none), (84, .none), (117, .none)]
noncomputable abbrev Oi (r : Nat) (gs ge : Int) : O := .inst 728 [(95, .int 8), (96, .ref r), (97, .int gs), (98, .int ge)]
noncomputable abbrev Oj (r : Nat) : O := .inst 833 [(82, .ref r)]
theorem Zlv {n : Nat} {cells p q d ys : List Int} {gs ge s e zv tk ct : Int} {P : V -> Hp -> Prop} (G : Gap cells gs ge (p ++ (d ++ q))) (hs : s = p.length + 1) (he : e = s + d.length) (hd : d ≠ [])
   (hz : zv = p.length + d.length + q.length + 1) (hl : p.length + d.length + q.length + ys.length <= 380)
   (k : ∀ cells' gs' ge' tk' ct', Gap cells' gs' ge' (p ++ (ys ++ q)) -> P (.ref 7) ⟨8, [(0, Oh (s + ys.length) (zv - d.length + ys.length) tk' ct' 1 3 5), (1, Oi 2 gs' ge'), (2, .il cells'), (3, Oj 4), (4, .dct []), (5, .il []), (6, .il ys), (7, .il d)]⟩) :
   Run T (W T (n + 90) true) 317 [.ref 0, .int s, .int e, .ref 6] ⟨7, [(0, Oh e zv tk ct 1 3 5), (1, Oi 2 gs ge), (2, .il cells), (3, Oj 4), (4, .dct []), (5, .il []), (6, .il ys)]⟩ P := by
 have hd0 : 0 < d.length := List.length_pos_iff.mpr hd
 have m1 : min s e = s := M1 N0 (V2 _ _) 1 vA vB (@Int.min_eq_left s e (L1 (N1 _) (V2 _ _) 1 (.a vA nA) vB (Zl he) vA vB rfl)) vA vB rfl
 have m2 : max s e = e := M1 N0 (V2 _ _) 1 vA vB (@Int.max_eq_right s e (L1 (N1 _) (V2 _ _) 1 (.a vA nA) vB (Zl he) vA vB rfl)) vA vB rfl
 have t1 : decide (s < 1) = false := decide_eq_false (fun zz => gf (L2 (N1 _) (V1 _) 1 (.a nA kI) vA (Zl hs) 1 (.a vA kI) kI (li zz) kI kZ rfl))
 have t2 : decide (zv < e) = false := decide_eq_false (fun zz => gf (L4 (N3 _ _ _) (V3 _ _ _) 1 vA (.a nA kI) (Zj hs) 1 vB (.a vA nB) (Zj he) 1 (.a (.a (.a nA nB) nC) kI) vC (Zl hz) 1 (.a vC kI) vB (li zz) kI kZ rfl))
 have t3 : decide (s = e) = false := decide_eq_false (fun zz => gf (L3 (N1 _) (V2 _ _) 1 (.a vB nA) vA (Zl he) 1 (.a kZ kI) nA (Wi hd0) 1 vA vB (Zl zz) kI kZ rfl))
 have t4 : decide (s < e) = true := decide_eq_true (il (L2 (N1 _) (V2 _ _) 1 (.a vA nA) vB (Zl he) 1 (.a kZ kI) nA (Wi hd0) (.a vA kI) vB rfl))
 have t5 : decide (e <= e) = true := decide_eq_true (Int.le_refl _)
 have t6 : decide (s < s) = false := decide_eq_false (Int.lt_irrefl _)
 have y0 := Zo (n := ys.length) (gl (nc fun zz => L2 (N4 _ _ _ _) V0 1 (.a (.a (.a nA nB) nC) nD) (.k 380) (nl hl) 1 (.a (.k 1000) kI) nD zz kI kZ rfl))
 refine Yv rfl ?_
 refine Jv ?_
 refine Gj ?_
 rw [m1, m2]
 w_fin
 refine Ur (fun h => ?_) (fun h => ?_)
 · w_fin
   rw [m1, m2]
   w_fin
   refine Zm [1, 2] [] rfl ?_
   refine Zlu G (M1 (N1 _) (V1 _) 1 vA (.a nA kI) hs (.s vA kI) nA rfl) (M2 (N2 _ _) (V2 _ _) 1 vB (.a nA kI) hs 1 vA (.a vB nB) he (.s vA kI) (.a nA nB) rfl) fun cells' gs' ge' G' => ?_
   w_fin
   have hy : ys = [] := List.length_eq_zero_iff.mp (gq (M1 (N1 _) V0 1 nA kZ h nA kZ rfl))
   subst hy
   have z1 : max s (e - (e - s)) = s + (List.length (α := Int) []) := by simp only [List.length_nil]; exact M1 N0 (V3 _ _ _) 1 vA (.s vC (.s vC vB)) (@Int.max_eq_right s (e - (e - s)) (L0 N0 (V2 _ _) vA (.s vB (.s vB vA)) rfl)) vA (.a vB kZ) rfl
   have z2 : zv - (e - s) = zv - d.length + (List.length (α := Int) []) := by simp only [List.length_nil]; exact M1 (N1 _) (V3 _ _ _) (-1) vB (.a vC nA) he (.s vA (.s vB vC)) (.a (.s vA nA) kZ) rfl
   rw [z1, z2]
   exact ret_of [0, 1, 2, 3, 4, 5, 6, 12] [] rfl rfl (k _ _ _ _ _ G')
 · w_fin
   refine Zm [1, 2] [] rfl ?_
   refine Zlu G (M1 (N1 _) (V1 _) 1 vA (.a nA kI) hs (.s vA kI) nA rfl) (M2 (N2 _ _) (V2 _ _) 1 vB (.a nA kI) hs 1 vA (.a vB nB) he (.s vA kI) (.a nA nB) rfl) fun cells1 gs1 ge1 G1 => ?_
   have m3 : max s (e - (e - s)) = s := M1 N0 (V3 _ _ _) 1 vA (.s vC (.s vC vB)) (@Int.max_eq_right s (e - (e - s)) (L0 N0 (V2 _ _) vA (.s vB (.s vB vA)) rfl)) vA vB rfl
   w_fin
   rw [m3]
   w_fin
   refine Zm [1, 2, 6] [] rfl ?_
   refine Zlt G1 (M1 (N1 _) (V1 _) 1 vA (.a nA kI) hs (.s vA kI) nA rfl) (gl (nc fun zz => L2 (N4 _ _ _ _) V0 1 (.a (.a (.a nA nB) nC) nD) (.k 380) (nl hl) 1 (.a (.k 390) kI) (.a (.a nA nC) nD) zz kI kZ rfl)) fun cells2 gs2 ge2 G2 => ?_
   w_fin
   have z1 : e + ys.length - (e - s) = s + ys.length := M0 (N1 _) (V2 _ _) (.s (.a vA nA) (.s vA vB)) (.a vB nA) rfl
   have z2 : zv - (e - s) + ys.length = zv - d.length + ys.length := M1 (N2 _ _) (V3 _ _ _) (-1) vB (.a vC nB) he (.a (.s vA (.s vB vC)) nA) (.a (.s vA nB) nA) rfl
   rw [z1, z2]
   exact ret_of [0, 1, 2, 3, 4, 5, 6, 10] [] rfl rfl (k _ _ _ _ _ G2)
end Mine.Ab.Cc
namespace Mine.Ab.Cc
noncomputable def lo (c : Int) : Int := match decide (65 <= c) && decide (c <= 90) with
 | true => c + 32
 | false => c
noncomputable def up (c : Int) : Int := match decide (97 <= c) && decide (c <= 122) with
 | true => c - 32
 | false => c
theorem Zlw {n : Nat} {w : Bool} {c : Int} {P : V -> Hp -> Prop} (h : c < 192) (k : P (.int (lo c)) ⟨0, []⟩) : Run T (W T (n + 20) w) 28 [.int c] ⟨0, []⟩ P := by
 have t : decide (192 <= c) = false := decide_eq_false (Int.not_le.mpr h)
 unfold lo at k
 refine Yv rfl ?_
 refine Xd (fun h1 => ?_) (fun h1 => ?_)
 · refine Xd (fun h2 => ?_) (fun h2 => ?_)
   · w_means
     rw [h1, h2] at k
     exact ret_of [] [] rfl rfl k
   · w_means
     rw [h1, h2] at k
     exact ret_of [] [] rfl rfl k
 · w_means
   rw [h1] at k
   exact ret_of [] [] rfl rfl k
theorem Zay {n : Nat} {w : Bool} {c : Int} {P : V -> Hp -> Prop} (h : c < 192) (k : P (.int (up c)) ⟨0, []⟩) : Run T (W T (n + 20) w) 35 [.int c] ⟨0, []⟩ P := by
 have t : decide (224 <= c) = false := decide_eq_false (fun zz => gf (L2 N0 (V1 _) 1 (.a vA kI) (.k 192) (li h) 1 (.k 224) vA zz kI kZ rfl))
 unfold up at k
 refine Yv rfl ?_
 refine Xd (fun h1 => ?_) (fun h1 => ?_)
 · refine Xd (fun h2 => ?_) (fun h2 => ?_)
   · w_means
     rw [h1, h2] at k
     exact ret_of [] [] rfl rfl k
   · w_means
     rw [h1, h2] at k
     exact ret_of [] [] rfl rfl k
 · w_means
   rw [h1] at k
   exact ret_of [] [] rfl rfl k
theorem fold_ok {n : Nat} {w : Bool} {c : Int} {P : V -> Hp -> Prop} (h : c < 192) (k : P (.int (lo c)) ⟨0, []⟩) : Run T (W T (n + 30) w) 42 [.int c] ⟨0, []⟩ P := by
 refine Yv rfl ?_
 refine Zm [] [] rfl ?_
 refine Zlw h ?_
 exact ret_of [] [] rfl rfl k
theorem Zdr {n : Nat} {w : Bool} {c : Int} {P : V -> Hp -> Prop} (h : c < 192) (k : P (.bool (!decide (lo c = c))) ⟨0, []⟩) : Run T (W T (n + 30) w) 49 [.int c] ⟨0, []⟩ P := by
 refine Yv rfl ?_
 refine Zm [] [] rfl ?_
 refine Zlw h ?_
 exact ret_of [] [] rfl rfl k
theorem Zds {n : Nat} {w : Bool} {c : Int} {P : V -> Hp -> Prop} (h : c < 192) (k : P (.bool (!decide (up c = c))) ⟨0, []⟩) : Run T (W T (n + 30) w) 56 [.int c] ⟨0, []⟩ P := by
 refine Yv rfl ?_
 refine Zm [] [] rfl ?_
 refine Zay h ?_
 exact ret_of [] [] rfl rfl k
theorem Zlx {n : Nat} {l : List Int} {P : V -> Hp -> Prop} (h : ∀ x ∈ l, x < 192) (hl : l.length <= 400) (k : P (.bool (l.any fun c => !decide (lo c = c))) ⟨1, [(0, .il l)]⟩) : Run T (W T (n + 60) true) 66 [.ref 0] ⟨1, [(0, .il l)]⟩ P := by
 have z := Zo (Nat.le_trans hl (Nat.le_of_ble_eq_true rfl))
 refine Yv rfl ?_
 w_means
 refine Qx (fun c => .bool (!decide (lo c = c))) ?_ ?_ (fun x hx K q => ?_) ?_
 · exact rfl
 · exact fun x hx K q => q
 · refine Zm [] [] rfl ?_
   refine Zdr (h x hx) ?_
   exact q
 · refine .inr ?_
   refine Zp (l.map fun c => (!decide (lo c = c))) ?_ ?_
   · rw [List.map_map]; rfl
   · have z' : sz (l.map fun c => V.bool (!decide (lo c = c))).length = true := by rw [List.length_map]; exact z
     have e : (l.map fun c => (!decide (lo c = c))).any id = l.any fun c => !decide (lo c = c) := by rw [List.any_map]; rfl
     w_means
     rw [<- e] at k
     exact ret_of [0] [] rfl rfl k
noncomputable def Zd (l : List Nat) : List Int := l.map Int.ofNat
theorem Zaz {n : Nat} {l : List Nat} {P : V -> Hp -> Prop} (hl : l.length <= 400) (k : P (.ref 0) ⟨1, [(0, .il (Zd l))]⟩) : Run T (W T (n + 60) true) 606 [.str l] ⟨0, []⟩ P := by
 have z := Zo (Nat.le_trans hl (Nat.le_of_ble_eq_true rfl))
 refine Yv rfl ?_
 w_means
 refine Qx (fun c => .int (Int.ofNat c)) ?_ ?_ ?_ ?_
 · exact trivial
 · exact fun x hx K q => q
 · exact fun x hx K q => q
 refine .inl ⟨Zd l, ?_, ?_⟩
 · show l.map _ = _
   unfold Zd; rw [List.map_map]; rfl
 · exact ret_of [0] [] rfl rfl k
end Mine.Ab.Cc
namespace Mine.Ab.Cc
noncomputable def Ws (fd : Bool) : List Int -> List Int -> Bool
 | [], _ => true
 | c :: cs, os => match os with
   | [] => false
   | o :: os => (decide (o = c) || (fd && decide (lo o = lo c))) && Ws fd cs os
theorem Yeq {fd : Bool} {c o : Int} {b r : List Int} (h : (decide (o = c) || (fd && decide (lo o = lo c))) = true) : Ws fd b r = Ws fd (c :: b) (o :: r) := by
 show _ = (_ && _)
 rw [h]; rfl
theorem Yer {fd : Bool} {c o : Int} {b r : List Int} (h : (decide (o = c) || (fd && decide (lo o = lo c))) = false) : Ws fd (c :: b) (o :: r) = false := by
 show (_ && _) = _
 rw [h]; rfl
theorem Yes {n : Nat} {fd : Bool} {codes t p cells : List Int} {gs ge zv tk ct pt pl : Int} {Q : Fl -> Fm -> Hp -> Prop} (G : Gap cells gs ge t) (hz : zv = t.length + 1) (ht : ∀ x ∈ t, x < 192) (hcd : ∀ x ∈ codes, x < 192)
   (hp : pl = p.length + 1) (hl : codes.length <= 100) : ∀ (b a q r : List Int) (m : Fm) (j : Int), codes = a ++ b -> t = p ++ (q ++ r) -> q.length = a.length -> b.length <= r.length -> j = a.length -> (m = [] \/ ∃ x y, m = [(11, x), (12, y)]) ->
   (∀ m, Q (match Ws fd b r with | true => .nx | false => .ret (.bool false)) m ⟨8, [(0, .inst 104 [(1, .ref 1), (8, .bool fd)]), (1, .il codes), (2, Oh pt zv tk ct 3 5 7), (3, Oi 4 gs ge), (4, .il cells), (5, Oj 6), (6, .dct []), (7, .il [])]⟩) ->
   Oe (fun _ => True) (fun v m _ k => Ww 11 v m k) (fun Q m H' => (W T (n + 100) true).s 8 [.asg 12 (.meth (.loc 9) 13 [.bin 0 (.loc 10) (.loc 11)]), .ite (.and (.cmp 1 (.loc 12) (.item (.fld (.loc 7) 1) (.loc 11))) (.not (.and (.fld (.loc 7) 8) (.cmp 0 (.call 42 [.loc 12]) (.call 42 [.item (.fld (.loc 7) 1) (.loc 11)]))))) [.ret (.lit (.bool false))] []] Q m H') Q (Xw j codes.length)
     ((7, .ref 0) :: (9, .ref 2) :: (10, .int pl) :: m) ⟨8, [(0, .inst 104 [(1, .ref 1), (8, .bool fd)]), (1, .il codes), (2, Oh pt zv tk ct 3 5 7), (3, Oi 4 gs ge), (4, .il cells), (5, Oj 6), (6, .dct []), (7, .il [])]⟩ := by
 intro b
 induction b with
 | nil =>
   intro a q r m j e1 e2 h1 h2 h3 hm k
   rw [Zav (by rw [e1, h3, List.append_nil]; exact Int.le_refl _)]
   exact ⟨trivial, k _⟩
 | cons c b ih =>
   intro a q r m j e1 e2 h1 h2 h3 hm k
   cases r with
   | nil => exact absurd h2 (by simp)
   | cons o r =>
     rw [Zdl (by rw [e1, h3, List.length_append, List.length_cons]; exact il (L0 (N2 _ _) V0 (.a nA kI) (.a nA (.a nB kI)) rfl))]
     have x1 : IX j := Xb (L1 (N1 _) (V1 _) 1 nA vA (Zl h3) kZ vA rfl) (by rw [e1, List.length_append] at hl; exact nc fun zz => L3 (N2 _ _) (V1 _) 1 (.a nA (.a nB kI)) (.k 100) (nl hl) 1 vA nA (Zj h3) 1 (.a (.k 1000) kI) vA zz kI kZ rfl)
     have gl := G.n
     rw [e2] at gl hz
     simp only [List.length_append, List.length_cons] at gl hz
     have t1 : decide (pl + j < 1) = false := decide_eq_false (fun zz => gf (L3 (N1 _) (V2 _ _) 1 (.a nA kI) vA (Zl hp) 1 kZ vB ((of_decide_eq_true x1).1) 1 (.a (.a vA vB) kI) kI (li zz) kI kZ rfl))
     have t2 : decide (zv <= pl + j) = false := decide_eq_false (fun zz => gf (L5 (N4 _ _ _ _) (V3 _ _ _) 1 vA (.a nA kI) (Zj hp) 1 nC nB (Yq h1) 1 vB nC (Zj h3) 1 (.a (.a nA (.a nB (.a nD kI))) kI) vC (Zl hz) 1 vC (.a vA vB) zz kI kZ rfl))
     have gc : codes[j.toNat]? = some c := by
       rw [e1, h3]
       show (a ++ c :: b)[a.length]? = _
       rw [List.getElem?_append_right (Nat.le_refl _), Nat.sub_self]; rfl
     rw [e2, <- List.append_assoc] at G
     have hcc : c < 192 := hcd c (by rw [e1]; exact List.mem_append_right _ (.head _))
     have hoo : o < 192 := ht o (by rw [e2]; exact List.mem_append_right _ (List.mem_append_right _ (.head _)))
     have st : ∀ u v, Ws fd b r = Ws fd (c :: b) (o :: r) -> Oe (fun _ => True) (fun v m _ k => Ww 11 v m k) (fun Q m H' => (W T (n + 100) true).s 8 [.asg 12 (.meth (.loc 9) 13 [.bin 0 (.loc 10) (.loc 11)]), .ite (.and (.cmp 1 (.loc 12) (.item (.fld (.loc 7) 1) (.loc 11))) (.not (.and (.fld (.loc 7) 8) (.cmp 0 (.call 42 [.loc 12]) (.call 42 [.item (.fld (.loc 7) 1) (.loc 11)]))))) [.ret (.lit (.bool false))] []] Q m H') Q (Xw (j + 1) codes.length)
       ((7, .ref 0) :: (9, .ref 2) :: (10, .int pl) :: [(11, u), (12, v)]) ⟨8, [(0, .inst 104 [(1, .ref 1), (8, .bool fd)]), (1, .il codes), (2, Oh pt zv tk ct 3 5 7), (3, Oi 4 gs ge), (4, .il cells), (5, Oj 6), (6, .dct []), (7, .il [])]⟩ := fun u v h => by
         refine ih (a ++ [c]) (q ++ [o]) r _ _ (by rw [e1, List.append_assoc]; rfl) (by rw [e2, List.append_assoc q]; rfl) (by rw [List.length_append, List.length_append, h1]; rfl) (Nat.le_of_succ_le_succ h2) (by rw [h3, List.length_append]; rfl) (.inr ⟨_, _, rfl⟩) ?_
         rw [h]; exact k
     clear ih
     refine ⟨trivial, ?_⟩
     have no : (decide (o = c) || (fd && decide (lo o = lo c))) = false -> Q (.ret (.bool false)) ((7, .ref 0) :: (9, .ref 2) :: (10, .int pl) :: [(11, .int j), (12, .int o)]) ⟨8, [(0, .inst 104 [(1, .ref 1), (8, .bool fd)]), (1, .il codes), (2, Oh pt zv tk ct 3 5 7), (3, Oi 4 gs ge), (4, .il cells), (5, Oj 6), (6, .dct []), (7, .il [])]⟩ := fun h => by
       have := k ((7, .ref 0) :: (9, .ref 2) :: (10, .int pl) :: [(11, .int j), (12, .int o)])
       rw [Yer h] at this
       exact this
     have st := fun h => st (.int j) (.int o) (Yeq h)
     clear k
     rcases hm with rfl | ⟨x, y, rfl⟩
     all_goals
       w_means
       refine Zm [3, 4] [] rfl ?_
       refine Yep G (by rw [List.length_append]; exact M3 (N3 _ _ _) (V2 _ _) 1 vA (.a nA kI) hp (-1) nB nC (nq h1) 1 vB nC h3 (.s (.a vA vB) kI) (.a nA nB) rfl) ?_
       w_means
       refine Us gc ?_
       refine Zgn (fun h1 => ?_) (fun h1 => ?_)
       · cases fd with
         | false =>
           w_fin
           exact no (by rw [decide_eq_false h1]; rfl)
         | true =>
           w_fin
           refine Zm [] [] rfl ?_
           refine fold_ok hoo ?_
           w_means
           refine Us gc ?_
           refine Zm [] [] rfl ?_
           refine fold_ok hcc ?_
           refine Zgn (fun h2 => ?_) (fun h2 => ?_)
           · exact no (by rw [decide_eq_false h1, decide_eq_false h2]; rfl)
           · exact st (by rw [decide_eq_true h2]; exact Bool.or_true _)
       · w_fin
         exact st (by rw [decide_eq_true h1]; rfl)
noncomputable abbrev Jj (fd : Bool) (codes cells : List Int) (pt zv tk ct gs ge : Int) : List (Nat × O) := [(0, .inst 104 [(1, .ref 1), (8, .bool fd)]), (1, .il codes), (2, Oh pt zv tk ct 3 5 7), (3, Oi 4 gs ge), (4, .il cells), (5, Oj 6), (6, .dct []), (7, .il [])]
theorem Yet {n : Nat} {fd : Bool} {codes t p r cells : List Int} {gs ge zv tk ct pt pl : Int} {P : V -> Hp -> Prop} (G : Gap cells gs ge t) (hz : zv = t.length + 1) (ht : ∀ x ∈ t, x < 192) (hcd : ∀ x ∈ codes, x < 192)
  (hp : pl = p.length + 1) (hl : codes.length <= 100) (e : t = p ++ r) (h : codes.length <= r.length) (k : P (.bool (Ws fd codes r)) ⟨8, Jj fd codes cells pt zv tk ct gs ge⟩) :
  Run T (W T (n + 110) true) 94 [.ref 0, .ref 2, .int pl] ⟨8, Jj fd codes cells pt zv tk ct gs ge⟩ P := by
 have z := Zo (Nat.le_trans hl (Nat.le_of_ble_eq_true rfl))
 have z1 : decide (-1000000 <= (codes.length : Int) /\ (codes.length : Int) <= 1000000) = true := decide_eq_true (⟨L0 (N1 _) V0 (.k (-1000000)) nA rfl, L1 (N1 _) V0 10000 nA (.k 100) (nl hl) nA (.k 1000000) rfl⟩)
 refine Yv rfl ?_
 w_means
 refine Yes (n := n + 9) G hz ht hcd hp hl codes [] [] r [] 0 rfl e rfl h rfl (.inl rfl) fun m => ?_
 cases hb : Ws fd codes r with
 | true => rw [hb] at k; exact ret_of [0, 1, 2, 3, 4, 5, 6, 7] [] rfl rfl k
 | false => rw [hb] at k; exact ret_of [0, 1, 2, 3, 4, 5, 6, 7] [] rfl rfl k
end Mine.Ab.Cc
namespace Mine.Ab.Cc
noncomputable def Jk (fd : Bool) (codes : List Int) : List Int -> List Int -> Prop
 | [], _ => True
 | o :: u, v => Ws fd codes (o :: (u ++ v)) = false /\ Jk fd codes u v
theorem Zly {fd : Bool} : ∀ {cs os : List Int}, os.length < cs.length -> Ws fd cs os = false
 | [], os, h => absurd h (Nat.not_lt_zero _)
 | c :: cs, [], _ => rfl
 | c :: cs, o :: os, h => by
  show (_ && _) = _
  rw [Zly (Nat.lt_of_succ_lt_succ h), Bool.and_false]
theorem Zlz {fd : Bool} {cs : List Int} : ∀ {u : List Int}, u.length < cs.length -> Jk fd cs u []
 | [], _ => trivial
 | o :: u, h => ⟨Zly (by rw [List.append_nil]; exact h), Zlz (Nat.lt_of_succ_lt h)⟩
theorem Yeu {n : Nat} {fd : Bool} {codes t cells : List Int} {gs ge zv tk ct pt pl bd : Int} {Q : Fl -> Fm -> Hp -> Prop} (G : Gap cells gs ge t) (hz : zv = t.length + 1) (ht : ∀ x ∈ t, x < 192) (hcd : ∀ x ∈ codes, x < 192)
   (hl : codes.length <= 100) (hc : 1 <= codes.length) : ∀ (r p : List Int) (m : Fm) (j : Int), t = p ++ r -> j = p.length + 1 -> (m = [] \/ ∃ x, m = [(15, x)]) ->
   (Jk fd codes r [] -> ∀ m, Q .nx m ⟨8, Jj fd codes cells pt zv tk ct gs ge⟩) ->
   (∀ u v m, r = u ++ v -> Jk fd codes u v -> Ws fd codes v = true -> Q (.ret (.ref 8)) m ⟨9, (8, .tup [.int (j + u.length), .int (j + u.length + codes.length)]) :: Jj fd codes cells pt zv tk ct gs ge⟩) ->
   Oe (fun _ => True) (fun v m _ k => Ww 15 v m k) (fun Q m H' => (W T (n + 120) true).s 8 [.ite (.meth (.loc 7) 16 [.loc 9, .loc 15]) [.ret (.tup [.loc 15, .bin 0 (.loc 15) (.bi 0 [.fld (.loc 7) 1])])] []] Q m H') Q (Xw j (zv - codes.length + 1))
     ((7, .ref 0) :: (9, .ref 2) :: (10, .int pl) :: (14, .int bd) :: m) ⟨8, Jj fd codes cells pt zv tk ct gs ge⟩ := by
 intro r
 induction r with
 | nil =>
   intro p m j e hj hm k1 k2
   rw [Zav (by rw [hz, e, List.append_nil]; exact L2 (N2 _ _) (V1 _) 1 kI nB (nl hc) 1 (.a nA kI) vA (Zl hj) (.a (.s (.a nA kI) nB) kI) vA rfl)]
   exact ⟨trivial, k1 trivial _⟩
 | cons o r ih =>
   intro p m j e hj hm k1 k2
   have hlen : (t.length : Int) = p.length + (r.length + 1) := by rw [e, List.length_append, List.length_cons]; rfl
   by_cases h : (o :: r).length < codes.length
   · rw [Zav (by rw [List.length_cons] at h; exact L4 (N4 _ _ _ _) (V2 _ _) 1 vA (.a nB kI) (Zj hz) 1 (.a nC kI) vB (Zl hj) 1 nB (.a nC (.a nD kI)) (Zj hlen) 1 (.a (.a nD kI) kI) nA (Wi h) (.a (.s vA nA) kI) vB rfl)]
     exact ⟨trivial, k1 (Zlz h) _⟩
   · have h := Nat.le_of_not_lt h
     rw [Zdl (by rw [List.length_cons] at h; exact il (L4 (N4 _ _ _ _) (V2 _ _) 1 (.a nB kI) vB (Zl hz) 1 vA (.a nC kI) (Zj hj) 1 (.a nC (.a nD kI)) nB (Zl hlen) 1 nA (.a nD kI) (nl h) (.a vA kI) (.a (.s vB nA) kI) rfl))]
     refine ⟨trivial, ?_⟩
     have z := Zo (Nat.le_trans hl (Nat.le_of_ble_eq_true rfl))
     rcases hm with rfl | ⟨x, rfl⟩
     all_goals
       refine Zm [0, 1, 2, 3, 4, 5, 6, 7] [] rfl ?_
       refine Yet (p := p) G hz ht hcd hj hl e h ?_
       cases hb : Ws fd codes (o :: r) with
       | true =>
         w_fin
         have := k2 [] (o :: r) ((7, .ref 0) :: (9, .ref 2) :: (10, .int pl) :: (14, .int bd) :: [(15, .int j)]) rfl trivial hb
         rw [List.length_nil, Int.natCast_zero, Int.add_zero] at this
         exact this
       | false =>
         w_fin
         refine ih (p ++ [o]) _ (j + 1) (by rw [e, List.append_assoc]; rfl) (by rw [List.length_append, List.length_singleton]; exact M1 (N1 _) (V1 _) 1 vA (.a nA kI) hj (.a vA kI) (.a (.a nA kI) kI) rfl) (.inr ⟨_, rfl⟩) (fun h => k1 ⟨by rw [List.append_nil]; exact hb, h⟩) fun u v m e' h1 h2 => ?_
         have := k2 (o :: u) v m (by rw [e']; rfl) ⟨by rw [<- e']; exact hb, h1⟩ h2
         rw [List.length_cons] at this
         have e2 : j + 1 + (u.length : Int) = j + ((u.length + 1 : Nat) : Int) := M0 (N1 _) (V1 _) (.a (.a vA kI) nA) (.a vA (.a nA kI)) rfl
         rw [e2]; exact this
theorem Zba {n : Nat} {fd : Bool} {codes t p r cells : List Int} {gs ge zv tk ct pt pl : Int} {P : V -> Hp -> Prop} (G : Gap cells gs ge t) (hz : zv = t.length + 1) (ht : ∀ x ∈ t, x < 192) (hcd : ∀ x ∈ codes, x < 192)
   (hl : codes.length <= 100) (hc : 1 <= codes.length) (e : t = p ++ r) (hp : pl = p.length + 1)
   (k1 : Jk fd codes r [] -> P .none ⟨8, Jj fd codes cells pt zv tk ct gs ge⟩)
   (k2 : ∀ u v, r = u ++ v -> Jk fd codes u v -> Ws fd codes v = true -> P (.ref 8) ⟨9, Jj fd codes cells pt zv tk ct gs ge ++ [(8, .tup [.int (pl + u.length), .int (pl + u.length + codes.length)])]⟩) :
   Run T (W T (n + 130) true) 101 [.ref 0, .ref 2, .int pl, .int zv] ⟨8, Jj fd codes cells pt zv tk ct gs ge⟩ P := by
 have z := Zo (Nat.le_trans hl (Nat.le_of_ble_eq_true rfl))
 have z1 : decide (-1000000 <= pl /\ pl <= 1000000 /\ -1000000 <= zv - codes.length + 1 /\ zv - codes.length + 1 <= 1000000) = true := by
   have gl := G.n
   rw [e, List.length_append] at gl hz
   exact decide_eq_true (⟨nc fun zz => L2 (N1 _) (V1 _) 1 (.a nA kI) vA (Zl hp) 1 (.a vA kI) (.k (-1000000)) zz kI kZ rfl, ⟨nc fun zz => L4 (N2 _ _) (V3 _ _ _) 1 vA (.a nA kI) (Zj hp) 1 vB vC gl.2.1 1 (.a (.a nA nB) (.s vC vB)) (.k 400) gl.2.2.2 1 (.a (.k 1000000) kI) vA zz kI kZ rfl, ⟨nc fun zz => L3 (N3 _ _ _) (V1 _) 1 (.a (.a nA nB) kI) vA (Zl hz) 1 nC (.k 100) (nl hl) 1 (.a (.a (.s vA nC) kI) kI) (.k (-1000000)) zz kI kZ rfl, nc fun zz => L4 (N3 _ _ _) (V3 _ _ _) 1 vA (.a (.a nA nB) kI) (Zj hz) 1 vB vC gl.2.1 1 (.a (.a nA nB) (.s vC vB)) (.k 400) gl.2.2.2 1 (.a (.k 1000000) kI) (.a (.s vA nC) kI) zz kI kZ rfl⟩⟩⟩)
 refine Yv rfl ?_
 w_means
 refine Yeu (n := n + 9) G hz ht hcd hl hc r p [] pl e hp (.inl rfl) (fun h m => ?_) (fun u v m h1 h2 h3 => ?_)
 · exact ret_of [0, 1, 2, 3, 4, 5, 6, 7] [] rfl rfl (k1 h)
 · exact ret_of [0, 1, 2, 3, 4, 5, 6, 7, 8] [] rfl rfl (k2 u v h1 h2 h3)
end Mine.Ab.Cc
namespace Mine.Ab.Cc
noncomputable def Yx : List Int := [97, 65, 98, 66, 32, 45, 49, 120, 121]
noncomputable def kindOf (c : Int) : List Nat := match decide (c = 32) with
 | true => [32]
 | false => match decide (c = 45) with
   | true => [95]
   | false => [119]
noncomputable abbrev Yw (k : List Nat) : O := .inst 502 [(76, .str k), (77, .none), (78, .str [])]
noncomputable abbrev Qi (r : Nat) : O := .inst 583 [(81, .none), (82, .ref r)]
noncomputable abbrev Zbb (w b u : Nat) : List (Int × V) := [(97, .ref w), (65, .ref w), (98, .ref w), (66, .ref w), (32, .ref b), (45, .ref u), (49, .ref w), (120, .ref w), (121, .ref w)]
noncomputable abbrev Qy (w b u : Nat) : O := .pdct (Zbb w b u)
theorem Yev {α : Type} {o : Option α} {a : α} {k : α -> Prop} (e : o = some a) (h : k a) : Xe o k := by rw [e]; exact h
theorem Zdt {n : Nat} {c : Int} {P : V -> Hp -> Prop} (h : c ∈ Yx) (k : P (.str (kindOf c)) ⟨5, [(0, Qi 1), (1, Qy 2 3 4), (2, Yw [119]), (3, Yw [32]), (4, Yw [95])]⟩) :
  Run T (W T (n + 60) true) 573 [.ref 0, .int c] ⟨5, [(0, Qi 1), (1, Qy 2 3 4), (2, Yw [119]), (3, Yw [32]), (4, Yw [95])]⟩ P := by
 have key : (Yn c (Zbb 2 3 4) = some (.ref 2) /\ kindOf c = [119]) \/ (Yn c (Zbb 2 3 4) = some (.ref 3) /\ kindOf c = [32]) \/ (Yn c (Zbb 2 3 4) = some (.ref 4) /\ kindOf c = [95]) := by
  unfold Yx at h
  simp only [List.mem_cons, List.not_mem_nil, or_false] at h
  rcases h with rfl | rfl | rfl | rfl | rfl | rfl | rfl | rfl | rfl <;> first | exact .inl ⟨rfl, rfl⟩ | exact .inr (.inl ⟨rfl, rfl⟩) | exact .inr (.inr ⟨rfl, rfl⟩)
 rcases key with ⟨e, e'⟩ | ⟨e, e'⟩ | ⟨e, e'⟩
 all_goals
  rw [e'] at k
  refine Yv rfl ?_
  refine Exists.intro [0, 2] (Exists.intro [0, 1, 2, 3, 4] (Exists.intro [] ?_))
  w_fin
  refine Yev e ?_
  w_fin
  exact ret_of [0, 1, 2, 3, 4] [] rfl rfl k
noncomputable def Qj (c : Int) : Bool := !decide (up c = c)
noncomputable def Jl (c : Int) : Bool := !decide (lo c = c)
noncomputable def Ol (c : Int) : Bool := decide (kindOf c = [119])
structure Sh where
 l : Bool
 u : Bool
 g : Bool
 p : Bool
noncomputable def Zbc (s : Sh) (c : Int) (w i : Bool) : Sh := match Qj c || Jl c with
 | true => ⟨s.l || Qj c, s.u || Jl c, s.g || i, s.p || (Qj c && !i)⟩
 | false => match w && !i with
   | true => ⟨s.l, s.u, s.g, true⟩
   | false => s
noncomputable def shape : List Int -> Sh -> Bool -> Sh
 | [], s, _ => s
 | c :: r, s, i => shape r (Zbc s c (Ol c) i) (Ol c)
noncomputable abbrev Vh (s : Sh) : O := .inst 171 [(19, .bool s.l), (20, .bool s.u), (21, .bool s.g), (22, .bool s.p)]
theorem Um {c : Int} (h : c ∈ Yx) : c < 192 := (show ∀ c ∈ Yx, c < 192 by decide +kernel) c h
noncomputable abbrev Hn (o : O) (codes : List Int) : List (Nat × O) := [(0, o), (1, .il codes), (2, Qi 3), (3, Qy 4 5 6), (4, Yw [119]), (5, Yw [32]), (6, Yw [95])]
theorem Yew {n : Nat} {all : List Int} {Q : Fl -> Fm -> Hp -> Prop} : ∀ (codes : List Int) (s : Sh) (i : Bool) (m : Fm), (∀ x ∈ codes, x ∈ Yx) -> (m = [] \/ ∃ x y, m = [(0, x), (23, y)]) -> (∀ m, Q .nx m ⟨7, Hn (Vh (shape codes s i)) all⟩) ->
   Oe (fun H' => H'.look 1 = some (.il all)) (fun v m _ k => Ww 0 v m k) (fun Q m H' => (W T (n + 100) true).s 7 [.asg 23 (.cmp 0 (.meth (.loc 2) 6 [.loc 0]) (.lit (.str [119]))), .ex (.meth (.loc 7) 24 [.loc 0, .loc 23, .loc 4]), .asg 4 (.loc 23)] Q m H') Q (codes.map .int)
     ((7, .ref 0) :: (1, .ref 1) :: (2, .ref 2) :: (4, .bool i) :: m) ⟨7, Hn (Vh s) all⟩ := by
 intro codes
 induction codes with
 | nil => intro s i m h hm k; exact ⟨rfl, k _⟩
 | cons c r ih =>
   intro s i m h hm k
   have hc := h c (.head _)
   have hc' := Um hc
   have hr := fun x hx => h x (.tail _ hx)
   refine ⟨rfl, ?_⟩
   rcases hm with rfl | ⟨x, y, rfl⟩
   all_goals
     refine Zm [2, 3, 4, 5, 6] [] rfl ?_
     refine Zdt hc ?_
     refine Zm [] [] rfl ?_
     refine Zds hc' ?_
     refine (?_ : br _ _ _)
     refine Hl (y := Jl c) (fun q => ?_) ?_
     · refine Zm [] [] rfl ?_
       exact Zdr hc' q
     refine Xd (fun e => ?_) (fun e => ?_)
     · have k : ∀ m, Q .nx m ⟨7, Hn (Vh (shape r ⟨s.l || Qj c, s.u || Jl c, s.g || i, s.p || (Qj c && !i)⟩ (Ol c))) all⟩ := fun m => by
         have := k m
         unfold shape Zbc at this
         rw [show (Qj c || Jl c) = true from e] at this
         exact this
       refine (?_ : br _ _ _)
       refine Hl (y := Qj c) (fun q => ?_) ?_
       · refine Zm [] [] rfl ?_
         exact Zds hc' q
       refine br_T rfl ?_
       refine (?_ : br _ _ _)
       refine Hl (y := Jl c) (fun q => ?_) ?_
       · refine Zm [] [] rfl ?_
         exact Zdr hc' q
       refine br_T rfl ?_
       refine (?_ : br _ _ _)
       refine Hl (y := i) (fun q => Zln rfl q) ?_
       refine br_T rfl ?_
       refine (?_ : br _ _ _)
       refine Hl (y := Qj c && !i) (fun q => ?_) ?_
       · refine Zm [] [] rfl ?_
         refine Zds hc' ?_
         refine (?_ : br _ _ _)
         refine Kp (x := Qj c) (y := !i) (fun q => Re rfl q) ?_
         exact q
       refine br_T rfl ?_
       exact ih _ _ _ hr (.inr ⟨_, _, rfl⟩) k
     · refine (?_ : br _ _ _)
       refine Kp (y := !i) (fun q => Re rfl q) ?_
       refine Xd (fun e' => ?_) (fun e' => ?_)
       · have k : ∀ m, Q .nx m ⟨7, Hn (Vh (shape r ⟨s.l, s.u, s.g, true⟩ (Ol c))) all⟩ := fun m => by
           have := k m
           unfold shape Zbc at this
           rw [show (Qj c || Jl c) = false from e, show (Ol c && !i) = true from e'] at this
           exact this
         refine br_T rfl ?_
         exact ih _ _ _ hr (.inr ⟨_, _, rfl⟩) k
       · have k : ∀ m, Q .nx m ⟨7, Hn (Vh (shape r s (Ol c))) all⟩ := fun m => by
           have := k m
           unfold shape Zbc at this
           rw [show (Qj c || Jl c) = false from e, show (Ol c && !i) = false from e'] at this
           exact this
         exact ih _ _ _ hr (.inr ⟨_, _, rfl⟩) k
theorem Yex {n : Nat} {codes : List Int} {P : V -> Hp -> Prop} (h : ∀ x ∈ codes, x ∈ Yx) (hl : codes.length <= 400) (k : P .none ⟨7, Hn (Vh (shape codes ⟨false, false, false, false⟩ false)) codes⟩) :
  Run T (W T (n + 120) true) 161 [.ref 0, .ref 1, .ref 2] ⟨7, Hn (.inst 171 []) codes⟩ P := by
 have z := Zo (Nat.le_trans hl (Nat.le_of_ble_eq_true rfl))
 refine Yv rfl ?_
 w_fin
 refine Yew codes ⟨false, false, false, false⟩ false [] h (.inl rfl) fun m => ?_
 exact ret_of [0, 1, 2, 3, 4, 5, 6] [] rfl rfl k
end Mine.Ab.Cc
namespace Mine.Ab.Cc
noncomputable def ini : List Int -> Bool -> List Int
 | [], _ => []
 | c :: r, i => (match i with
   | true => c
   | false => up c) :: ini r (Ol c)
theorem Zma : ∀ {l : List Int} {i : Bool}, (ini l i).length = l.length
 | [], _ => rfl
 | c :: r, i => congrArg Nat.succ Zma
noncomputable abbrev inH (acc codes : List Int) : List (Nat × O) := [(7, .tup [.ref 6, .bool false]), (6, .il acc), (0, .il codes), (1, Qi 2), (2, Qy 3 4 5), (3, Yw [119]), (4, Yw [32]), (5, Yw [95])]
theorem Yey {n : Nat} {all : List Int} {Q : Fl -> Fm -> Hp -> Prop} : ∀ (codes acc : List Int) (i : Bool) (m : Fm), (∀ x ∈ codes, x ∈ Yx) -> acc.length + codes.length <= 400 -> (m = [] \/ ∃ x, m = [(0, x)]) -> (∀ m, Q .nx ((1, .ref 0) :: (2, .ref 1) :: (3, .ref 6) :: m) ⟨8, inH (acc ++ ini codes i) all⟩) ->
  Oe (fun H' => H'.look 0 = some (.il all)) (fun v m _ k => Ww 0 v m k) (fun Q m H' => (W T (n + 100) true).s 8 [.ex (.meth (.loc 3) 5 [.ite (.loc 4) (.loc 0) (.call 35 [.loc 0])]), .asg 4 (.cmp 0 (.meth (.loc 2) 6 [.loc 0]) (.lit (.str [119])))] Q m H') Q (codes.map .int)
   ((1, .ref 0) :: (2, .ref 1) :: (3, .ref 6) :: (4, .bool i) :: m) ⟨8, inH acc all⟩ := by
 intro codes
 induction codes with
 | nil => intro acc i m h hl hm k; refine ⟨rfl, ?_⟩; rw [show acc ++ ini [] i = acc from List.append_nil _] at k; exact k _
 | cons c r ih =>
  intro acc i m h hl hm k
  have hc := h c (.head _)
  have hr := fun x hx => h x (.tail _ hx)
  rw [List.length_cons] at hl
  have z := Zo (n := acc.length) (gl (nc fun zz => L2 (N2 _ _) V0 1 (.a nA (.a nB kI)) (.k 400) (nl hl) 1 (.a (.k 1000) kI) nA zz kI kZ rfl))
  have st : ∀ v, v = (match i with | true => c | false => up c) -> Oe (fun H' => H'.look 0 = some (.il all)) (fun v m _ k => Ww 0 v m k) (fun Q m H' => (W T (n + 100) true).s 8 [.ex (.meth (.loc 3) 5 [.ite (.loc 4) (.loc 0) (.call 35 [.loc 0])]), .asg 4 (.cmp 0 (.meth (.loc 2) 6 [.loc 0]) (.lit (.str [119])))] Q m H') Q (r.map .int)
   ((1, .ref 0) :: (2, .ref 1) :: (3, .ref 6) :: (4, .bool (Ol c)) :: [(0, .int c)]) ⟨8, inH (acc ++ [v]) all⟩ := fun v hv => by
    refine ih (acc ++ [v]) (Ol c) _ hr (by rw [List.length_append, List.length_singleton]; exact gl (L1 (N2 _ _) V0 1 (.a nA (.a nB kI)) (.k 400) (nl hl) (.a (.a nA kI) nB) (.k 400) rfl)) (.inr ⟨_, rfl⟩) ?_
    rw [List.append_assoc, hv]
    exact k
  clear ih k
  refine ⟨rfl, ?_⟩
  rcases hm with rfl | ⟨x, rfl⟩
  all_goals
   cases i with
   | true =>
    w_fin
    refine Zm [1, 2, 3, 4, 5] [] rfl ?_
    refine Zdt hc ?_
    exact st c rfl
   | false =>
    w_fin
    refine Zm [] [] rfl ?_
    refine Zay (Um hc) ?_
    w_fin
    refine Zm [1, 2, 3, 4, 5] [] rfl ?_
    refine Zdt hc ?_
    exact st (up c) rfl
theorem Yez {n : Nat} {codes : List Int} {P : V -> Hp -> Prop} (h : ∀ x ∈ codes, x ∈ Yx) (hl : codes.length <= 400) (k : P (.ref 6) ⟨7, [(0, .il codes), (1, Qi 2), (2, Qy 3 4 5), (3, Yw [119]), (4, Yw [32]), (5, Yw [95]), (6, .il (ini codes false))]⟩) :
  Run T (W T (n + 120) true) 73 [.ref 0, .ref 1] ⟨6, [(0, .il codes), (1, Qi 2), (2, Qy 3 4 5), (3, Yw [119]), (4, Yw [32]), (5, Yw [95])]⟩ P := by
 have z := Zo (Nat.le_trans hl (Nat.le_of_ble_eq_true rfl))
 refine Yv rfl ?_
 w_fin
 refine Yey codes [] false [] h (by rw [List.length_nil, Nat.zero_add]; exact hl) (.inl rfl) fun m => ?_
 exact ret_of [0, 1, 2, 3, 4, 5, 6] [] rfl rfl k
noncomputable def Vi (s : Sh) : Nat := match s.g && !s.l with
 | true => 2
 | false => match s.g && !s.p with
   | true => 1
   | false => match s.u && !s.p with
     | true => 2
     | false => 0
noncomputable def Yy (k : Nat) (l : List Int) : List Int := match k with
 | 0 => l
 | 1 => ini l false
 | _ => l.map up
noncomputable def Yp (l : List Int) : Nat := Vi (shape l ⟨false, false, false, false⟩ false)
noncomputable abbrev caH (new model : List Int) : List (Nat × O) := [(0, .il new), (1, .il model), (2, Qi 3), (3, Qy 4 5 6), (4, Yw [119]), (5, Yw [32]), (6, Yw [95])]
theorem Yfa {n : Nat} {new model : List Int} {P : V -> Hp -> Prop} (h : ∀ x ∈ new, x ∈ Yx) (h' : ∀ x ∈ model, x ∈ Yx) (hl : new.length <= 400) (hl' : model.length <= 400) (k : P (.ref 7) ⟨8, caH new model ++ [(7, .il (Yy (Yp model) new))]⟩) :
   Run T (W T (n + 200) true) 196 [.ref 0, .ref 1, .ref 2] ⟨7, caH new model⟩ P := by
 have z := Zo (Nat.le_trans hl (Nat.le_of_ble_eq_true rfl))
 refine Yv rfl ?_
 refine Zm [7, 1, 2, 3, 4, 5, 6] [] rfl ?_
 refine Yex h' hl' ?_
 have hm : Yp model = Vi (shape model ⟨false, false, false, false⟩ false) := rfl
 generalize shape model ⟨false, false, false, false⟩ false = s at hm
 refine (?_ : br _ _ _)
 refine Kp (y := !s.l) (fun q => Zdn rfl rfl rfl q) ?_
 have up : ∀ {Q : List V -> Hp -> Prop} {H : Hp} {chk : Hp -> Prop} {elt cond : V -> (V -> Hp -> Prop) -> Hp -> Prop}, chk H -> (∀ x ∈ new, ∀ K : V -> Hp -> Prop, K (.bool true) H -> cond (.int x) K H) -> (∀ x ∈ new, ∀ K : V -> Hp -> Prop, K (.int (up x)) H -> elt (.int x) K H) -> Q (new.map fun x => .int (up x)) H -> Uu chk elt cond Q (new.map .int) [] H :=
   fun h1 h2 h3 h4 => Qx (fun x => .int (Cc.up x)) h1 h2 h3 h4
 refine Xd (fun e => ?_) (fun e => ?_)
 · have k2 : Yp model = 2 := by rw [hm]; unfold Vi; rw [e]
   rw [k2] at k
   w_fin
   refine up rfl (fun x hx K q => q) (fun x hx K q => ?_) ?_
   · refine Zm [] [] rfl ?_
     exact Zay (Um (h x hx)) q
   · refine .inl ⟨new.map Cc.up, by rw [List.map_map]; rfl, ?_⟩
     exact ret_of [0, 1, 2, 3, 4, 5, 6, 8] [] rfl rfl k
 · refine (?_ : br _ _ _)
   refine Kp (y := !s.p) (fun q => Zdn rfl rfl rfl q) ?_
   refine Xd (fun e1 => ?_) (fun e1 => ?_)
   · have k2 : Yp model = 1 := by rw [hm]; unfold Vi; rw [e, e1]
     rw [k2] at k
     w_fin
     refine Zm [0, 2, 3, 4, 5, 6] [] rfl ?_
     refine Yez h hl ?_
     exact ret_of [0, 1, 2, 3, 4, 5, 6, 8] [] rfl rfl k
   · refine (?_ : br _ _ _)
     refine Kp (y := !s.p) (fun q => Zdn rfl rfl rfl q) ?_
     refine Xd (fun e2 => ?_) (fun e2 => ?_)
     · have k2 : Yp model = 2 := by rw [hm]; unfold Vi; rw [e, e1]; show (match s.u && !s.p with | true => 2 | false => 0) = 2; rw [e2]
       rw [k2] at k
       w_fin
       refine up rfl (fun x hx K q => q) (fun x hx K q => ?_) ?_
       · refine Zm [] [] rfl ?_
         exact Zay (Um (h x hx)) q
       · refine .inl ⟨new.map Cc.up, by rw [List.map_map]; rfl, ?_⟩
         exact ret_of [0, 1, 2, 3, 4, 5, 6, 8] [] rfl rfl k
     · have k2 : Yp model = 0 := by rw [hm]; unfold Vi; rw [e, e1]; show (match s.u && !s.p with | true => 2 | false => 0) = 0; rw [e2]
       rw [k2] at k
       w_fin
       exact ret_of [0, 1, 2, 3, 4, 5, 6, 8] [] rfl rfl k
end Mine.Ab.Cc
namespace Mine.Ab.Cc
noncomputable abbrev kinds : List Nat := [32, 119, 95, 46, 40, 41, 39, 34, 92, 47, 36, 60, 62, 64, 33, 124]
theorem Vj {n k : Nat} {P : V -> Hp -> Prop} (h : decide ([k] = [45]) = false) (h' : (!(kinds.any fun d => Nat.beq d k)) = false) (q : P (.ref 0) ⟨1, [(0, Yw [k])]⟩) :
  Run T (W T (n + 60) true) 516 [.str [k]] ⟨0, []⟩ P := by
 refine Yv rfl ?_
 (repeat first | (refine (?_ : br _ _ _); first | refine bT ?_ | refine bN ?_ | refine br_T rfl ?_ | refine br_N rfl ?_) | refine aI ?_ | refine aT ?_ | refine ap.mk ?_ | refine Or.inr ?_ | refine Exists.intro [] (And.intro rfl ?_))
 exact ret_of [2] [] rfl rfl q
theorem Vk {n k c : Nat} {P : V -> Hp -> Prop} (h : decide ([k] = [45]) = false) (h' : (!(kinds.any fun d => Nat.beq d k)) = false) (h2 : decide ([c] = [32]) = false) (q : P (.ref 0) ⟨1, [(0, .inst 502 [(76, .str [k]), (77, .int c), (78, .str [])])]⟩) :
  Run T (W T (n + 60) true) 516 [.str [k, c]] ⟨0, []⟩ P := by
 refine Yv rfl ?_
 (repeat first | (refine (?_ : br _ _ _); first | refine bT ?_ | refine bN ?_ | refine br_T rfl ?_ | refine br_N rfl ?_) | refine aI ?_ | refine aT ?_ | refine ap.mk ?_ | refine Or.inr ?_ | refine Exists.intro [] (And.intro rfl ?_))
 exact ret_of [2] [] rfl rfl q
noncomputable def Zdu (s : Nat) : List Nat -> List (Int × V) -> List (Int × V)
 | [], es => es
 | c :: cs, es => Zdu s cs (((c : Int), .ref s) :: es)
section
variable {α : Type} {x y k : Nat} {u v w : α} {r l : List (Nat × α)}
theorem Ho (e : Nat.beq k x = true) : Yk x v ((k, w) :: r) = (k, v) :: r := by rw [Yk, e]
theorem Vl (e : Nat.beq k x = false) : Yk x v ((k, w) :: r) = (k, w) :: Yk x v r := by rw [Yk, e]
theorem Rg (e : Nat.beq k x = true) : Ze x ((k, w) :: r) = some w := by rw [Ze, e]
theorem Hq (e : Nat.beq k x = false) : Ze x ((k, w) :: r) = Ze x r := by rw [Ze, e]
theorem Zmb : ∀ {l : List (Nat × α)}, Yk x u (Yk x v l) = Yk x u l
 | [] => Ho (Nat.beq_refl x)
 | (k, w) :: r => by
  cases e : Nat.beq k x with
  | true => rw [Ho e, Ho e, Ho e]
  | false => rw [Vl e, Vl e, Vl e, Zmb]
theorem Zmc : ∀ {l : List (Nat × α)}, Ze x (Yk x v l) = some v
 | [] => Rg (Nat.beq_refl x)
 | (k, w) :: r => by
  cases e : Nat.beq k x with
  | true => rw [Ho e, Rg e]
  | false => rw [Vl e, Hq e, Zmc]
theorem Zmd (h : Nat.beq x y = false) : ∀ {l : List (Nat × α)}, Ze y (Yk x v l) = Ze y l
 | [] => Hq h
 | (k, w) :: r => by
  cases e : Nat.beq k x with
  | true =>
   have : Nat.beq k y = false := by rw [Nat.eq_of_beq_eq_true e]; exact h
   rw [Ho e, Hq this, Hq this]
  | false =>
   rw [Vl e]
   cases e' : Nat.beq k y with
   | true => rw [Rg e', Rg e']
   | false => rw [Hq e', Hq e', Zmd h]
end
theorem Zme {α : Type} {x : Nat} {v : α} : ∀ {l : List (Nat × α)}, Ze x l = some v -> Yk x v l = l
 | [], h => nomatch h
 | (k, w) :: r, h => by
  cases e : Nat.beq k x with
  | true => rw [Rg e] at h; (replace h := sI h; subst h); exact Ho e
  | false => rw [Hq e] at h; rw [Vl e, Zme h]
theorem Ow {n N M s : Nat} {Q : Fl -> Fm -> Hp -> Prop} {a b : V} : ∀ (cs : List Nat) (es : List (Int × V)) (ob : List (Nat × O)) (m : Fm), Ze 0 ob = some (Qi 1) -> Ze 1 ob = some (.dct es) -> es.length + cs.length <= 1000 -> (m = [] \/ ∃ x, m = [(85, x)]) ->
  (∀ m, Q .nx m ⟨N, Yk 1 (.dct (Zdu s cs es)) ob⟩) ->
  Oe (fun _ => True) (fun v m _ k => Ww 85 v m k) (fun Q m H' => (W T (n + 20) true).s M [.seti (.fld (.loc 7) 82) (.bi 3 [.loc 85]) (.loc 84)] Q m H') Q (cs.map fun c => .str [c])
   ((7, .ref 0) :: (47, a) :: (83, b) :: (84, .ref s) :: m) ⟨N, ob⟩ := by
 intro cs
 induction cs with
 | nil =>
  intro es ob m h0 h1 hl hm k
  refine ⟨trivial, ?_⟩
  have := k ((7, .ref 0) :: (47, a) :: (83, b) :: (84, .ref s) :: m)
  have e : Yk 1 (.dct (Zdu s [] es)) ob = ob := Zme h1
  rw [e] at this
  exact this
 | cons c cs ih =>
  intro es ob m h0 h1 hl hm k
  rw [List.length_cons] at hl
  have st : Oe (fun _ => True) (fun v m _ k => Ww 85 v m k) (fun Q m H' => (W T (n + 20) true).s M [.seti (.fld (.loc 7) 82) (.bi 3 [.loc 85]) (.loc 84)] Q m H') Q (cs.map fun c => .str [c])
   ((7, .ref 0) :: (47, a) :: (83, b) :: (84, .ref s) :: [(85, .str [c])]) ⟨N, Yk 1 (.dct (((c : Int), .ref s) :: es)) ob⟩ := by
    refine ih (((c : Int), .ref s) :: es) _ _ (by rw [Zmd rfl]; exact h0) Zmc (by rw [List.length_cons]; exact gl (L1 (N2 _ _) V0 1 (.a nA (.a nB kI)) (.k 1000) (nl hl) (.a (.a nA kI) nB) (.k 1000) rfl)) (.inr ⟨_, rfl⟩) fun m => ?_
    rw [Zmb]
    exact k m
  have z := Zo (n := es.length) (gl (nc fun zz => L2 (N2 _ _) V0 1 (.a nA (.a nB kI)) (.k 1000) (nl hl) 1 (.a (.k 1000) kI) nA zz kI kZ rfl))
  refine ⟨trivial, ?_⟩
  rcases hm with rfl | ⟨x, rfl⟩
  all_goals
   refine lkL_eq.mpr ⟨_, h0, ?_⟩
   refine lkL_eq.mpr ⟨_, h1, ?_⟩
   refine Ug z ?_
   refine (?_ : Ww 1 (.dct (((c : Int), .ref s) :: es)) ob _)
   rw [Ju]
   exact st
theorem Yfb {n : Nat} {P : V -> Hp -> Prop} (k : P (.ref 0) ⟨5, [(0, Qi 1), (1, Qy 2 3 4), (2, Yw [119]), (3, Yw [32]), (4, Yw [95])]⟩) :
  Run T (W T (n + 200) true) 601 [] ⟨0, []⟩ P := by
 refine Yv rfl ?_
 w_fin
 refine Zm [] [] rfl ?_
 refine Vj rfl rfl ?_
 refine br_T rfl ?_
 refine Ow _ _ _ [] (rfl) (rfl) (Nat.le_of_ble_eq_true rfl) (.inl rfl) fun m => ?_
 w_fin
 refine Zm [] [] rfl ?_
 refine Vj rfl rfl ?_
 refine br_T rfl ?_
 refine Ow _ _ _ [] (rfl) (rfl) (Nat.le_of_ble_eq_true rfl) (.inl rfl) fun m => ?_
 w_fin
 refine Zm [] [] rfl ?_
 refine Vj rfl rfl ?_
 refine br_T rfl ?_
 refine Ow _ _ _ [] (rfl) (rfl) (Nat.le_of_ble_eq_true rfl) (.inl rfl) fun m => ?_
 w_fin
 refine Zm [] [] rfl ?_
 refine Vj rfl rfl ?_
 refine br_T rfl ?_
 refine Ow _ _ _ [] (rfl) (rfl) (Nat.le_of_ble_eq_true rfl) (.inl rfl) fun m => ?_
 w_fin
 refine Zm [] [] rfl ?_
 refine Vk rfl rfl rfl ?_
 refine br_T rfl ?_
 refine Ow _ _ _ [] (rfl) (rfl) (Nat.le_of_ble_eq_true rfl) (.inl rfl) fun m => ?_
 w_fin
 refine Zm [] [] rfl ?_
 refine Vk rfl rfl rfl ?_
 refine br_T rfl ?_
 refine Ow _ _ _ [] (rfl) (rfl) (Nat.le_of_ble_eq_true rfl) (.inl rfl) fun m => ?_
 w_fin
 refine Zm [] [] rfl ?_
 refine Vk rfl rfl rfl ?_
 refine br_T rfl ?_
 refine Ow _ _ _ [] (rfl) (rfl) (Nat.le_of_ble_eq_true rfl) (.inl rfl) fun m => ?_
 w_fin
 refine Zm [] [] rfl ?_
 refine Vk rfl rfl rfl ?_
 refine br_T rfl ?_
 refine Ow _ _ _ [] (rfl) (rfl) (Nat.le_of_ble_eq_true rfl) (.inl rfl) fun m => ?_
 w_fin
 refine Zm [] [] rfl ?_
 refine Vk rfl rfl rfl ?_
 refine br_T rfl ?_
 refine Ow _ _ _ [] (rfl) (rfl) (Nat.le_of_ble_eq_true rfl) (.inl rfl) fun m => ?_
 w_fin
 refine Zm [] [] rfl ?_
 refine Vk rfl rfl rfl ?_
 refine br_T rfl ?_
 refine Ow _ _ _ [] (rfl) (rfl) (Nat.le_of_ble_eq_true rfl) (.inl rfl) fun m => ?_
 w_fin
 refine Zm [] [] rfl ?_
 refine Vj rfl rfl ?_
 refine br_T rfl ?_
 refine Ow _ _ _ [] (rfl) (rfl) (Nat.le_of_ble_eq_true rfl) (.inl rfl) fun m => ?_
 w_fin
 refine Zm [] [] rfl ?_
 refine Vj rfl rfl ?_
 refine br_T rfl ?_
 refine Ow _ _ _ [] (rfl) (rfl) (Nat.le_of_ble_eq_true rfl) (.inl rfl) fun m => ?_
 exact ret_of [0, 1, 2, 3, 4] [(1, .keys [97, 65, 98, 66, 32, 45, 49, 120, 121])] rfl rfl k
end Mine.Ab.Cc
namespace Mine.Ab.Cc
theorem Zmf {x : Int} (h : x < 192) : up x < 192 := by
 unfold up
 cases decide (97 <= x) && decide (x <= 122) with
 | true => show x - 32 < 192; exact il (L1 N0 (V1 _) 1 (.a vA kI) (.k 192) (li h) (.a (.s vA (.k 32)) kI) (.k 192) rfl)
 | false => exact h
theorem Zmg : ∀ {l : List Int} {i : Bool}, (∀ x ∈ l, x < 192) -> ∀ x ∈ ini l i, x < 192
 | [], _, _, x, hx => absurd hx (by simp [ini])
 | c :: r, i, h, x, hx => by
   unfold ini at hx
   rcases List.mem_cons.mp hx with e | e
   · cases i with
     | true => rw [e]; exact h c (.head _)
     | false => rw [e]; exact Zmf (h c (.head _))
   · exact Zmg (fun y hy => h y (.tail _ hy)) x e
theorem Zmh {k : Nat} {l : List Int} : (Yy k l).length = l.length := match k with
 | 0 => rfl
 | 1 => Zma
 | _ + 2 => List.length_map _
theorem Yfc {k : Nat} {l : List Int} (h : ∀ x ∈ l, x ∈ Yx) : ∀ x ∈ Yy k l, x < 192 := match k with
 | 0 => fun x hx => Um (h x hx)
 | 1 => Zmg fun x hx => Um (h x hx)
 | _ + 2 => fun x hx => by
  (refine Zb (List.mem_map.mp hx) ?_; rintro y hy rfl)
  exact Zmf (Um (h y hy))
inductive Dn (fd : Bool) (codes : List Int) (sub : List Int -> List Int) (res : List Int × Nat × Nat) : List Int -> List Int -> Nat -> Nat -> Prop
 | nil (f : List Int) (m l : Nat) (h : res = (f, m, l)) : Dn fd codes sub res [] f m l
 | hit (own r f : List Int) (m l : Nat) (h : Ws fd codes (own ++ r) = true) (hl : own.length = codes.length) (q : Dn fd codes sub res r (f ++ sub own) (m + 1) (f ++ sub own).length) : Dn fd codes sub res (own ++ r) f m l
 | no (o : Int) (r f : List Int) (m l : Nat) (h : Ws fd codes (o :: r) = false) (q : Dn fd codes sub res r (f ++ [o]) m l) : Dn fd codes sub res (o :: r) f m l
section
variable {fd : Bool} {codes : List Int} {sub : List Int -> List Int} {res : List Int × Nat × Nat} {f u v w : List Int} {m l : Nat}
theorem Dn.inv (d : Dn fd codes sub res w f m l) (hc : 1 <= codes.length) : (w = [] /\ res = (f, m, l)) \/
  (∃ own r, w = own ++ r /\ own.length = codes.length /\ Ws fd codes w = true /\ Dn fd codes sub res r (f ++ sub own) (m + 1) (f ++ sub own).length) \/ (∃ o r, w = o :: r /\ Ws fd codes w = false /\ Dn fd codes sub res r (f ++ [o]) m l) := by
 cases d with
 | nil _ _ _ h => exact .inl ⟨rfl, h⟩
 | hit own r _ _ _ h hl q => exact .inr (.inl ⟨own, r, rfl, hl, h, q⟩)
 | no o r _ _ _ h q => exact .inr (.inr ⟨o, r, rfl, h, q⟩)
theorem Dn.skip (hc : 1 <= codes.length) : ∀ {u f : List Int}, Jk fd codes u v -> Dn fd codes sub res (u ++ v) f m l -> Dn fd codes sub res v (f ++ u) m l
 | [], f, _, d => by rw [List.append_nil]; exact d
 | o :: u, f, h, d => by
   rcases d.inv hc with ⟨e, -⟩ | ⟨own, r, e, -, g, -⟩ | ⟨o', r, e, -, q⟩
   · contradiction
   · rw [show (o :: u ++ v) = o :: (u ++ v) from rfl, h.1] at g; exact Yb g
   · cases e
     have := Dn.skip hc h.2 q
     rw [List.append_assoc] at this
     exact this
theorem Dn.end_ (hc : 1 <= codes.length) (h : Jk fd codes u []) (d : Dn fd codes sub res u f m l) : res = (f ++ u, m, l) := by
 have := Dn.skip hc h (by rw [List.append_nil]; exact d)
 rcases this.inv hc with ⟨-, e⟩ | ⟨own, r, e, hl, -⟩ | ⟨o', r, e, -⟩
 · exact e
 · have := congrArg List.length e
   rw [List.length_append, List.length_nil] at this
   exact gf (L3 (N3 _ _ _) V0 1 kI nA (nl hc) 1 nA nB (Yq hl) 1 (.a nB nC) kZ (Yq this) kI kZ rfl)
 · contradiction
theorem Dn.take (hc : 1 <= codes.length) (h : Ws fd codes w = true) (d : Dn fd codes sub res w f m l) : ∃ own r, w = own ++ r /\ own.length = codes.length /\ Dn fd codes sub res r (f ++ sub own) (m + 1) (f ++ sub own).length := by
 rcases d.inv hc with ⟨e, -⟩ | ⟨own, r, e, hl, -, q⟩ | ⟨o', r, e, g, -⟩
 · subst e
   cases codes with
   | nil => exact absurd hc (by simp)
   | cons c cs => exact Yb h
 · exact Qn own r e hl q
 · rw [h] at g; exact Xf g
end
end Mine.Ab.Cc
namespace Mine.Ab.Cc
noncomputable abbrev Zmi (fd : Bool) (codes new cells : List Int) (pt zv tk ct gs ge : Int) : List (Nat × O) := [(0, Oh pt zv tk ct 1 3 5), (1, Oi 2 gs ge), (2, .il cells), (3, Oj 4), (4, .dct []), (5, .il []), (6, .inst 104 [(1, .ref 7), (8, .bool fd)]), (7, .il codes), (8, .inst 341 [(1, .ref 9)]), (9, .il new)]
noncomputable abbrev Zmj (fd : Bool) (codes new cells : List Int) (pt zv tk ct gs ge bd st en mn x1 x2 x3 x4 x5 x6 : Int) (sta : List Nat) (ir : Bool) (k : Nat) : List (Nat × O) :=
 [(0, Oh pt zv tk ct 1 3 5), (1, Oi 2 gs ge), (2, .il cells), (3, Oj 4), (4, .dct []), (5, .il []), (6, .inst 104 [(1, .ref 7), (8, .bool fd)]), (7, .il codes), (8, .inst 341 [(1, .ref 9)]), (9, .il new),
  (10, .inst 446 [(9, .ref 0), (63, .ref 6), (64, .ref 8), (14, .int bd), (65, .str sta), (15, .int st), (29, .int en), (62, .bool ir), (53, .int mn), (66, .ref 13)]), (11, .tup [.int x1, .int x2]), (12, .tup [.int x3, .int x4]), (13, .plst k []), (14, .tup [.int x5, .int x6])]
theorem Yfd {n : Nat} {fd : Bool} {codes new : List Int} {res : List Int × Nat × Nat} {x1 x2 x3 x4 x5 x6 : Int} {Q : Fl -> Fm -> Hp -> Prop} (hcd : ∀ x ∈ codes, x < 192) (hl : codes.length <= 100) (hc : 1 <= codes.length) (hn : new.length <= 3) (lt_new : ∀ x ∈ new, x < 192)
   (fin : ∀ cells pt zv tk ct gs ge bd st en mn ir k, Gap cells gs ge res.1 -> pt = (res.2.2 : Int) + 1 -> zv = (res.1.length : Int) + 1 -> mn = (res.2.1 : Int) -> Q .nx [(7, .ref 10)] ⟨15, Zmj fd codes new cells pt zv tk ct gs ge bd st en mn x1 x2 x3 x4 x5 x6 [100, 111, 110, 101] ir k⟩) :
   ∀ (k : Nat) (f v cells : List Int) (m l : Nat) (zv tk ct gs ge st en mn : Int), v.length <= k -> Gap cells gs ge (f ++ v) -> zv = f.length + v.length + 1 -> st = f.length + 1 -> en = st + codes.length -> mn = m -> f.length + 3 * v.length <= 300 -> m + v.length <= 300 -> (∀ x ∈ f, x < 192) -> (∀ x ∈ v, x ∈ Yx) ->
   Ws fd codes v = true -> Dn fd codes (fun _ => new) res v f m l ->
   (W T (n + k + 300) true).e (.cmp 0 (.fld (.loc 7) 65) (.lit (.str [97, 115, 107, 105, 110, 103]))) (fun v H => Wp v fun x => br x ((W T (n + k + 300) true).s 15 [.ex (.meth (.loc 7) 72 []), .ex (.meth (.loc 7) 73 [])] (Xj ((W T (n + k + 300) true).s 15 [.whl (.cmp 0 (.fld (.loc 7) 65) (.lit (.str [97, 115, 107, 105, 110, 103]))) [.ex (.meth (.loc 7) 72 []), .ex (.meth (.loc 7) 73 [])]] Q) Q) [(7, .ref 10)] H) ((W T (n + k + 300) true).s 15 [] Q [(7, .ref 10)] H)) [(7, .ref 10)]
     ⟨15, Zmj fd codes new cells en zv tk ct gs ge zv st en mn x1 x2 x3 x4 x5 x6 [97, 115, 107, 105, 110, 103] false m⟩ := by
 intro k
 induction k with
 | zero =>
   intro f v cells m l zv tk ct gs ge st en mn hk G hz hs he hm hsz hmz hf hv hh d
   obtain ⟨own, r, e, ho, -⟩ := d.take hc hh
   have := congrArg List.length e
   rw [List.length_append] at this
   exact gf (L4 (N4 _ _ _ _) V0 1 kI nA (nl hc) 1 nB kZ (nl hk) 1 nA nC (Yq ho) 1 (.a nC nD) nB (Yq this) kI kZ rfl)
 | succ k ih =>
   intro f v cells m l zv tk ct gs ge st en mn hk G hz hs he hm hsz hmz hf hv hh d
   obtain ⟨own, r, rfl, ho, d⟩ := d.take hc hh
   rw [List.length_append] at hk hz hsz hmz
   have own0 : own ≠ [] := fun e => by rw [e] at ho; rw [<- ho] at hc; exact absurd hc (by simp)
   w_fin
   refine Zm [1, 2] [] rfl ?_
   refine Hm (p := f) (d := own) (q := r) G (M1 (N1 _) (V1 _) 1 vA (.a nA kI) hs (.s vA kI) nA rfl) (M3 (N3 _ _ _) (V2 _ _) 1 vB (.a nA kI) hs 1 vA (.a vB nC) he (-1) nB nC (nq ho) (.s vA kI) (.a nA nB) rfl) ?_
   have yn := Zo (n := new.length) (Nat.le_trans (by assumption) (Nat.le_add_left _ _))
   have hY : new.length <= 3 := hn
   have y1 := Zo (n := own.length) (gl (nc fun zz => L3 (N2 _ _) V0 1 nA (.k 100) (nl hl) 1 nB nA (Wv ho) 1 (.a (.k 1000) kI) nB zz kI kZ rfl))
   have y2 := Zo (n := ((fun _ => new) own).length) (by show new.length <= _; exact Nat.le_trans (by assumption) (Nat.le_add_left _ _))
   have y3 := Zo (n := m) (gl (nc fun zz => L2 (N3 _ _ _) V0 1 (.a nA (.a nB nC)) (.k 300) (nl hmz) 1 (.a (.k 1000) kI) nA zz kI kZ rfl))
   have y4 := Zo (n := m + 1) (gl (nc fun zz => L2 (N3 _ _ _) V0 1 (.a nA (.a nB nC)) (.k 300) (nl hmz) 1 (.a (.k 1000) kI) (.a nA kI) zz kI kZ rfl))
   w_fin
   refine Zm [0, 1, 2, 3, 4, 5, 16] [] rfl ?_
   refine Zlv (p := f) (d := own) (q := r) G hs (by rw [ho]; exact he) own0 (M1 (N3 _ _ _) (V1 _) 1 vA (.a (.a nA (.a nB nC)) kI) hz vA (.a (.a (.a nA nB) nC) kI) rfl) (gl (nc fun zz => L3 (N4 _ _ _ _) V0 1 nA (.k 3) (nl hn) 1 (.a nB (.m 3 (.a nC nD))) (.k 300) (nl hsz) 1 (.a (.k 380) kI) (.a (.a (.a nB nC) nD) nA) zz kI kZ rfl)) fun cells' gs' ge' tk' ct' G' => ?_
   w_fin
   refine Ug y3 ?_
   w_fin
   refine Ug y4 ?_
   refine Ug (Zlp m (gl (nc fun zz => L2 (N3 _ _ _) V0 1 (.a nA (.a nB nC)) (.k 300) (nl hmz) 1 (.a (.k 1000) kI) nA zz kI kZ rfl))) ?_
   refine Zlo m ?_
   w_fin
   have z1 : zv - own.length + new.length = zv + new.length - own.length := M0 (N2 _ _) (V1 _) (.a (.s vA nA) nB) (.s (.a vA nB) nA) rfl
   have t1 : decide ((own.length : Int) = 0) = false := decide_eq_false (fun zz => gf (L3 (N2 _ _) V0 1 kI nA (nl hc) 1 nA nB (Yq ho) 1 nB kZ (Zj zz) kI kZ rfl))
   have t2 : decide (st + new.length <= zv + new.length - own.length) = true := decide_eq_true (L2 (N4 _ _ _ _) (V2 _ _) 1 vA (.a nC kI) (Zj hs) 1 (.a (.a nC (.a nB nD)) kI) vB (Zl hz) (.a vA nA) (.s (.a vB nA) nB) rfl)
   w_fin
   rw [z1]
   have hY192 : ∀ x ∈ new, x < 192 := fun x hx => lt_new x hx
   have hr := fun x hx => hv x (List.mem_append_right own hx)
   have hfy : ∀ x ∈ f ++ new, x < 192 := fun x hx => (List.mem_append.mp hx).elim (hf x) (hY192 x)
   have hlen : ((f ++ new).length : Int) = f.length + new.length := by rw [List.length_append]; rfl
   have hlen' : ((f ++ (new ++ r)).length : Int) = f.length + (new.length + r.length) := by rw [List.length_append, List.length_append]; rfl
   have dd : Dn fd codes (fun _ => new) res r (f ++ new) (m + 1) (f ++ new).length := d
   refine Zm [6, 7, 0, 1, 2, 3, 4, 5] [] rfl ?_
   refine Zba (p := f ++ new) (r := r) G' (M2 (N5 _ _ _ _ _) (V1 _) 1 vA (.a (.a nD (.a nB nE)) kI) hz (-1) nC (.a nD (.a nA nE)) hlen' (.s (.a vA nA) nB) (.a nC kI) rfl) (fun x hx => (List.mem_append.mp hx).elim (hf x) fun hx => (List.mem_append.mp hx).elim (hY192 x) fun hx => Um (hr x hx)) hcd hl hc (List.append_assoc _ _ _).symm (M2 (N3 _ _ _) (V1 _) 1 vA (.a nC kI) hs (-1) nB (.a nC nA) hlen (.a vA nA) (.a nB kI) rfl) (fun hk1 => ?_) fun u v h1 h2 h3 => ?_
   · have e := dd.end_ hc hk1
     w_fin
     refine Exists.intro [7] (Exists.intro [0, 1, 2, 3, 4, 5, 6, 7, 8, 9, 10, 11, 12, 13, 14] (Exists.intro [(13, .fst 1)] (And.intro rfl (And.intro rfl ?_))))
     refine br_N rfl ?_
     rw [List.append_assoc] at e
     refine fin _ _ _ _ _ _ _ _ _ _ _ _ _ (by rw [e]; exact G') ?_ ?_ ?_
     · rw [e]; show _ = ((f ++ new).length : Int) + 1; exact M2 (N3 _ _ _) (V1 _) 1 vA (.a nC kI) hs (-1) nB (.a nC nA) hlen (.a vA nA) (.a nB kI) rfl
     · rw [e]; show _ = ((f ++ (new ++ r)).length : Int) + 1; exact M2 (N5 _ _ _ _ _) (V1 _) 1 vA (.a (.a nD (.a nB nE)) kI) hz (-1) nC (.a nD (.a nA nE)) hlen' (.s (.a vA nA) nB) (.a nC kI) rfl
     · rw [e, hm]; rfl
   · subst h1
     have d3 := Dn.skip hc h2 dd
     w_fin
     refine Exists.intro [7] (Exists.intro [0, 1, 2, 3, 4, 5, 6, 7, 8, 9, 10, 11, 12, 13, 14] (Exists.intro [(13, .fst 1)] (And.intro rfl (And.intro rfl ?_))))
     rw [List.length_append] at hk hz hsz hmz hlen'
     have hlen3 : ((f ++ new ++ u).length : Int) = f.length + new.length + u.length := by rw [List.length_append, List.length_append]; rfl
     refine ih (f ++ new ++ u) v _ (m + 1) _ _ _ _ _ _ _ _ _ (gl (L3 (N5 _ _ _ _ _) V0 1 kI nC (nl hc) 1 nC nD (Yq ho) 1 (.a nD (.a nE nA)) (.a nB kI) (nl hk) nA nB rfl)) (by rw [List.append_assoc, List.append_assoc]; exact G') (M2 (N6 _ _ _ _ _ _) (V1 _) 1 vA (.a (.a nE (.a nB (.a nF nD))) kI) hz (-1) nC (.a (.a nE nA) nF) hlen3 (.s (.a vA nA) nB) (.a (.a nC nD) kI) rfl) (M2 (N4 _ _ _ _) (V1 _) 1 vA (.a nD kI) hs (-1) nC (.a (.a nD nA) nB) hlen3 (.a (.a vA nA) nB) (.a nC kI) rfl) rfl (by rw [hm]; rfl) (gl (L5 (N7 _ _ _ _ _ _ _) V0 3 kI nC (nl hc) 1 nD (.k 3) (nl hn) 3 nC nE (Yq ho) 1 (.a nF (.m 3 (.a nE (.a nG nB)))) (.k 300) (nl hsz) 1 nA (.a (.a nF nD) nG) (Zj hlen3) (.a nA (.m 3 nB)) (.k 300) rfl)) (gl (L3 (N5 _ _ _ _ _) V0 1 kI nC (nl hc) 1 nC nD (Yq ho) 1 (.a nA (.a nD (.a nE nB))) (.k 300) (nl hmz) (.a (.a nA kI) nB) (.k 300) rfl)) (fun x hx => (List.mem_append.mp hx).elim (hfy x) fun hx => Um (hr x (List.mem_append_left _ hx))) (fun x hx => hr x (List.mem_append_right _ hx)) h3 d3
theorem Zmk {n : Nat} {fd : Bool} {codes new t p r cells : List Int} {res : List Int × Nat × Nat} {gs ge zv tk ct pl : Int} {P : V -> Hp -> Prop} (hcd : ∀ x ∈ codes, x < 192) (hl : codes.length <= 100) (hc : 1 <= codes.length) (hn : new.length <= 3) (lt_new : ∀ x ∈ new, x < 192)
   (G : Gap cells gs ge t) (hz : zv = t.length + 1) (e : t = p ++ r) (hp : pl = p.length + 1) (h1 : ∀ x ∈ p, x < 192) (h2 : ∀ x ∈ r, x ∈ Yx) (h3 : p.length + 3 * r.length <= 100) (d : Dn fd codes (fun _ => new) res r p 0 p.length)
   (k : ∀ cells gs ge tk ct pt zv mn, Gap cells gs ge res.1 -> pt = (res.2.2 : Int) + 1 -> zv = (res.1.length : Int) + 1 -> mn = (res.2.1 : Int) -> P (.int mn) ⟨10, Zmi fd codes new cells pt zv tk ct gs ge⟩) :
   Run T (W T (n + 500) true) 457 [.ref 0, .ref 6, .ref 8, .int pl, .int zv] ⟨10, Zmi fd codes new cells pl zv tk ct gs ge⟩ P := by
 have hlen : (t.length : Int) = p.length + r.length := by rw [e, List.length_append]; rfl
 have hb : pl <= zv := L3 (N3 _ _ _) (V2 _ _) 1 (.a nA kI) vB (Zl hz) 1 vA (.a nB kI) (Zj hp) 1 (.a nB nC) nA (Zl hlen) vA vB rfl
 have m1 : min pl zv = pl := M1 N0 (V2 _ _) 1 vA vB (@Int.min_eq_left pl zv (L1 N0 (V2 _ _) 1 vA vB hb vA vB rfl)) vA vB rfl
 have m2 : max pl zv = zv := M1 N0 (V2 _ _) 1 vA vB (@Int.max_eq_right pl zv (L1 N0 (V2 _ _) 1 vA vB hb vA vB rfl)) vA vB rfl
 have t1 : decide (pl < 1) = false := decide_eq_false (fun zz => gf (L2 (N1 _) (V1 _) 1 (.a nA kI) vA (Zl hp) 1 (.a vA kI) kI (li zz) kI kZ rfl))
 have t2 : decide (zv < zv) = false := decide_eq_false (Int.lt_irrefl _)
 have t3 : decide (pl <= zv) = true := decide_eq_true hb
 refine Yv rfl ?_
 w_fin
 rw [m1, m2]
 w_fin
 refine Zm [6, 7, 0, 1, 2, 3, 4, 5] [] rfl ?_
 refine Zba (p := p) (r := r) G hz (fun x hx => by rw [e] at hx; exact (List.mem_append.mp hx).elim (h1 x) fun hx => Um (h2 x hx)) hcd hl hc e hp (fun hk => ?_) (fun u v h3 h4 h5 => ?_)
 · have e1 := d.end_ hc hk
   w_fin
   refine Exists.intro [7] (Exists.intro [0, 1, 2, 3, 4, 5, 6, 7, 8, 9, 10, 11, 12, 13] (Exists.intro [] (And.intro rfl (And.intro rfl ?_))))
   refine br_N rfl ?_
   refine ret_of [0, 1, 2, 3, 4, 5, 6, 7, 8, 9] [] rfl rfl (k _ _ _ _ _ _ _ _ ?_ ?_ ?_ ?_)
   · rw [e1, <- e]; exact G
   · rw [e1]; exact hp
   · rw [e1, <- e]; exact hz
   · rw [e1]; rfl
 · subst h3
   have d3 := Dn.skip hc h4 d
   w_fin
   refine Exists.intro [7] (Exists.intro [0, 1, 2, 3, 4, 5, 6, 7, 8, 9, 10, 11, 12, 13, 14] (Exists.intro [(13, .fst 0)] (And.intro rfl (And.intro rfl ?_))))
   rw [List.length_append] at hlen h3
   refine Yfd hcd hl hc hn lt_new (fun cells pt zv tk ct gs ge bd st en mn ir kk g1 g2 g3 g4 => ?_) 100 (p ++ u) v _ 0 _ _ _ _ _ _ _ _ _ (gl (nc fun zz => L2 (N3 _ _ _) V0 1 (.a nA (.m 3 (.a nB nC))) (.k 100) (nl h3) 3 (.a (.k 100) kI) nC zz kI kZ rfl)) (by rw [List.append_assoc, <- e]; exact G) (by rw [List.length_append]; exact M2 (N4 _ _ _ _) (V1 _) 1 vA (.a nD kI) hz 1 nD (.a nA (.a nB nC)) hlen vA (.a (.a (.a nA nB) nC) kI) rfl) (by rw [List.length_append]; exact M1 (N2 _ _) (V1 _) 1 vA (.a nB kI) hp (.a vA nA) (.a (.a nB nA) kI) rfl) rfl rfl (by rw [List.length_append]; exact gl (nc fun zz => L2 (N3 _ _ _) V0 1 (.a nA (.m 3 (.a nB nC))) (.k 100) (nl h3) 1 (.a (.k 300) kI) (.a (.a nA nB) (.m 3 nC)) zz kI kZ rfl)) (gl (nc fun zz => L2 (N3 _ _ _) V0 1 (.a nA (.m 3 (.a nB nC))) (.k 100) (nl h3) 3 (.a (.k 300) kI) (.a kZ nC) zz kI kZ rfl)) (fun x hx => (List.mem_append.mp hx).elim (h1 x) fun hx => Um (h2 x (List.mem_append_left _ hx))) (fun x hx => h2 x (List.mem_append_right _ hx)) h5 d3
   exact ret_of [0, 1, 2, 3, 4, 5, 6, 7, 8, 9] [] rfl rfl (k _ _ _ _ _ _ _ _ g1 g2 g3 g4)
end Mine.Ab.Cc
namespace Mine.Ab.Cc
noncomputable abbrev Zml (fd : Bool) (codes new cells : List Int) (pt zv tk ct gs ge : Int) : List (Nat × O) := [(0, Oh pt zv tk ct 1 3 5), (1, Oi 2 gs ge), (2, .il cells), (3, Oj 4), (4, .dct []), (5, .il []), (6, .inst 104 [(1, .ref 7), (8, .bool fd)]), (7, .il codes), (8, .inst 220 [(1, .ref 9), (2, .ref 10)]), (9, .il new), (10, Qi 11), (11, Qy 12 13 14), (12, Yw [119]), (13, Yw [32]), (14, Yw [95])]
noncomputable abbrev Zmm (fd : Bool) (codes new cells : List Int) (pt zv tk ct gs ge bd st en mn x1 x2 x3 x4 x5 x6 : Int) (sta : List Nat) (ir : Bool) (k : Nat) : List (Nat × O) :=
 [(0, Oh pt zv tk ct 1 3 5), (1, Oi 2 gs ge), (2, .il cells), (3, Oj 4), (4, .dct []), (5, .il []), (6, .inst 104 [(1, .ref 7), (8, .bool fd)]), (7, .il codes), (8, .inst 220 [(1, .ref 9), (2, .ref 10)]), (9, .il new), (10, Qi 11), (11, Qy 12 13 14), (12, Yw [119]), (13, Yw [32]), (14, Yw [95]),
  (15, .inst 446 [(9, .ref 0), (63, .ref 6), (64, .ref 8), (14, .int bd), (65, .str sta), (15, .int st), (29, .int en), (62, .bool ir), (53, .int mn), (66, .ref 18)]), (16, .tup [.int x1, .int x2]), (17, .tup [.int x3, .int x4]), (18, .plst k []), (19, .tup [.int x5, .int x6])]
theorem Yfe {n : Nat} {fd : Bool} {codes new : List Int} {res : List Int × Nat × Nat} {x1 x2 x3 x4 x5 x6 : Int} {Q : Fl -> Fm -> Hp -> Prop} (hcd : ∀ x ∈ codes, x < 192) (hl : codes.length <= 100) (hc : 1 <= codes.length) (hn : new.length <= 3) (hns : ∀ x ∈ new, x ∈ Yx)
   (fin : ∀ cells pt zv tk ct gs ge bd st en mn ir k, Gap cells gs ge res.1 -> pt = (res.2.2 : Int) + 1 -> zv = (res.1.length : Int) + 1 -> mn = (res.2.1 : Int) -> Q .nx [(7, .ref 15)] ⟨20, Zmm fd codes new cells pt zv tk ct gs ge bd st en mn x1 x2 x3 x4 x5 x6 [100, 111, 110, 101] ir k⟩) :
   ∀ (k : Nat) (f v cells : List Int) (m l : Nat) (zv tk ct gs ge st en mn : Int), v.length <= k -> Gap cells gs ge (f ++ v) -> zv = f.length + v.length + 1 -> st = f.length + 1 -> en = st + codes.length -> mn = m -> f.length + 3 * v.length <= 300 -> m + v.length <= 300 -> (∀ x ∈ f, x < 192) -> (∀ x ∈ v, x ∈ Yx) ->
   Ws fd codes v = true -> Dn fd codes (fun own => Yy (Yp own) new) res v f m l ->
   (W T (n + k + 300) true).e (.cmp 0 (.fld (.loc 7) 65) (.lit (.str [97, 115, 107, 105, 110, 103]))) (fun v H => Wp v fun x => br x ((W T (n + k + 300) true).s 20 [.ex (.meth (.loc 7) 72 []), .ex (.meth (.loc 7) 73 [])] (Xj ((W T (n + k + 300) true).s 20 [.whl (.cmp 0 (.fld (.loc 7) 65) (.lit (.str [97, 115, 107, 105, 110, 103]))) [.ex (.meth (.loc 7) 72 []), .ex (.meth (.loc 7) 73 [])]] Q) Q) [(7, .ref 15)] H) ((W T (n + k + 300) true).s 20 [] Q [(7, .ref 15)] H)) [(7, .ref 15)]
     ⟨20, Zmm fd codes new cells en zv tk ct gs ge zv st en mn x1 x2 x3 x4 x5 x6 [97, 115, 107, 105, 110, 103] false m⟩ := by
 intro k
 induction k with
 | zero =>
   intro f v cells m l zv tk ct gs ge st en mn hk G hz hs he hm hsz hmz hf hv hh d
   obtain ⟨own, r, e, ho, -⟩ := d.take hc hh
   have := congrArg List.length e
   rw [List.length_append] at this
   exact gf (L4 (N4 _ _ _ _) V0 1 kI nA (nl hc) 1 nB kZ (nl hk) 1 nA nC (Yq ho) 1 (.a nC nD) nB (Yq this) kI kZ rfl)
 | succ k ih =>
   intro f v cells m l zv tk ct gs ge st en mn hk G hz hs he hm hsz hmz hf hv hh d
   obtain ⟨own, r, rfl, ho, d⟩ := d.take hc hh
   rw [List.length_append] at hk hz hsz hmz
   have own0 : own ≠ [] := fun e => by rw [e] at ho; rw [<- ho] at hc; exact absurd hc (by simp)
   w_fin
   refine Zm [1, 2] [] rfl ?_
   refine Hm (p := f) (d := own) (q := r) G (M1 (N1 _) (V1 _) 1 vA (.a nA kI) hs (.s vA kI) nA rfl) (M3 (N3 _ _ _) (V2 _ _) 1 vB (.a nA kI) hs 1 vA (.a vB nC) he (-1) nB nC (nq ho) (.s vA kI) (.a nA nB) rfl) ?_
   have yn := Zo (n := new.length) (Nat.le_trans (by assumption) (Nat.le_add_left _ _))
   have hY : (Yy (Yp own) new).length <= 3 := by rw [Zmh]; exact hn
   have y1 := Zo (n := own.length) (gl (nc fun zz => L3 (N2 _ _) V0 1 nA (.k 100) (nl hl) 1 nB nA (Wv ho) 1 (.a (.k 1000) kI) nB zz kI kZ rfl))
   have y2 := Zo (n := ((fun own => Yy (Yp own) new) own).length) (by rw [Zmh]; exact Nat.le_trans (by assumption) (Nat.le_add_left _ _))
   have y3 := Zo (n := m) (gl (nc fun zz => L2 (N3 _ _ _) V0 1 (.a nA (.a nB nC)) (.k 300) (nl hmz) 1 (.a (.k 1000) kI) nA zz kI kZ rfl))
   have y4 := Zo (n := m + 1) (gl (nc fun zz => L2 (N3 _ _ _) V0 1 (.a nA (.a nB nC)) (.k 300) (nl hmz) 1 (.a (.k 1000) kI) (.a nA kI) zz kI kZ rfl))
   w_fin
   refine Zm [1, 2] [] rfl ?_
   refine Hm (p := f) (d := own) (q := r) G (M1 (N1 _) (V1 _) 1 vA (.a nA kI) hs (.s vA kI) nA rfl) (M3 (N3 _ _ _) (V2 _ _) 1 vB (.a nA kI) hs 1 vA (.a vB nC) he (-1) nB nC (nq ho) (.s vA kI) (.a nA nB) rfl) ?_
   refine Zm [21, 22, 10, 11, 12, 13, 14] [] rfl ?_
   refine Yfa hns (fun x hx => hv x (List.mem_append_left _ hx)) (Nat.le_trans (by assumption) (Nat.le_add_left _ _)) (gl (nc fun zz => L3 (N2 _ _) V0 1 nA (.k 100) (nl hl) 1 nB nA (Wv ho) 1 (.a (.k 400) kI) nB zz kI kZ rfl)) ?_
   refine Zm [0, 1, 2, 3, 4, 5, 23] [] rfl ?_
   refine Zlv (p := f) (d := own) (q := r) G hs (by rw [ho]; exact he) own0 (M1 (N3 _ _ _) (V1 _) 1 vA (.a (.a nA (.a nB nC)) kI) hz vA (.a (.a (.a nA nB) nC) kI) rfl) (gl (nc fun zz => L3 (N4 _ _ _ _) V0 1 (.a nA (.m 3 (.a nB nC))) (.k 300) (nl hsz) 1 nD (.k 3) (nl hY) 1 (.a (.k 380) kI) (.a (.a (.a nA nB) nC) nD) zz kI kZ rfl)) fun cells' gs' ge' tk' ct' G' => ?_
   w_fin
   refine Ug y3 ?_
   w_fin
   refine Ug y4 ?_
   refine Ug (Zlp m (gl (nc fun zz => L2 (N3 _ _ _) V0 1 (.a nA (.a nB nC)) (.k 300) (nl hmz) 1 (.a (.k 1000) kI) nA zz kI kZ rfl))) ?_
   refine Zlo m ?_
   w_fin
   have z1 : zv - own.length + (Yy (Yp own) new).length = zv + (Yy (Yp own) new).length - own.length := M0 (N2 _ _) (V1 _) (.a (.s vA nA) nB) (.s (.a vA nB) nA) rfl
   have t1 : decide ((own.length : Int) = 0) = false := decide_eq_false (fun zz => gf (L3 (N2 _ _) V0 1 kI nA (nl hc) 1 nA nB (Yq ho) 1 nB kZ (Zj zz) kI kZ rfl))
   have t2 : decide (st + (Yy (Yp own) new).length <= zv + (Yy (Yp own) new).length - own.length) = true := decide_eq_true (L2 (N4 _ _ _ _) (V2 _ _) 1 vA (.a nC kI) (Zj hs) 1 (.a (.a nC (.a nB nD)) kI) vB (Zl hz) (.a vA nA) (.s (.a vB nA) nB) rfl)
   w_fin
   rw [z1]
   have hY192 : ∀ x ∈ (Yy (Yp own) new), x < 192 := Yfc hns
   have hr := fun x hx => hv x (List.mem_append_right own hx)
   have hfy : ∀ x ∈ f ++ (Yy (Yp own) new), x < 192 := fun x hx => (List.mem_append.mp hx).elim (hf x) (hY192 x)
   have hlen : ((f ++ (Yy (Yp own) new)).length : Int) = f.length + (Yy (Yp own) new).length := by rw [List.length_append]; rfl
   have hlen' : ((f ++ ((Yy (Yp own) new) ++ r)).length : Int) = f.length + ((Yy (Yp own) new).length + r.length) := by rw [List.length_append, List.length_append]; rfl
   have dd : Dn fd codes (fun own => Yy (Yp own) new) res r (f ++ (Yy (Yp own) new)) (m + 1) (f ++ (Yy (Yp own) new)).length := d
   refine Zm [6, 7, 0, 1, 2, 3, 4, 5] [] rfl ?_
   refine Zba (p := f ++ (Yy (Yp own) new)) (r := r) G' (M2 (N5 _ _ _ _ _) (V1 _) 1 vA (.a (.a nD (.a nB nE)) kI) hz (-1) nC (.a nD (.a nA nE)) hlen' (.s (.a vA nA) nB) (.a nC kI) rfl) (fun x hx => (List.mem_append.mp hx).elim (hf x) fun hx => (List.mem_append.mp hx).elim (hY192 x) fun hx => Um (hr x hx)) hcd hl hc (List.append_assoc _ _ _).symm (M2 (N3 _ _ _) (V1 _) 1 vA (.a nC kI) hs (-1) nB (.a nC nA) hlen (.a vA nA) (.a nB kI) rfl) (fun hk1 => ?_) fun u v h1 h2 h3 => ?_
   · have e := dd.end_ hc hk1
     w_fin
     refine Exists.intro [7] (Exists.intro [0, 1, 2, 3, 4, 5, 6, 7, 8, 9, 10, 11, 12, 13, 14, 15, 16, 17, 18, 19] (Exists.intro [(18, .fst 1)] (And.intro rfl (And.intro rfl ?_))))
     refine br_N rfl ?_
     rw [List.append_assoc] at e
     refine fin _ _ _ _ _ _ _ _ _ _ _ _ _ (by rw [e]; exact G') ?_ ?_ ?_
     · rw [e]; show _ = ((f ++ (Yy (Yp own) new)).length : Int) + 1; exact M2 (N3 _ _ _) (V1 _) 1 vA (.a nC kI) hs (-1) nB (.a nC nA) hlen (.a vA nA) (.a nB kI) rfl
     · rw [e]; show _ = ((f ++ ((Yy (Yp own) new) ++ r)).length : Int) + 1; exact M2 (N5 _ _ _ _ _) (V1 _) 1 vA (.a (.a nD (.a nB nE)) kI) hz (-1) nC (.a nD (.a nA nE)) hlen' (.s (.a vA nA) nB) (.a nC kI) rfl
     · rw [e, hm]; rfl
   · subst h1
     have d3 := Dn.skip hc h2 dd
     w_fin
     refine Exists.intro [7] (Exists.intro [0, 1, 2, 3, 4, 5, 6, 7, 8, 9, 10, 11, 12, 13, 14, 15, 16, 17, 18, 19] (Exists.intro [(18, .fst 1)] (And.intro rfl (And.intro rfl ?_))))
     rw [List.length_append] at hk hz hsz hmz hlen'
     have hlen3 : ((f ++ (Yy (Yp own) new) ++ u).length : Int) = f.length + (Yy (Yp own) new).length + u.length := by rw [List.length_append, List.length_append]; rfl
     refine ih (f ++ (Yy (Yp own) new) ++ u) v _ (m + 1) _ _ _ _ _ _ _ _ _ (gl (L3 (N5 _ _ _ _ _) V0 1 kI nC (nl hc) 1 nC nD (Yq ho) 1 (.a nD (.a nE nA)) (.a nB kI) (nl hk) nA nB rfl)) (by rw [List.append_assoc, List.append_assoc]; exact G') (M2 (N6 _ _ _ _ _ _) (V1 _) 1 vA (.a (.a nE (.a nB (.a nF nD))) kI) hz (-1) nC (.a (.a nE nA) nF) hlen3 (.s (.a vA nA) nB) (.a (.a nC nD) kI) rfl) (M2 (N4 _ _ _ _) (V1 _) 1 vA (.a nD kI) hs (-1) nC (.a (.a nD nA) nB) hlen3 (.a (.a vA nA) nB) (.a nC kI) rfl) rfl (by rw [hm]; rfl) (gl (L5 (N7 _ _ _ _ _ _ _) V0 3 kI nC (nl hc) 3 nC nD (Yq ho) 1 nE (.k 3) (nl hY) 1 (.a nF (.m 3 (.a nD (.a nG nB)))) (.k 300) (nl hsz) 1 nA (.a (.a nF nE) nG) (Zj hlen3) (.a nA (.m 3 nB)) (.k 300) rfl)) (gl (L3 (N5 _ _ _ _ _) V0 1 kI nC (nl hc) 1 nC nD (Yq ho) 1 (.a nA (.a nD (.a nE nB))) (.k 300) (nl hmz) (.a (.a nA kI) nB) (.k 300) rfl)) (fun x hx => (List.mem_append.mp hx).elim (hfy x) fun hx => Um (hr x (List.mem_append_left _ hx))) (fun x hx => hr x (List.mem_append_right _ hx)) h3 d3
theorem Yff {n : Nat} {fd : Bool} {codes new t p r cells : List Int} {res : List Int × Nat × Nat} {gs ge zv tk ct pl : Int} {P : V -> Hp -> Prop} (hcd : ∀ x ∈ codes, x < 192) (hl : codes.length <= 100) (hc : 1 <= codes.length) (hn : new.length <= 3) (hns : ∀ x ∈ new, x ∈ Yx)
   (G : Gap cells gs ge t) (hz : zv = t.length + 1) (e : t = p ++ r) (hp : pl = p.length + 1) (h1 : ∀ x ∈ p, x < 192) (h2 : ∀ x ∈ r, x ∈ Yx) (h3 : p.length + 3 * r.length <= 100) (d : Dn fd codes (fun own => Yy (Yp own) new) res r p 0 p.length)
   (k : ∀ cells gs ge tk ct pt zv mn, Gap cells gs ge res.1 -> pt = (res.2.2 : Int) + 1 -> zv = (res.1.length : Int) + 1 -> mn = (res.2.1 : Int) -> P (.int mn) ⟨15, Zml fd codes new cells pt zv tk ct gs ge⟩) :
   Run T (W T (n + 500) true) 457 [.ref 0, .ref 6, .ref 8, .int pl, .int zv] ⟨15, Zml fd codes new cells pl zv tk ct gs ge⟩ P := by
 have hlen : (t.length : Int) = p.length + r.length := by rw [e, List.length_append]; rfl
 have hb : pl <= zv := L3 (N3 _ _ _) (V2 _ _) 1 (.a nA kI) vB (Zl hz) 1 vA (.a nB kI) (Zj hp) 1 (.a nB nC) nA (Zl hlen) vA vB rfl
 have m1 : min pl zv = pl := M1 N0 (V2 _ _) 1 vA vB (@Int.min_eq_left pl zv (L1 N0 (V2 _ _) 1 vA vB hb vA vB rfl)) vA vB rfl
 have m2 : max pl zv = zv := M1 N0 (V2 _ _) 1 vA vB (@Int.max_eq_right pl zv (L1 N0 (V2 _ _) 1 vA vB hb vA vB rfl)) vA vB rfl
 have t1 : decide (pl < 1) = false := decide_eq_false (fun zz => gf (L2 (N1 _) (V1 _) 1 (.a nA kI) vA (Zl hp) 1 (.a vA kI) kI (li zz) kI kZ rfl))
 have t2 : decide (zv < zv) = false := decide_eq_false (Int.lt_irrefl _)
 have t3 : decide (pl <= zv) = true := decide_eq_true hb
 refine Yv rfl ?_
 w_fin
 rw [m1, m2]
 w_fin
 refine Zm [6, 7, 0, 1, 2, 3, 4, 5] [] rfl ?_
 refine Zba (p := p) (r := r) G hz (fun x hx => by rw [e] at hx; exact (List.mem_append.mp hx).elim (h1 x) fun hx => Um (h2 x hx)) hcd hl hc e hp (fun hk => ?_) (fun u v h3 h4 h5 => ?_)
 · have e1 := d.end_ hc hk
   w_fin
   refine Exists.intro [7] (Exists.intro [0, 1, 2, 3, 4, 5, 6, 7, 8, 9, 10, 11, 12, 13, 14, 15, 16, 17, 18] (Exists.intro [] (And.intro rfl (And.intro rfl ?_))))
   refine br_N rfl ?_
   refine ret_of [0, 1, 2, 3, 4, 5, 6, 7, 8, 9, 10, 11, 12, 13, 14] [] rfl rfl (k _ _ _ _ _ _ _ _ ?_ ?_ ?_ ?_)
   · rw [e1, <- e]; exact G
   · rw [e1]; exact hp
   · rw [e1, <- e]; exact hz
   · rw [e1]; rfl
 · subst h3
   have d3 := Dn.skip hc h4 d
   w_fin
   refine Exists.intro [7] (Exists.intro [0, 1, 2, 3, 4, 5, 6, 7, 8, 9, 10, 11, 12, 13, 14, 15, 16, 17, 18, 19] (Exists.intro [(18, .fst 0)] (And.intro rfl (And.intro rfl ?_))))
   rw [List.length_append] at hlen h3
   refine Yfe hcd hl hc hn hns (fun cells pt zv tk ct gs ge bd st en mn ir kk g1 g2 g3 g4 => ?_) 100 (p ++ u) v _ 0 _ _ _ _ _ _ _ _ _ (gl (nc fun zz => L2 (N3 _ _ _) V0 1 (.a nA (.m 3 (.a nB nC))) (.k 100) (nl h3) 3 (.a (.k 100) kI) nC zz kI kZ rfl)) (by rw [List.append_assoc, <- e]; exact G) (by rw [List.length_append]; exact M2 (N4 _ _ _ _) (V1 _) 1 vA (.a nD kI) hz 1 nD (.a nA (.a nB nC)) hlen vA (.a (.a (.a nA nB) nC) kI) rfl) (by rw [List.length_append]; exact M1 (N2 _ _) (V1 _) 1 vA (.a nB kI) hp (.a vA nA) (.a (.a nB nA) kI) rfl) rfl rfl (by rw [List.length_append]; exact gl (nc fun zz => L2 (N3 _ _ _) V0 1 (.a nA (.m 3 (.a nB nC))) (.k 100) (nl h3) 1 (.a (.k 300) kI) (.a (.a nA nB) (.m 3 nC)) zz kI kZ rfl)) (gl (nc fun zz => L2 (N3 _ _ _) V0 1 (.a nA (.m 3 (.a nB nC))) (.k 100) (nl h3) 3 (.a (.k 300) kI) (.a kZ nC) zz kI kZ rfl)) (fun x hx => (List.mem_append.mp hx).elim (h1 x) fun hx => Um (h2 x (List.mem_append_left _ hx))) (fun x hx => h2 x (List.mem_append_right _ hx)) h5 d3
   exact ret_of [0, 1, 2, 3, 4, 5, 6, 7, 8, 9, 10, 11, 12, 13, 14] [] rfl rfl (k _ _ _ _ _ _ _ _ g1 g2 g3 g4)
end Mine.Ab.Cc
namespace Mine.Ab.Cc
noncomputable abbrev edO (msg : List Nat) (a b c d e f g : Nat) : O := .inst 1218 [(127, .ref a), (128, .none), (129, .none), (130, .ref b), (131, .ref c), (132, .none), (133, .none), (134, .none), (135, .none), (136, .none), (137, .none), (138, .none), (139, .none), (74, .none), (140, .none), (141, .none), (142, .none), (143, .none), (144, .none), (145, .ref d), (146, .ref e), (147, .ref f), (93, .str msg), (148, .none), (149, .none), (150, .int 70), (151, .int 8), (152, .ref g), (153, .none), (154, .none)]
noncomputable abbrev btO (a b : Nat) : O := .inst 1043 [(82, .ref a), (120, .ref b), (91, .int 1), (121, .int 1), (122, .int 0)]
noncomputable abbrev amO : O := .inst 1064 [(126, .str []), (53, .int 0)]
noncomputable abbrev drH (msg old new : List Nat) (cells : List Int) (pt zv tk ct gs ge : Int) : List (Nat × O) := [(0, edO msg 2 5 6 7 8 9 10), (1, .lst [.str old, .str new]), (2, btO 3 4), (3, .dct [(1, .ref 11)]), (4, .il [1]), (5, .dct []), (6, .il []), (7, .dct []), (8, .dct []), (9, amO), (10, .il []),
 (11, Oh pt zv tk ct 12 14 16), (12, Oi 13 gs ge), (13, .il cells), (14, Oj 15), (15, .dct []), (16, .il [])]
noncomputable def Qz (mn : Int) : List Nat := ([82, 101, 112, 108, 97, 99, 101, 100, 32] ++ Xv 20 mn.toNat [] ++ [32, 111, 99, 99, 117, 114, 114, 101, 110, 99, 101]) ++ (match decide (mn = 1) with
 | true => []
 | false => [115])
theorem Zmn : ∀ {f n : Nat} {acc : List Nat}, (Xv f n acc).length <= f + acc.length
 | 0, _, acc => by rw [Nat.zero_add]; exact Nat.le_refl _
 | f + 1, n, acc => by
  unfold Xv
  cases decide (n < 10) with
  | true => show (_ :: acc).length <= _; rw [List.length_cons]; exact gl (L0 (N2 _ _) V0 (.a nA kI) (.a (.a nB kI) nA) rfl)
  | false => exact Nat.le_trans (Zmn (f := f)) (by rw [List.length_cons]; exact gl (L0 (N2 _ _) V0 (.a nA (.a nB kI)) (.a (.a nA kI) nB) rfl))
noncomputable def Ka (o : List Int) : Bool := !o.any fun c => !decide (lo c = c)
noncomputable def Kb (o n : List Int) : List Int -> List Int := match (o.any fun c => !decide (lo c = c)) || (n.any fun c => !decide (lo c = c)) with
 | true => fun _ => n
 | false => fun own => Yy (Yp own) n
theorem Zbd (mn : Int) : sz (List.length [82, 101, 112, 108, 97, 99, 101, 100, 32] + (Xv 20 mn.toNat []).length) = true /\
  sz (([82, 101, 112, 108, 97, 99, 101, 100, 32] ++ Xv 20 mn.toNat []).length + List.length [32, 111, 99, 99, 117, 114, 114, 101, 110, 99, 101]) = true /\
  sz (([82, 101, 112, 108, 97, 99, 101, 100, 32] ++ Xv 20 mn.toNat [] ++ [32, 111, 99, 99, 117, 114, 114, 101, 110, 99, 101]).length + List.length ([] : List Nat)) = true /\
  sz (([82, 101, 112, 108, 97, 99, 101, 100, 32] ++ Xv 20 mn.toNat [] ++ [32, 111, 99, 99, 117, 114, 114, 101, 110, 99, 101]).length + List.length [115]) = true := by
 have h := Zmn (f := 20) (n := mn.toNat) (acc := [])
 simp only [List.length_append, List.length_cons, List.length_nil] at h ⊢
 exact Zel (Zo (gl (nc fun zz => L2 (N1 _) V0 1 nA (.a (.k 20) kZ) (nl h) 1 (.a (.k 1000) kI) (.a (.a (.a (.a (.a (.a (.a (.a (.a (.a kZ kI) kI) kI) kI) kI) kI) kI) kI) kI) nA) zz kI kZ rfl))) (Zo (gl (L1 (N1 _) V0 49 nA (.a (.k 20) kZ) (nl h) (.a (.a (.a (.a (.a (.a (.a (.a (.a (.a (.a kZ kI) kI) kI) kI) kI) kI) kI) kI) kI) nA) (.a (.a (.a (.a (.a (.a (.a (.a (.a (.a (.a kZ kI) kI) kI) kI) kI) kI) kI) kI) kI) kI) kI)) (.k 1000) rfl))) (Zo (gl (L1 (N1 _) V0 49 nA (.a (.k 20) kZ) (nl h) (.a (.a (.a (.a (.a (.a (.a (.a (.a (.a (.a (.a kZ kI) kI) kI) kI) kI) kI) kI) kI) kI) nA) (.a (.a (.a (.a (.a (.a (.a (.a (.a (.a (.a kZ kI) kI) kI) kI) kI) kI) kI) kI) kI) kI) kI)) kZ) (.k 1000) rfl))) (Zo (gl (nc fun zz => L2 (N1 _) V0 1 nA (.a (.k 20) kZ) (nl h) 1 (.a (.k 1000) kI) (.a (.a (.a (.a (.a (.a (.a (.a (.a (.a (.a (.a kZ kI) kI) kI) kI) kI) kI) kI) kI) kI) nA) (.a (.a (.a (.a (.a (.a (.a (.a (.a (.a (.a kZ kI) kI) kI) kI) kI) kI) kI) kI) kI) kI) kI)) (.a kZ kI)) zz kI kZ rfl)))
theorem Yfg {n : Nat} {msg old new : List Nat} {t p r cells : List Int} {res : List Int × Nat × Nat} {gs ge zv tk ct pl : Int} {P : V -> Hp -> Prop} (hcd : ∀ x ∈ Zd old, x < 192) (hl : old.length <= 100) (hc : 1 <= old.length) (hn : new.length <= 3) (hn1 : ∀ x ∈ Zd new, x < 192)
   (hns : ((Zd new).any fun c => !decide (lo c = c)) = false -> ∀ x ∈ Zd new, x ∈ Yx)
   (G : Gap cells gs ge t) (hz : zv = t.length + 1) (e : t = p ++ r) (hp : pl = p.length + 1) (h1 : ∀ x ∈ p, x < 192) (h2 : ∀ x ∈ r, x ∈ Yx) (h3 : p.length + 3 * r.length <= 100) (hm : res.2.1 <= 1000)
   (d : Dn (Ka (Zd old)) (Zd old) (Kb (Zd old) (Zd new)) res r p 0 p.length)
   (k : ∀ cells gs ge tk ct pt zv, Gap cells gs ge res.1 -> pt = (res.2.2 : Int) + 1 -> zv = (res.1.length : Int) + 1 -> P .none ⟨17, drH (Qz res.2.1) old new cells pt zv tk ct gs ge⟩) :
   Run T (W T (n + 530) true) 641 [.ref 0, .ref 1] ⟨17, drH msg old new cells pl zv tk ct gs ge⟩ P := by
 have ho : (Zd old).length = old.length := List.length_map _
 have hn' : (Zd new).length = new.length := List.length_map _
 have y1 : sz (Zd old).length = true := Zo (gl (nc fun zz => L3 (N2 _ _) V0 1 nA (.k 100) (nl hl) 1 nB nA (Wv ho) 1 (.a (.k 1000) kI) nB zz kI kZ rfl))
 have t1 : decide (((Zd old).length : Int) = 0) = false := decide_eq_false (fun zz => gf (L3 (N2 _ _) V0 1 kI nA (nl hc) 1 nA nB (Yq ho) 1 nB kZ (Zj zz) kI kZ rfl))
 have t2 : decide (0 <= (res.2.1 : Int) /\ (res.2.1 : Int) < 1000000) = true := decide_eq_true (⟨L0 (N1 _) V0 kZ nA rfl, il (nc fun zz => L2 (N1 _) V0 1 nA (.k 1000) (nl hm) 1 (.a (.k 1000000) kI) (.a nA kI) zz kI kZ rfl)⟩)
 refine Yv rfl ?_
 w_fin
 refine Zm [] [] rfl ?_
 refine Zaz (Nat.le_trans (by assumption) (Nat.le_add_left _ _)) ?_
 w_fin
 refine Zm [] [] rfl ?_
 refine Zaz (Nat.le_trans (by assumption) (Nat.le_add_left _ _)) ?_
 w_fin
 refine Zm [17] [] rfl ?_
 refine Zlx hcd (gl (nc fun zz => L3 (N2 _ _) V0 1 nA (.k 100) (nl hl) 1 nB nA (Wv ho) 1 (.a (.k 400) kI) nB zz kI kZ rfl)) ?_
 refine Xd (fun e1 => ?_) (fun e1 => ?_)
 · have ff : Ka (Zd old) = false := by unfold Ka; rw [e1]; rfl
   have ss : Kb (Zd old) (Zd new) = fun _ => Zd new := by unfold Kb; rw [e1]; rfl
   w_fin
   refine Zm [11, 12, 13, 14, 15, 16, 20, 17, 21, 18] [] rfl ?_
   refine Zmk hcd (gl (L2 (N2 _ _) V0 1 nB (.k 100) (nl hl) 1 nA nB (Wv ho) nA (.k 100) rfl)) (gl (L2 (N2 _ _) V0 1 kI nB (nl hc) 1 nB nA (Yq ho) kI nA rfl)) (gl (L2 (N2 _ _) V0 1 nB (.k 3) (nl hn) 1 nA nB (Wv hn') nA (.k 3) rfl)) hn1 G hz e hp h1 h2 h3 (by rw [<- ff, <- ss]; exact d) fun cells1 gs1 ge1 tk1 ct1 pt1 zv1 mn g1 g2 g3 g4 => ?_
   have t2 : decide (0 <= mn /\ mn < 1000000) = true := decide_eq_true (⟨L1 (N1 _) (V1 _) 1 nA vA (Zl g4) kZ vA rfl, il (nc fun zz => L3 (N1 _) (V1 _) 1 nA (.k 1000) (nl hm) 1 vA nA (Zj g4) 1 (.a (.k 1000000) kI) (.a vA kI) zz kI kZ rfl)⟩)
   refine Xs (Zbd mn) fun w1 w2 w3 w4 => ?_
   have k := k cells1 gs1 ge1 tk1 ct1 pt1 zv1 g1 g2 g3
   rw [<- g4] at k
   unfold Qz at k
   w_means
   refine Ur (fun h => ?_) (fun h => ?_)
   · rw [decide_eq_true h] at k
     w_fin
     exact ret_of [0, 1, 2, 3, 4, 5, 6, 7, 8, 9, 10, 11, 12, 13, 14, 15, 16] [] rfl rfl k
   · rw [decide_eq_false h] at k
     w_fin
     exact ret_of [0, 1, 2, 3, 4, 5, 6, 7, 8, 9, 10, 11, 12, 13, 14, 15, 16] [] rfl rfl k
 · refine Zm [18] [] rfl ?_
   refine Zlx hn1 (gl (nc fun zz => L3 (N2 _ _) V0 1 nA (.k 3) (nl hn) 1 nB nA (Wv hn') 1 (.a (.k 400) kI) nB zz kI kZ rfl)) ?_
   refine Xd (fun e2 => ?_) (fun e2 => ?_)
   · have ff : Ka (Zd old) = true := by unfold Ka; rw [e1]; rfl
     have ss : Kb (Zd old) (Zd new) = fun _ => Zd new := by unfold Kb; rw [e1, e2]; rfl
     w_fin
     refine Zm [11, 12, 13, 14, 15, 16, 20, 17, 21, 18] [] rfl ?_
     refine Zmk hcd (gl (L2 (N2 _ _) V0 1 nB (.k 100) (nl hl) 1 nA nB (Wv ho) nA (.k 100) rfl)) (gl (L2 (N2 _ _) V0 1 kI nB (nl hc) 1 nB nA (Yq ho) kI nA rfl)) (gl (L2 (N2 _ _) V0 1 nB (.k 3) (nl hn) 1 nA nB (Wv hn') nA (.k 3) rfl)) hn1 G hz e hp h1 h2 h3 (by rw [<- ff, <- ss]; exact d) fun cells1 gs1 ge1 tk1 ct1 pt1 zv1 mn g1 g2 g3 g4 => ?_
     have t2 : decide (0 <= mn /\ mn < 1000000) = true := decide_eq_true (⟨L1 (N1 _) (V1 _) 1 nA vA (Zl g4) kZ vA rfl, il (nc fun zz => L3 (N1 _) (V1 _) 1 nA (.k 1000) (nl hm) 1 vA nA (Zj g4) 1 (.a (.k 1000000) kI) (.a vA kI) zz kI kZ rfl)⟩)
     refine Xs (Zbd mn) fun w1 w2 w3 w4 => ?_
     have k := k cells1 gs1 ge1 tk1 ct1 pt1 zv1 g1 g2 g3
     rw [<- g4] at k
     unfold Qz at k
     w_means
     refine Ur (fun h => ?_) (fun h => ?_)
     · rw [decide_eq_true h] at k
       w_fin
       exact ret_of [0, 1, 2, 3, 4, 5, 6, 7, 8, 9, 10, 11, 12, 13, 14, 15, 16] [] rfl rfl k
     · rw [decide_eq_false h] at k
       w_fin
       exact ret_of [0, 1, 2, 3, 4, 5, 6, 7, 8, 9, 10, 11, 12, 13, 14, 15, 16] [] rfl rfl k
   · have ff : Ka (Zd old) = true := by unfold Ka; rw [e1]; rfl
     have ss : Kb (Zd old) (Zd new) = fun own => Yy (Yp own) (Zd new) := by unfold Kb; rw [e1, e2]; rfl
     w_fin
     refine Zm [] [] rfl ?_
     refine Yfb ?_
     w_fin
     refine Zm [11, 12, 13, 14, 15, 16, 20, 17, 26, 18, 21, 22, 23, 24, 25] [] rfl ?_
     refine Yff hcd (gl (L2 (N2 _ _) V0 1 nB (.k 100) (nl hl) 1 nA nB (Wv ho) nA (.k 100) rfl)) (gl (L2 (N2 _ _) V0 1 kI nB (nl hc) 1 nB nA (Yq ho) kI nA rfl)) (gl (L2 (N2 _ _) V0 1 nB (.k 3) (nl hn) 1 nA nB (Wv hn') nA (.k 3) rfl)) (hns e2) G hz e hp h1 h2 h3 (by rw [<- ff, <- ss]; exact d) fun cells1 gs1 ge1 tk1 ct1 pt1 zv1 mn g1 g2 g3 g4 => ?_
     have t2 : decide (0 <= mn /\ mn < 1000000) = true := decide_eq_true (⟨L1 (N1 _) (V1 _) 1 nA vA (Zl g4) kZ vA rfl, il (nc fun zz => L3 (N1 _) (V1 _) 1 nA (.k 1000) (nl hm) 1 vA nA (Zj g4) 1 (.a (.k 1000000) kI) (.a vA kI) zz kI kZ rfl)⟩)
     refine Xs (Zbd mn) fun w1 w2 w3 w4 => ?_
     have k := k cells1 gs1 ge1 tk1 ct1 pt1 zv1 g1 g2 g3
     rw [<- g4] at k
     unfold Qz at k
     w_means
     refine Ur (fun h => ?_) (fun h => ?_)
     · rw [decide_eq_true h] at k
       w_fin
       exact ret_of [0, 1, 2, 3, 4, 5, 6, 7, 8, 9, 10, 11, 12, 13, 14, 15, 16] [] rfl rfl k
     · rw [decide_eq_false h] at k
       w_fin
       exact ret_of [0, 1, 2, 3, 4, 5, 6, 7, 8, 9, 10, 11, 12, 13, 14, 15, 16] [] rfl rfl k
end Mine.Ab.Cc
namespace Mine.Ab.Cc
theorem Yfh {n : Nat} {xs : List Int} {P : V -> Hp -> Prop} (hl : xs.length <= 400)
   (k : ∀ as bs : List Int, as.length <= 20 -> 0 < bs.length -> bs.length <= 21 -> P (.ref 1) ⟨4, [(0, .sil xs), (1, .lst [.ref 2, .ref 3, .int 0]), (2, .il as), (3, .il bs)]⟩) :
   Run T (W T (n + 60) true) 1227 [.ref 0] ⟨1, [(0, .sil xs)]⟩ P := by
 have z := Zo (Nat.le_trans hl (Nat.le_of_ble_eq_true rfl))
 have hc : (Wt xs none (some (Int.toNat 20))).length <= 20 := by
   show (xs.take 20).length <= 20
   rw [List.length_take]; exact Nat.min_le_left _ _
 have z2 : sz (Wt xs none (some (Int.toNat 20))).length = true := Zo (Nat.le_trans (by assumption) (Nat.le_add_left _ _))
 refine Yv rfl ?_
 w_fin
 generalize Wt xs none (some (Int.toNat 20)) = cs at hc z2
 w_fin
 refine Qx (fun c : Int => .int c.natAbs) ?_ ?_ ?_ ?_
 · exact rfl
 · exact fun x hx K q => q
 · exact fun x hx K q => q
 · refine .inl ⟨cs.map fun c => (c.natAbs : Int), by rw [List.map_map]; rfl, ?_⟩
   have hd : (cs.map fun c => (c.natAbs : Int)).length <= 20 := by rw [List.length_map]; exact hc
   generalize (cs.map fun c => (c.natAbs : Int)) = ds at hd
   have z3 : sz ds.length = true := Zo (Nat.le_trans (by assumption) (Nat.le_add_left _ _))
   w_fin
   refine Vf (fun c : Int => .int c) (fun c : Int => decide ((10 : Int) ^ Int.toNat 18 <= c)) ?_ ?_ ?_ ?_
   · exact rfl
   · intro x hx K q
     w_fin
     exact q
   · exact fun x hx K q => q
   · have hf : (ds.filter fun c : Int => decide ((10 : Int) ^ Int.toNat 18 <= c)).length <= 20 := Nat.le_trans (List.length_filter_le _ _) hd
     generalize (ds.filter fun c : Int => decide ((10 : Int) ^ Int.toNat 18 <= c)) = fs at hf
     refine .inl ⟨fs, rfl, ?_⟩
     have z4 : sz (ds.length + 1) = true := Zo (gl (nc fun zz => L2 (N1 _) V0 1 nA (.k 20) (nl hd) 1 (.a (.k 1000) kI) (.a nA kI) zz kI kZ rfl))
     w_fin
     refine Ug z4 ?_
     w_fin
     exact ret_of [0, 6, 3, 5] [] rfl rfl (k _ _ hf (by rw [List.length_append]; exact Nat.lt_of_lt_of_le Nat.one_pos (Nat.le_add_left _ _)) (by rw [List.length_append]; exact Nat.succ_le_succ hd))
noncomputable abbrev Vm (as bs : List Int) (c : Int) : List (Nat × O) := [(0, .lst [.ref 1, .ref 2, .int c]), (1, .il as), (2, .il bs)]
theorem Vn {n : Nat} {as bs : List Int} {c many : Int} {P : V -> Hp -> Prop} (hm : 0 < many) (hm' : many <= 1000) (ha : as.length <= 20) (hb : 0 < bs.length) (hb' : bs.length <= 21) (hc : 0 <= c) (hc' : c <= 1000000)
   (k : ∀ r as' c', 0 <= r -> r < many -> as'.length <= 20 -> c <= c' -> c' <= c + 1 -> P (.int r) ⟨3, Vm as' bs c'⟩) :
   Run T (W T (n + 60) true) 1234 [.ref 0, .int many] ⟨3, Vm as bs c⟩ P := by
 have d0 : decide (0 < many /\ many < 1152921504606846976) = true := decide_eq_true ⟨hm, by exact il (nc fun zz => L2 N0 (V1 _) 1 vA (.k 1000) hm' 1 (.a (.k 1152921504606846976) kI) (.a vA kI) zz kI kZ rfl)⟩
 have g1 : ∀ x : Int, 0 <= x % many := fun x => Int.emod_nonneg x (fun zz => gf (L2 N0 (V1 _) 1 (.a kZ kI) vA (li hm) 1 vA kZ (Zj zz) kI kZ rfl))
 have g2 : ∀ x : Int, x % many < many := fun x => Int.emod_lt_of_pos x hm
 refine Yv rfl ?_
 w_fin
 cases as with
 | cons x xs =>
   have z1 : sz (xs.length + 1) = true := Zo (by rw [List.length_cons] at ha; exact Nat.le_trans (by assumption) (Nat.le_add_left _ _))
   have z2 : (decide (0 <= (0 : Int) /\ Int.toNat 0 < xs.length + 1) && sz (xs.length + 1)) = true := Ou (decide_eq_true ⟨Int.le_refl _, Nat.succ_pos _⟩) z1
   w_fin
   refine Ug z2 ?_
   w_fin
   refine Xd (fun h => ?_) (fun h => ?_)
   · have z3 : sz xs.length = true := Zo (by rw [List.length_cons] at ha; exact gl (nc fun zz => L2 (N1 _) V0 1 (.a nA kI) (.k 20) (nl ha) 1 (.a (.k 1000) kI) nA zz kI kZ rfl))
     w_fin
     exact ret_of [0, 1, 2] [] rfl rfl (k _ _ _ (g1 x) (g2 x) (Nat.le_of_succ_le ha) (Int.le_refl _) (by lia))
   · w_fin
     exact ret_of [0, 1, 2] [] rfl rfl (k _ _ _ (g1 x) (g2 x) ha (Int.le_refl _) (by lia))
 | nil =>
   have z1 : sz bs.length = true := Zo (Nat.le_trans (by assumption) (Nat.le_add_left _ _))
   have d1 : decide (0 < (bs.length : Int) /\ (bs.length : Int) < 1152921504606846976) = true := decide_eq_true ⟨by exact il (L1 (N1 _) V0 1 (.a kZ kI) nA (Wi hb) (.a kZ kI) nA rfl), by lia⟩
   have e1 : 0 <= (c + 1) % (bs.length : Int) := Int.emod_nonneg _ (fun zz => gf (L2 (N1 _) V0 1 (.a kZ kI) nA (Wi hb) 1 nA kZ (Zj zz) kI kZ rfl))
   have e2 : (c + 1) % (bs.length : Int) < bs.length := Int.emod_lt_of_pos _ (il (L1 (N1 _) V0 1 (.a kZ kI) nA (Wi hb) (.a kZ kI) nA rfl))
   have d2 : IX ((c + 1) % (bs.length : Int)) := Xb e1 (nc fun zz => L3 (N1 _) (V1 _) 1 nA (.k 21) (nl hb') 1 (.a vA kI) nA (li e2) 1 (.a (.k 1000) kI) vA zz kI kZ rfl)
   obtain ⟨y, hy⟩ : ∃ y, bs[((c + 1) % (bs.length : Int)).toNat]? = some y := ⟨_, List.getElem?_eq_getElem (Qo (L2 (N2 _ _) (V1 _) 1 (.a vA kI) nB (li e2) 1 nA vA (Zj (@Int.toNat_of_nonneg ((c + 1) % ↑bs.length) (L1 N0 (V1 _) 1 kZ vA e1 kZ vA rfl))) (.a nA kI) nB rfl))⟩
   w_fin
   refine Us hy ?_
   have d3 : decide (-18446744073709551616 < (1640531527 : Int) /\ (1640531527 : Int) < 18446744073709551616 /\ -18446744073709551616 < c + 1 /\ c + 1 < 18446744073709551616) = true := decide_eq_true ⟨by exact Int.natCast_nonneg _, by exact Int.natCast_nonneg _, by exact il (nc fun zz => L2 N0 (V1 _) 1 kZ vA hc 1 (.a (.a vA kI) kI) (.a (.k (-18446744073709551616)) kI) zz kI kZ rfl), by exact il (nc fun zz => L2 N0 (V1 _) 1 vA (.k 1000000) hc' 1 (.a (.k 18446744073709551616) kI) (.a (.a vA kI) kI) zz kI kZ rfl)⟩
   have d4 : decide (-18446744073709551616 < (122949823 : Int) /\ (122949823 : Int) < 18446744073709551616 /\ -18446744073709551616 < c + 1 /\ c + 1 < 18446744073709551616) = true := decide_eq_true ⟨by exact Int.natCast_nonneg _, by exact Int.natCast_nonneg _, by exact il (nc fun zz => L2 N0 (V1 _) 1 kZ vA hc 1 (.a (.a vA kI) kI) (.a (.k (-18446744073709551616)) kI) zz kI kZ rfl), by exact il (nc fun zz => L2 N0 (V1 _) 1 vA (.k 1000000) hc' 1 (.a (.k 18446744073709551616) kI) (.a (.a vA kI) kI) zz kI kZ rfl)⟩
   have sq : ∀ m : Int, 0 <= m -> m < 4294966297 -> decide (-18446744073709551616 < m /\ m < 18446744073709551616 /\ -18446744073709551616 < m /\ m < 18446744073709551616) = true := fun m h h' => decide_eq_true ⟨by exact il (nc fun zz => L2 N0 (V1 _) 1 kZ vA h 1 (.a vA kI) (.a (.k (-18446744073709551616)) kI) zz kI kZ rfl), by exact il (nc fun zz => L2 N0 (V1 _) 1 (.a vA kI) (.k 4294966297) (li h') 1 (.a (.k 18446744073709551616) kI) (.a vA kI) zz kI kZ rfl), by exact il (nc fun zz => L2 N0 (V1 _) 1 kZ vA h 1 (.a vA kI) (.a (.k (-18446744073709551616)) kI) zz kI kZ rfl), by exact il (nc fun zz => L2 N0 (V1 _) 1 (.a vA kI) (.k 4294966297) (li h') 1 (.a (.k 18446744073709551616) kI) (.a vA kI) zz kI kZ rfl)⟩
   w_fin
   have f1 := Int.emod_nonneg (y + 1640531527 * (c + 1)) (b := 4294966297) (fun zz => gf (L1 N0 V0 1 (.k 4294966297) kZ (Zj zz) kI kZ rfl))
   have f2 := Int.emod_lt_of_pos (y + 1640531527 * (c + 1)) (b := 4294966297) (Int.natCast_nonneg _)
   have d5 := sq _ f1 f2
   w_fin
   have f3 := Int.emod_nonneg ((y + 1640531527 * (c + 1)) % 4294966297 * ((y + 1640531527 * (c + 1)) % 4294966297) + 122949823 * (c + 1)) (b := 4294966237) (fun zz => gf (L1 N0 V0 1 (.k 4294966237) kZ (Zj zz) kI kZ rfl))
   have f4 := Int.emod_lt_of_pos ((y + 1640531527 * (c + 1)) % 4294966297 * ((y + 1640531527 * (c + 1)) % 4294966297) + 122949823 * (c + 1)) (b := 4294966237) (Int.natCast_nonneg _)
   have d6 := sq _ f3 (Int.lt_trans f4 (Int.natCast_nonneg _))
   w_fin
   exact ret_of [0, 1, 2] [] rfl rfl (k _ [] (c + 1) (g1 _) (g2 _) ha (by lia) (Int.le_refl _))
end Mine.Ab.Cc
namespace Mine.Ab.Cc
noncomputable abbrev txM (least most : Int) (signs : List Nat) : Fm := [(158, .ref 0), (162, .int least), (163, .int most), (164, .str signs)]
theorem Yfi {n : Nat} {bs : List Int} {least most : Int} {signs : List Nat} {Q : List V -> Hp -> Prop} (hs : 0 < signs.length) (hs' : signs.length <= 100) (hb : 0 < bs.length) (hb' : bs.length <= 21) (m : Int) : ∀ (k : Nat) (j c : Int) (as : List Int) (acc : List Nat), m = j + k -> as.length <= 20 -> 0 <= c -> c + k <= 1000000 ->
  (∀ acc' as' c', acc'.length = k -> (∀ x ∈ acc', x ∈ signs) -> as'.length <= 20 -> c <= c' -> c' <= c + k -> Q ((acc ++ acc').map fun x => .str [x]) ⟨3, Vm as' bs c'⟩) ->
  Uu (fun _ => True) (fun v Q H => (W T (n + 100) true).e (.item (.cel 164) (.call 1234 [.cel 158, .bi 0 [.cel 164]])) Q ((11, v) :: txM least most signs) H) (fun v Q H => (W T (n + 100) true).e (.lit (.bool true)) Q ((11, v) :: txM least most signs) H) Q (Xw j m) (acc.map fun x => .str [x]) ⟨3, Vm as bs c⟩ := by
 have z := Zo (n := signs.length) (Nat.le_trans (by assumption) (Nat.le_add_left _ _))
 intro k
 induction k with
 | zero =>
  intro j c as acc hm ha hc hc' fin
  rw [Zav (by exact L1 N0 (V2 _ _) 1 vA (.a vB kZ) (Zj hm) vA vB rfl)]
  have := fin [] as c rfl (fun x h => absurd h (by simp)) ha (Int.le_refl _) (L0 N0 (V1 _) vA (.a vA kZ) rfl)
  rw [List.append_nil] at this
  exact ⟨trivial, this⟩
 | succ k ih =>
  intro j c as acc hm ha hc hc' fin
  rw [Zdl (by exact il (L1 (N1 _) (V2 _ _) 1 (.a vA (.a nA kI)) vB (Zl hm) (.a vA kI) vB rfl))]
  refine ⟨trivial, ?_⟩
  w_means
  refine Zm [0, 1, 2] [] rfl ?_
  refine Vn (il (L1 (N1 _) V0 1 (.a kZ kI) nA (Wi hs) (.a kZ kI) nA rfl)) (nc fun zz => L2 (N1 _) V0 1 nA (.k 100) (nl hs') 1 (.a (.k 1000) kI) nA zz kI kZ rfl) ha hb hb' hc (nc fun zz => L2 (N1 _) (V1 _) 1 (.a vA (.a nA kI)) (.k 1000000) hc' 1 (.a (.k 1000000) kI) vA zz kI kZ rfl) fun r as' c' h1 h2 h3 h4 h5 => ?_
  have x1 : IX r := Xb h1 (nc fun zz => L3 (N1 _) (V1 _) 1 nA (.k 100) (nl hs') 1 (.a vA kI) nA (li h2) 1 (.a (.k 1000) kI) vA zz kI kZ rfl)
  obtain ⟨y, hy⟩ : ∃ y, signs[r.toNat]? = some y := ⟨_, List.getElem?_eq_getElem (Qo (L2 (N2 _ _) (V1 _) 1 (.a vA kI) nB (li h2) 1 nA vA (Zj (@Int.toNat_of_nonneg r (L1 N0 (V1 _) 1 kZ vA h1 kZ vA rfl))) (.a nA kI) nB rfl))⟩
  w_means
  refine Us hy ?_
  have st := ih (j + 1) c' as' (acc ++ [y]) (M1 (N1 _) (V2 _ _) 1 vA (.a vB (.a nA kI)) hm vA (.a (.a vB kI) nA) rfl) h3 (L2 N0 (V2 _ _) 1 kZ vB hc 1 vB vA h4 kZ vA rfl) (L2 (N1 _) (V2 _ _) 1 (.a vB (.a nA kI)) (.k 1000000) hc' 1 vA (.a vB kI) h5 (.a vA nA) (.k 1000000) rfl) fun acc' as2 c2 g1 g2 g3 g4 g5 => by
   have := fin (y :: acc') as2 c2 (congrArg Nat.succ g1) (fun x hx => (List.mem_cons.mp hx).elim (fun e => by rw [e]; exact List.mem_of_getElem? hy) (g2 x)) g3 (L2 N0 (V3 _ _ _) 1 vA vC h4 1 vC vB g4 vA vB rfl) (L2 (N1 _) (V3 _ _ _) 1 vC (.a vB kI) h5 1 vA (.a vC nA) g5 vA (.a vB (.a nA kI)) rfl)
   rw [List.append_assoc]; exact this
  rw [List.map_append] at st
  exact st
theorem Zdv {n : Nat} {as bs : List Int} {c least most : Int} {signs : List Nat} {P : V -> Hp -> Prop} (hs : 0 < signs.length) (hs' : signs.length <= 100) (h0 : 0 <= least) (h1 : least <= most) (h2 : most <= 14) (ha : as.length <= 20) (hb : 0 < bs.length) (hb' : bs.length <= 21) (hc : 0 <= c) (hc' : c <= 900000)
  (k : ∀ t as' c', least <= t.length -> (t.length : Int) <= most -> (∀ x ∈ t, x ∈ signs) -> as'.length <= 20 -> c <= c' -> c' <= c + 20 -> P (.str t) ⟨3, Vm as' bs c'⟩) :
  Run T (W T (n + 150) true) 1239 [.ref 0, .int least, .int most, .str signs] ⟨3, Vm as bs c⟩ P := by
 refine Yv rfl ?_
 refine Zm [0, 1, 2] [] rfl ?_
 refine Vn (il (L1 N0 (V2 _ _) 1 vB vA h1 (.a kZ kI) (.a (.s vA vB) kI) rfl)) (nc fun zz => L3 N0 (V2 _ _) 1 kZ vA h0 1 vB (.k 14) h2 1 (.a (.k 1000) kI) (.a (.s vB vA) kI) zz kI kZ rfl) ha hb hb' hc (nc fun zz => L2 N0 (V1 _) 1 vA (.k 900000) hc' 1 (.a (.k 1000000) kI) vA zz kI kZ rfl) fun r as' c' g1 g2 g3 g4 g5 => ?_
 have d1 : decide (-1000000 <= least + r /\ least + r <= 1000000) = true := decide_eq_true ⟨by exact nc fun zz => L3 N0 (V2 _ _) 1 kZ vA h0 1 kZ vB g1 1 (.a (.a vA vB) kI) (.k (-1000000)) zz kI kZ rfl, by exact nc fun zz => L3 N0 (V3 _ _ _) 1 vA (.k 14) h2 1 (.a vB kI) (.a (.s vA vC) kI) (li g2) 1 (.a (.k 1000000) kI) (.a vC vB) zz kI kZ rfl⟩
 w_means
 refine Yfi hs hs' hb hb' (least + r) (least + r).toNat 0 c' as' [] (M1 (N1 _) (V2 _ _) (-1) nA (.a vA vB) (@Int.toNat_of_nonneg (least + r) (L2 N0 (V2 _ _) 1 kZ vA h0 1 kZ vB g1 kZ (.a vA vB) rfl)) (.a vA vB) (.a kZ nA) rfl) g3 (L2 N0 (V2 _ _) 1 kZ vB hc 1 vB vA g4 kZ vA rfl) (nc fun zz => L6 (N1 _) (V5 _ _ _ _ _) 1 vA (.k 14) h2 1 vB (.k 900000) hc' 1 (.a vC kI) (.a (.s vA vD) kI) (li g2) 1 vE (.a vB kI) g5 1 nA (.a vD vC) (Zj (@Int.toNat_of_nonneg (least + r) (L2 N0 (V2 _ _) 1 kZ vA h0 1 kZ vB g1 kZ (.a vA vB) rfl))) 1 (.a (.k 1000000) kI) (.a vE nA) zz kI kZ rfl) fun t as2 c2 f1 f2 f3 f4 f5 => ?_
 refine .inr ?_
 refine Zp (t.map fun x => [x]) (by rw [List.map_map]; rfl) ?_
 have w : (sz (Ut [] (t.map fun x => [x])).length && sz ((t.map fun x => [x]).length * ([] : List Nat).length)) = true := Ou (by rw [Zaw]; exact Zo (gl (nc fun zz => L5 (N2 _ _) (V3 _ _ _) 1 vA (.k 14) h2 1 (.a vB kI) (.a (.s vA vC) kI) (li g2) 1 nA nB (Wv f1) 1 nB (.a vC vB) (Zj (@Int.toNat_of_nonneg (least + r) (L2 N0 (V2 _ _) 1 kZ vA h0 1 kZ vB g1 kZ (.a vA vB) rfl))) 1 (.a (.k 1000) kI) nA zz kI kZ rfl))) rfl
 w_means
 rw [Zaw]
 exact ret_of [0, 1, 2] [] rfl rfl (k _ _ _ (L3 (N2 _ _) (V2 _ _) 1 kZ vB g1 1 nB nA (Yq f1) 1 (.a vA vB) nB (Zl (@Int.toNat_of_nonneg (least + r) (L2 N0 (V2 _ _) 1 kZ vA h0 1 kZ vB g1 kZ (.a vA vB) rfl))) vA nA rfl) (L3 (N2 _ _) (V3 _ _ _) 1 (.a vB kI) (.a (.s vA vC) kI) (li g2) 1 nA nB (Wv f1) 1 nB (.a vC vB) (Zj (@Int.toNat_of_nonneg (least + r) (L2 N0 (V2 _ _) 1 kZ vA h0 1 kZ vB g1 kZ (.a vA vB) rfl))) nA vA rfl) f2 f3 (L2 N0 (V3 _ _ _) 1 vA vC g4 1 vC vB f4 vA vB rfl) (nc fun zz => L6 (N1 _) (V6 _ _ _ _ _ _) 1 vA (.k 14) h2 1 (.a vB kI) (.a (.s vA vC) kI) (li g2) 1 vD (.a vE kI) g5 1 vF (.a vD nA) f5 1 nA (.a vC vB) (Zj (@Int.toNat_of_nonneg (least + r) (L2 N0 (V2 _ _) 1 kZ vA h0 1 kZ vB g1 kZ (.a vA vB) rfl))) 1 (.a (.a vE (.k 20)) kI) vF zz kI kZ rfl))
end Mine.Ab.Cc
namespace Mine.Ab.Cc
noncomputable def Kq (c : Nat) : Bool := ![c].isEmpty && [c].all fun c => Wc c || Wd c
noncomputable def Rh (c : Nat) : Bool := [c].any Wd && ![c].any Wc
noncomputable def Ri (c : Nat) : Bool := [c].any Wc && ![c].any Wd
noncomputable def Wg (c : Nat) : Bool := ![c].isEmpty && [c].all fun c => Wc c || Wd c || Hb c
noncomputable def un (t : List Nat) : List (List Nat) := Xi (t.map fun c => match Wg c with
 | true => c
 | false => 32) []
theorem Vo {l : List Nat} (h : ∀ c ∈ l, Zs [c] = true) : Zs l = true := List.all_eq_true.mpr fun c hc => (Bool.and_eq_true_iff.mp (show (_ && true) = true from h c hc)).1
theorem Zbe : ∀ (u acc : List Nat), ∀ w ∈ Xi u acc, w ≠ [] /\ (∀ c ∈ w, c ∈ u \/ c ∈ acc) /\ w.length <= u.length + acc.length
 | [], [], w, h => by contradiction
 | [], a :: acc, w, h => by
   have e : w = a :: acc := List.mem_singleton.mp h
   subst e
   exact Xx (by simp) (fun c hc => .inr hc) (by simp)
 | c :: r, acc, w, h => by
   unfold Xi at h
   cases e : Nat.beq c 32 with
   | true =>
     rw [e] at h
     cases acc with
     | nil =>
       refine Xo (Zbe r [] w h) fun h1 h2 h3 => ?_
       exact Xx h1 (fun d hd => (h2 d hd).imp (.tail _) id) (by rw [List.length_cons]; exact Nat.le_succ_of_le (by assumption))
     | cons a acc =>
       rcases List.mem_cons.mp h with e | h
       · subst e; exact Xx (by simp) (fun d hd => .inr hd) (by rw [List.length_cons, List.length_cons]; exact Nat.le_add_left _ _)
       · refine Xo (Zbe r [] w h) fun h1 h2 h3 => ?_
         exact Xx h1 (fun d hd => .inl (.tail _ ((h2 d hd).resolve_right (by simp)))) (by rw [List.length_cons, List.length_cons]; rw [List.length_nil] at h3; exact gl (L1 (N3 _ _ _) V0 1 nA (.a nB kZ) (nl h3) nA (.a (.a nB kI) (.a nC kI)) rfl))
   | false =>
     rw [e] at h
     refine Xo (Zbe r (acc ++ [c]) w h) fun h1 h2 h3 => ?_
     refine Xx h1 (fun d hd => ?_) (by rw [List.length_append, List.length_singleton] at h3; rw [List.length_cons]; exact gl (L1 (N3 _ _ _) V0 1 nA (.a nB (.a nC kI)) (nl h3) nA (.a (.a nB kI) nC) rfl))
     rcases h2 d hd with g | g
     · exact .inl (.tail _ g)
     · rcases List.mem_append.mp g with g | g
       · exact .inr g
       · rw [List.mem_singleton.mp g]; exact .inl (.head _)
theorem Zbf : ∀ (u acc : List Nat), (Xi u acc).length <= u.length + 1
 | [], [] => Nat.zero_le _
 | [], a :: acc => Nat.le_refl _
 | c :: r, acc => by
  unfold Xi
  cases e : Nat.beq c 32 with
  | true =>
   cases acc with
   | nil => exact Nat.le_succ_of_le (Zbf r [])
   | cons a acc => exact Nat.succ_le_succ (Zbf r [])
  | false => exact Nat.le_succ_of_le (Zbf r (acc ++ [c]))
theorem Vp {α : Type} (p : α -> Bool) : ∀ l : List α, (!decide ((l.filter p).map (fun _ => (1 : Int)) = [])) = l.any p
 | [] => rfl
 | a :: l => by
  rw [List.filter_cons, List.any_cons]
  cases e : p a with
  | true => rfl
  | false => exact Vp p l
theorem far {N : Nat} {o o' x : O} {ob : List (Nat × O)} (h : Hp.look ⟨N, ob⟩ 1 = some x /\ 1 < Hp.nx ⟨N, ob⟩) : Hp.look ⟨N + 1 + 1, (N + 1, o') :: (N, o) :: ob⟩ 1 = some x /\ 1 < Hp.nx ⟨N + 1 + 1, (N + 1, o') :: (N, o) :: ob⟩ := by
 (refine Zg h ?_; clear h; intro h1 h2)
 have h2 : 1 < N := h2
 have b : ∀ {m : Nat}, 1 < m -> Nat.beq m 1 = false := fun {m} hm => by
  cases e : Nat.beq m 1 with
  | false => rfl
  | true => rw [Nat.eq_of_beq_eq_true e] at hm; exact absurd hm (Nat.lt_irrefl _)
 refine ⟨?_, Nat.lt_succ_of_lt (Nat.lt_succ_of_lt h2)⟩
 show Ze 1 ((N + 1, o') :: (N, o) :: ob) = _
 rw [Ze, b (Nat.lt_succ_of_lt h2)]
 show Ze 1 ((N, o) :: ob) = _
 rw [Ze, b h2]
 exact h1
theorem Rj {N : Nat} {l : List Int} {ob : List (Nat × O)} {k : Hp -> Bool -> Prop} (h : k ⟨N + 1 + 1, (N + 1, .il []) :: (N, .il l) :: ob⟩ (!decide (l = []))) : Si [] fun o => Hp.newK ⟨N + 1, (N, .il l) :: ob⟩ o fun a H => Ha 1 (.ref N) (.ref a) H (k H) := by
 have e1 : Ze N ((N + 1, .il []) :: (N, .il l) :: ob) = some (.il l) := by
  rw [Ze, Yem]
  show Ze N ((N, .il l) :: ob) = _
  rw [Ze, Nat.beq_refl]
 have e2 : Ze (N + 1) ((N + 1, .il []) :: (N, .il l) :: ob) = some (.il []) := by rw [Ze, Nat.beq_refl]
 have : Gi N ((N + 1, .il []) :: (N, .il l) :: ob) fun o => Ui o fun x => Gi (N + 1) ((N + 1, .il []) :: (N, .il l) :: ob) fun o' => Ui o' fun y => k ⟨N + 1 + 1, (N + 1, .il []) :: (N, .il l) :: ob⟩ (!decide (x = y)) := lkL_eq.mpr ⟨_, e1, lkL_eq.mpr ⟨_, e2, h⟩⟩
 exact this
noncomputable def Vq : List Nat -> Bool
 | [] => true
 | c :: _ => !Ri c
noncomputable def Zdw (ws : List (List Nat)) (model : List Nat) : Nat := match ((ws.any fun w : List Nat => (w.drop 1).any Kq) && !model.any Rh) || (!((ws.any fun w : List Nat => (w.drop 1).any Kq) && !ws.any Vq) && (model.any Ri && !ws.any Vq)) with
 | true => 2
 | false => match !(ws.any fun w : List Nat => (w.drop 1).any Kq) || ws.any Vq with
   | true => 0
   | false => 1
noncomputable def Kc (l : List Nat) (k : Nat) : Nat := match decide ((0 : Int) + (k : Int) = 0) || !Wg (l.getD (k - 1) 0) with
 | true => upC (l.getD k 0)
 | false => l.getD k 0
noncomputable def Hr (k : Nat) (l : List Nat) : List Nat := match k with
 | 0 => l
 | 1 => (List.range l.length).map (Kc l)
 | _ => l.map upC
noncomputable def Jm (model : List Nat) : Nat := Zdw (un model) model
theorem Yfj {n : Nat} {new model : List Nat} {P : V -> Hp -> Prop} (hm : ∀ c ∈ model, Zs [c] = true) (hl : model.length <= 100) (hn : ∀ c ∈ new, Zs [c] = true) (hnl : new.length <= 100) (k : P (.str (Hr (Jm model) new)) ⟨0, []⟩) : Run T (W T (n + 100) true) 1249 [.str new, .str model] ⟨0, []⟩ P := by
 have z := Zo (Nat.le_trans hl (Nat.le_of_ble_eq_true rfl))
 refine Yv rfl ?_
 w_means
 refine Qx (fun c => .str [match Wg c with
   | true => c
   | false => 32]) ?_ ?_ ?_ ?_
 · exact trivial
 · exact fun x hx K q => q
 · intro c hc K q
   have h := hm c hc
   w_means
   refine Xd (fun e => ?_) (fun e => ?_)
   · rw [show Wg c = true from e] at q; exact q
   · rw [show Wg c = false from e] at q; exact q
 refine .inr ?_
 refine ⟨model.map fun c => [match Wg c with
   | true => c
   | false => 32], by rw [List.map_map]; rfl, ?_⟩
 refine (?_ : br _ _ _)
 rw [Zlq]
 have hu : ∀ c ∈ model.map (fun c => match Wg c with
   | true => c
   | false => 32), Zs [c] = true := fun c hc => by
     (refine Zb (List.mem_map.mp hc) ?_; rintro d hd rfl)
     cases Wg d with
     | true => exact hm d hd
     | false => rfl
 have hul : (model.map (fun c => match Wg c with
   | true => c
   | false => 32)).length <= 100 := by rw [List.length_map]; exact hl
 have hk : Jm model = Zdw (Xi (model.map fun c => match Wg c with
   | true => c
   | false => 32) []) model := rfl
 generalize (model.map fun c => match Wg c with
   | true => c
   | false => 32) = u at hu hul hk ⊢
 have z1 : (sz u.length && sz ((model.map fun c => [match Wg c with
   | true => c
   | false => 32]).length * ([] : List Nat).length)) = true := Ou (Zo (Nat.le_trans (by assumption) (Nat.le_add_left _ _))) rfl
 have z2 : (Zs u && sz u.length) = true := Ou (Vo hu) (Zo (Nat.le_trans (by assumption) (Nat.le_add_left _ _)))
 have hw := Zbe u []
 have hwl := Zbf u []
 w_means
 generalize Xi u [] = ws at hw hwl hk ⊢
 have z3 : sz (ws.map V.str).length = true := by rw [List.length_map]; exact Zo (gl (nc fun zz => L3 (N2 _ _) V0 1 nA (.k 100) (nl hul) 1 nB (.a nA kI) (nl hwl) 1 (.a (.k 1000) kI) nB zz kI kZ rfl))
 w_means
 refine Zdo (I := fun H => H.look 1 = some (.lst (ws.map .str)) /\ 1 < H.nx) (g := V.str) (fun _ => .int 1) (fun w : List Nat => (w.drop 1).any Kq) ?_ ?_ ?_ ?_ ?_
 · exact fun H i => i.1
 · exact ⟨rfl, Nat.lt_succ_self _⟩
 · intro w hw' K H i k
   obtain ⟨N, ob⟩ := H
   refine Xo (hw w hw') fun g1 g2 g3 => ?_
   have y1 : sz w.length = true := Zo (by rw [List.length_nil] at g3; exact gl (L2 (N2 _ _) V0 10 nB (.k 100) (nl hul) 1 nA (.a nB kZ) (nl g3) nA (.k 1000) rfl))
   have y2 : sz (Wt w (some (Int.toNat 1)) none).length = true := Zo (by show (w.drop 1).length <= _; rw [List.length_drop]; rw [List.length_nil] at g3; exact gl (L3 (N3 _ _ _) V0 10 nB (.k 100) (nl hul) 1 nC (.a nB kZ) (nl g3) 1 nA nC (sn2 w.length 1) nA (.k 1000) rfl))
   w_fin
   refine Vf (fun _ => .int 1) Kq ?_ ?_ ?_ ?_
   · exact trivial
   · intro c hc K q
     have h := hu c ((g2 c (List.mem_of_mem_drop hc)).resolve_right (by simp))
     w_means
     exact q
   · exact fun c hc K q => q
   · refine .inl ⟨((w.drop 1).filter Kq).map fun _ => 1, by rw [List.map_map]; rfl, ?_⟩
     w_fin
     refine Rj ?_
     rw [Vp]
     exact k _ (far i)
 · exact fun x hx K H i q => q
 · rintro ⟨N, ob⟩ i
   rw [List.nil_append]
   refine .inl ⟨(ws.filter fun w : List Nat => (w.drop 1).any Kq).map fun _ => 1, by rw [List.map_map]; rfl, ?_⟩
   w_fin
   refine Rj ?_
   rw [Vp]
   have i := far (o := .il ((ws.filter fun w : List Nat => (w.drop 1).any Kq).map fun _ => 1)) (o' := .il []) i
   w_fin
   refine Vf (fun _ => .int 1) Rh ?_ ?_ ?_ ?_
   · exact trivial
   · intro c hc K q
     have h := hm c hc
     w_means
     exact q
   · exact fun c hc K q => q
   refine .inl ⟨(model.filter Rh).map fun _ => 1, by rw [List.map_map]; rfl, ?_⟩
   w_fin
   refine Rj ?_
   rw [Vp]
   have i := far (o := .il ((model.filter Rh).map fun _ => 1)) (o' := .il []) i
   refine lkL_eq.mpr ⟨_, i.1, ?_⟩
   w_fin
   refine Vf (fun _ => .int 1) Vq ?_ ?_ ?_ ?_
   · exact i.1
   · intro w hw' K q
     refine Xo (hw w hw') fun g1 g2 g3 => ?_
     cases w with
     | nil => exact absurd rfl g1
     | cons c r =>
       have h := hu c ((g2 c (.head _)).resolve_right (by simp))
       w_fin
       exact q
   · exact fun c hc K q => q
   refine .inl ⟨(ws.filter Vq).map fun _ => 1, by rw [List.map_map]; rfl, ?_⟩
   w_fin
   refine Rj ?_
   rw [Vp]
   w_fin
   refine Vf (fun _ => .int 1) Ri ?_ ?_ ?_ ?_
   · exact trivial
   · intro c hc K q
     have h := hm c hc
     w_means
     exact q
   · exact fun c hc K q => q
   refine .inl ⟨(model.filter Ri).map fun _ => 1, by rw [List.map_map]; rfl, ?_⟩
   w_fin
   refine Rj ?_
   rw [Vp]
   rw [hk] at k
   unfold Zdw at k
   clear hk i z1 z2
   generalize (ws.any fun w : List Nat => (w.drop 1).any Kq) = HL at k ⊢
   generalize ws.any Vq = BS at k ⊢
   generalize model.any Rh = HS at k ⊢
   generalize model.any Ri = HG at k ⊢
   have zn : sz new.length = true := Zo (Nat.le_trans (by assumption) (Nat.le_add_left _ _))
   have zb : (Zs new && sz new.length) = true := Ou (Vo hn) zn
   refine (?_ : br _ _ _)
   refine Kp (y := !HS) (fun q => Re rfl q) ?_
   refine (?_ : br _ _ _)
   refine Hl (y := !(HL && !BS) && (HG && !BS)) (fun q => ?_) ?_
   · refine (?_ : br _ _ _)
     refine Kp (y := !BS) (fun q => Re rfl q) ?_
     refine (?_ : br _ _ _)
     refine Kp (y := HG && !BS) (fun q => ?_) q
     refine (?_ : br _ _ _)
     exact Kp (y := !BS) (fun q => Re rfl q) q
   refine Xd (fun e => ?_) (fun e => ?_)
   · rw [e] at k
     w_fin
     exact ret_of [] [] rfl rfl k
   · rw [e] at k
     refine (?_ : br _ _ _)
     refine Hl (y := BS) (fun q => Zln rfl q) ?_
     refine Xd (fun e => ?_) (fun e => ?_)
     · rw [e] at k
       w_fin
       exact ret_of [] [] rfl rfl k
     · rw [e] at k
       have d1 : decide (-1000000 <= (new.length : Int) /\ (new.length : Int) <= 1000000) = true := decide_eq_true ⟨by exact Int.natCast_nonneg _, by exact L1 (N1 _) V0 10000 nA (.k 100) (nl hnl) nA (.k 1000000) rfl⟩
       have er : Xw 0 new.length = (List.range new.length).map fun k : Nat => V.int (0 + (k : Int)) := by unfold Xw; rw [Int.sub_zero, Int.toNat_natCast]
       w_fin
       rw [er]
       refine Qx (fun k => .str [Kc new k]) ?_ ?_ ?_ ?_
       · exact trivial
       · exact fun c hc K q => q
       · intro j hj K q
         have hj := List.mem_range.mp hj
         have x1 : IX (0 + (j : Int)) := Xb (Int.natCast_nonneg _) (nc fun zz => L3 (N2 _ _) V0 1 nA (.k 100) (nl hnl) 1 (.a nB kI) nA (Wi hj) 1 (.a (.k 1000) kI) (.a kZ nB) zz kI kZ rfl)
         have hy : new[(0 + (j : Int)).toNat]? = some (new.getD j 0) := by
           rw [Int.zero_add, Int.toNat_natCast, List.getD_eq_getElem?_getD, List.getElem?_eq_getElem hj]; rfl
         have ha : Zs [new.getD j 0] = true := hn _ (by rw [List.getD_eq_getElem?_getD, List.getElem?_eq_getElem hj]; exact List.getElem_mem hj)
         have hb : (Zs [new.getD j 0] && sz [new.getD j 0].length) = true := Ou ha rfl
         unfold Kc at q
         refine Xd (fun e1 => ?_) (fun e1 => ?_)
         · rw [e1] at q
           w_fin
           refine Us hy ?_
           w_means
           exact q
         · have e1' := of_decide_eq_false e1
           have hj' : j - 1 < new.length := Qo (L2 (N3 _ _ _) V0 1 (.a nC kI) nB (Wi hj) 1 nA nC (sn2 j 1) (.a nA kI) nB rfl)
           have x2 : IX (0 + (j : Int) - 1) := Xb (by lia) (nc fun zz => L3 (N2 _ _) V0 1 nA (.k 100) (nl hnl) 1 (.a nB kI) nA (Wi hj) 1 (.a (.k 1000) kI) (.s (.a kZ nB) kI) zz kI kZ rfl)
           have hy2 : new[(0 + (j : Int) - 1).toNat]? = some (new.getD (j - 1) 0) := by
             rw [show (0 + (j : Int) - 1).toNat = j - 1 by lia, List.getD_eq_getElem?_getD, List.getElem?_eq_getElem hj']; rfl
           have ha2 : Zs [new.getD (j - 1) 0] = true := hn _ (by rw [List.getD_eq_getElem?_getD, List.getElem?_eq_getElem hj']; exact List.getElem_mem hj')
           rw [e1] at q
           w_means
           refine Us hy2 ?_
           w_means
           refine Xd (fun e2 => ?_) (fun e2 => ?_)
           · rw [show (!Wg (new.getD (j - 1) 0)) = true from e2] at q
             w_means
             refine Us hy ?_
             w_means
             exact q
           · rw [show (!Wg (new.getD (j - 1) 0)) = false from e2] at q
             w_means
             refine Us hy ?_
             exact q
       · refine .inr ?_
         refine lkL_eq.mpr ⟨.lst ((List.range new.length).map fun j => .str [Kc new j]), ?_, ?_⟩
         · rw [Ze, Nat.beq_refl]
         refine Zp ((List.range new.length).map fun j => [Kc new j]) (by rw [List.map_map]; rfl) ?_
         refine (?_ : br _ _ _)
         rw [Zlq]
         refine Ug (Ou (Zo (by rw [List.length_map, List.length_range]; exact Nat.le_trans (by assumption) (Nat.le_add_left _ _))) rfl) ?_
         exact ret_of [] [] rfl rfl k
end Mine.Ab.Cc
namespace Mine.Ab.Cc
noncomputable def Qk (fd : Bool) (own : List Nat) : List Nat := match fd with
 | true => own.map loC
 | false => own
noncomputable def Oc (fd : Bool) (new own : List Nat) : List Nat := match !fd || !decide (new = new.map loC) with
 | true => new
 | false => Hr (Jm own) new
noncomputable abbrev Vr : E := .cmp 2 (.loc 11) (.bi 0 [.loc 47])
noncomputable abbrev Vs : List S := [.asg 12 (.slc (.loc 47) (.loc 11) (.bin 0 (.loc 11) (.bi 0 [.loc 61]))), .ite (.cmp 0 (.ite (.loc 176) (.meth (.loc 12) 177 []) (.loc 12)) (.loc 61)) [.asg 3 (.bin 0 (.loc 3) (.ite (.or (.not (.loc 176)) (.cmp 1 (.loc 27) (.meth (.loc 27) 177 []))) (.loc 27) (.call 1249 [.loc 27, .loc 12]))), .asgT [53, 71, 11] (.tup [.bin 0 (.loc 53) (.lit (.int 1)), .bi 0 [.loc 3], .bin 0 (.loc 11) (.bi 0 [.loc 61])])] [.asgT [3, 11] (.tup [.bin 0 (.loc 3) (.item (.loc 47) (.loc 11)), .bin 0 (.loc 11) (.lit (.int 1))])]]
noncomputable abbrev Kr (text old new f : List Nat) (fd : Bool) (a b c : Int) : Fm := [(47, .str text), (11, .int a), (61, .str old), (27, .str new), (176, .bool fd), (3, .str f), (53, .int b), (71, .int c)]
theorem Yfk {n : Nat} {fd fdI : Bool} {old new text : List Nat} {sub : List Int -> List Int} {Q : Fl -> Fm -> Hp -> Prop} {A : List Nat} (hA : ∀ c ∈ A, Zs [c] = true) (hn : ∀ c ∈ new, Zs [c] = true) (hnl : new.length <= 3) (ho : 1 <= old.length) (ho' : old.length <= 10)
   (htl : text.length <= 30) (Hhit : ∀ r : List Nat, Ws fdI (Zd old) (Zd r) = decide (Qk fd (r.take old.length) = old)) (Hsub : ∀ own : List Nat, (∀ c ∈ own, c ∈ A) -> own.length = old.length -> (Zd (Oc fd new own) = sub (Zd own) /\ (Oc fd new own).length <= 3))
   : ∀ (k : Nat) (pre r f : List Nat) (m l : Nat) (at_ mn la : Int), r.length <= k -> text = pre ++ r -> at_ = pre.length -> mn = m -> la = l -> f.length + 3 * r.length <= 300 -> (∀ c ∈ r, c ∈ A) ->
   (∀ (f' : List Nat) (m' l' : Nat) (mn' la' : Int), (∀ res, res = (Zd f', m', l') -> Dn fdI (Zd old) sub res (Zd r) (Zd f) m l) -> mn' = m' -> la' = l' -> ∀ x, Q (.ret (.ref 0)) x ⟨1, [(0, .tup [.str f', .int mn', .int la'])]⟩) ->
   (W T (n + k + 150) true).e Vr (fun v H => Wp v fun x => br x ((W T (n + k + 150) true).s 0 Vs (Xj ((W T (n + k + 150) true).s 0 [.whl Vr Vs, .ret (.tup [.loc 3, .loc 53, .loc 71])] Q) Q) (Kr text old new f fd at_ mn la) H) ((W T (n + k + 150) true).s 0 [.ret (.tup [.loc 3, .loc 53, .loc 71])] Q (Kr text old new f fd at_ mn la) H))
     (Kr text old new f fd at_ mn la) ⟨0, []⟩ := by
 have zt := Zo (n := text.length) (Nat.le_trans (by assumption) (Nat.le_add_left _ _))
 have zo := Zo (n := old.length) (Nat.le_trans (by assumption) (Nat.le_add_left _ _))
 intro k
 induction k with
 | zero =>
   intro pre r f m l at_ mn la hk e h1 h2 h3 hsz hr fin
   have : r = [] := List.length_eq_zero_iff.mp (Nat.le_zero.mp hk)
   subst this
   have t1 : decide (at_ < (text.length : Int)) = false := decide_eq_false (by rw [e, List.append_nil, h1]; exact Int.lt_irrefl _)
   w_fin
   exact fin f m l mn la (fun res h => .nil _ _ _ h) h2 h3 _
 | succ k ih =>
   intro pre r f m l at_ mn la hk e h1 h2 h3 hsz hr fin
   cases r with
   | nil =>
     have t1 : decide (at_ < (text.length : Int)) = false := decide_eq_false (by rw [e, List.append_nil, h1]; exact Int.lt_irrefl _)
     w_fin
     exact fin f m l mn la (fun res h => .nil _ _ _ h) h2 h3 _
   | cons c r =>
     have hlen : text.length = pre.length + (r.length + 1) := by rw [e, List.length_append, List.length_cons]
     have t1 : decide (at_ < (text.length : Int)) = true := decide_eq_true (il (L2 (N3 _ _ _) (V1 _) 1 vA nB (Zj h1) 1 (.a nB (.a nC kI)) nA (Yq hlen) (.a vA kI) nA rfl))
     have x1 : IX at_ := Xb (L1 (N1 _) (V1 _) 1 nA vA (Zl h1) kZ vA rfl) (nc fun zz => L3 (N1 _) (V1 _) 1 nA (.k 30) (nl htl) 1 (.a vA kI) nA (li (of_decide_eq_true t1)) 1 (.a (.k 1000) kI) vA zz kI kZ rfl)
     have x2 : IX (at_ + old.length) := Xb (nc fun zz => L2 (N1 _) (V1 _) 1 kZ vA ((of_decide_eq_true x1).1) 1 (.a (.a vA nA) kI) kZ zz kI kZ rfl) (nc fun zz => L4 (N2 _ _) (V1 _) 1 nA (.k 10) (nl ho') 1 nB (.k 30) (nl htl) 1 (.a vA kI) nB (li (of_decide_eq_true t1)) 1 (.a (.k 1000) kI) (.a vA nA) zz kI kZ rfl)
     have k1 : Wt text (some at_.toNat) (some (at_ + old.length).toNat) = (c :: r).take old.length := by
       show (text.drop at_.toNat).take ((at_ + old.length).toNat - at_.toNat) = _
       rw [show (at_ + old.length).toNat - at_.toNat = old.length by exact gq (M3 (N4 _ _ _ _) (V1 _) (-1) nC vA (@Int.toNat_of_nonneg at_ (L1 N0 (V1 _) 1 kZ vA ((of_decide_eq_true x1).1) kZ vA rfl)) 1 nD (.a vA nB) (@Int.toNat_of_nonneg (at_ + ↑old.length) (nc fun zz => L2 (N1 _) (V1 _) 1 kZ vA ((of_decide_eq_true x1).1) 1 (.a (.a vA nA) kI) kZ zz kI kZ rfl)) 1 (.a nA nC) nD (@Wb ((at_ + ↑old.length).toNat) at_.toNat (gl (nc fun zz => L3 (N3 _ _ _) (V1 _) 1 nA vA (Zj (@Int.toNat_of_nonneg at_ (L1 N0 (V1 _) 1 kZ vA ((of_decide_eq_true x1).1) kZ vA rfl))) 1 (.a vA nC) nB (Zl (@Int.toNat_of_nonneg (at_ + ↑old.length) (Int.not_lt.mp fun zz => gf (L2 (N1 _) (V1 _) 1 kZ vA ((of_decide_eq_true x1).1) 1 (.a (.a vA nA) kI) kZ zz kI kZ rfl)))) 1 (.a nB kI) nA zz kI kZ rfl))) nA nB rfl), show at_.toNat = pre.length by exact nt (M1 (N1 _) (V1 _) 1 vA nA h1 vA nA rfl), e, List.drop_left]
     have hc : text[at_.toNat]? = some c := by
       rw [show at_.toNat = pre.length by exact nt (M1 (N1 _) (V1 _) 1 vA nA h1 vA nA rfl), e, List.getElem?_append_right (Nat.le_refl _), Nat.sub_self]; rfl
     have hown : ∀ d ∈ (c :: r).take old.length, d ∈ A := fun d hd => hr d (List.mem_of_mem_take hd)
     have hownl : ((c :: r).take old.length).length <= 10 := by rw [List.length_take]; exact gl (L2 (N2 _ _) V0 1 nB (.k 10) (nl ho') 1 nA nB (nl (Nat.min_le_left old.length ((c :: r).length))) nA (.k 10) rfl)
     have hh := Hhit (c :: r)
     rw [List.length_cons] at hk hsz
     have zf := Zo (n := f.length + 1) (gl (L3 (N3 _ _ _) V0 78 kI nB (nl ho) 78 nB (.k 10) (nl ho') 1 (.a nA (.m 3 (.a nC kI))) (.k 300) (nl hsz) (.a nA kI) (.k 1000) rfl))
     w_fin
     rw [k1]
     have no : Qk fd ((c :: r).take old.length) ≠ old -> (W T (n + k + 150) true).e Vr (fun v H => Wp v fun x => br x ((W T (n + k + 150) true).s 0 Vs (Xj ((W T (n + k + 150) true).s 0 [.whl Vr Vs, .ret (.tup [.loc 3, .loc 53, .loc 71])] Q) Q) (Kr text old new (f ++ [c]) fd (at_ + 1) mn la) H) ((W T (n + k + 150) true).s 0 [.ret (.tup [.loc 3, .loc 53, .loc 71])] Q (Kr text old new (f ++ [c]) fd (at_ + 1) mn la) H)) (Kr text old new (f ++ [c]) fd (at_ + 1) mn la) ⟨0, []⟩ := fun h => by
       rw [decide_eq_false h] at hh
       refine ih (pre ++ [c]) r (f ++ [c]) m l _ mn la (Nat.le_of_succ_le_succ (by assumption)) (by rw [e, List.append_assoc]; rfl) (by rw [h1, List.length_append]; rfl) h2 h3 (by rw [List.length_append, List.length_singleton]; exact gl (nc fun zz => L2 (N2 _ _) V0 1 (.a nA (.m 3 (.a nB kI))) (.k 300) (nl hsz) 1 (.a (.k 300) kI) (.a (.a nA kI) (.m 3 nB)) zz kI kZ rfl)) (fun d hd => hr d (.tail _ hd)) fun f' m' l' mn' la' q g2 g3 x => ?_
       refine fin f' m' l' mn' la' (fun res er => ?_) g2 g3 x
       have := q res er
       unfold Zd at this ⊢
       rw [List.map_append] at this
       exact .no _ _ _ _ _ hh this
     have hol : Qk fd ((c :: r).take old.length) = old -> ((c :: r).take old.length).length = old.length := fun h => by
       cases fd with
       | true =>
         have := congrArg List.length (show List.map loC _ = old from h)
         rw [List.length_map] at this
         exact this
       | false => exact congrArg List.length h
     have yes : Qk fd ((c :: r).take old.length) = old -> ∀ y, Oc fd new ((c :: r).take old.length) = y -> (W T (n + k + 150) true).e Vr (fun v H => Wp v fun x => br x ((W T (n + k + 150) true).s 0 Vs (Xj ((W T (n + k + 150) true).s 0 [.whl Vr Vs, .ret (.tup [.loc 3, .loc 53, .loc 71])] Q) Q) (Kr text old new (f ++ y) fd (at_ + old.length) (mn + 1) ((f ++ y).length)) H) ((W T (n + k + 150) true).s 0 [.ret (.tup [.loc 3, .loc 53, .loc 71])] Q (Kr text old new (f ++ y) fd (at_ + old.length) (mn + 1) ((f ++ y).length)) H)) (Kr text old new (f ++ y) fd (at_ + old.length) (mn + 1) ((f ++ y).length)) ⟨0, []⟩ := fun h y hy => by
       rw [decide_eq_true h] at hh
       refine Zg (Hsub _ hown (hol h)) fun hs1 hs2 => ?_
       have hl := hol h
       have hdl : ((c :: r).drop old.length).length = r.length + 1 - old.length := by rw [List.length_drop, List.length_cons]
       have htl := List.take_append_drop old.length (c :: r)
       rw [List.length_take, List.length_cons] at hl
       rw [hy] at hs1 hs2
       refine ih (pre ++ (c :: r).take old.length) ((c :: r).drop old.length) (f ++ y) (m + 1) (f ++ y).length _ _ _ (by lia) (by rw [e, List.append_assoc, htl]) (by rw [h1, List.length_append, hol h]; rfl) (by rw [h2]; rfl) rfl (by rw [List.length_append]; lia) (fun d hd => hr d (List.mem_of_mem_drop hd)) fun f' m' l' mn' la' q g2 g3 x => ?_
       refine fin f' m' l' mn' la' (fun res er => ?_) g2 g3 x
       have := q res er
       have e3 : Zd (f ++ y) = Zd f ++ sub (Zd ((c :: r).take old.length)) := by rw [<- hs1]; exact List.map_append
       rw [e3, show (f ++ y).length = (Zd (f ++ y)).length from (List.length_map _).symm, e3] at this
       have e4 : Zd (c :: r) = Zd ((c :: r).take old.length) ++ Zd ((c :: r).drop old.length) := by
         rw [show Zd ((c :: r).take old.length) ++ Zd ((c :: r).drop old.length) = Zd ((c :: r).take old.length ++ (c :: r).drop old.length) from List.map_append.symm, htl]
       rw [e4] at hh ⊢
       exact .hit _ _ _ _ _ hh (by show (List.map _ _).length = (List.map _ _).length; rw [List.length_map, List.length_map]; exact hol h) this
     clear ih
     cases fd with
     | true =>
       have za : (Zs ((c :: r).take old.length) && sz ((c :: r).take old.length).length) = true := Ou (Vo fun d hd => hA d (hown d hd)) (Zo (Nat.le_trans (by assumption) (Nat.le_add_left _ _)))
       have zb : (Zs new && sz new.length) = true := Ou (Vo hn) (Zo (Nat.le_trans (by assumption) (Nat.le_add_left _ _)))
       w_fin
       refine Ur (fun h => ?_) (fun h => ?_)
       · w_fin
         refine Xd (fun h' => ?_) (fun h' => ?_)
         · have sy : Oc true new ((c :: r).take old.length) = new := by unfold Oc; rw [h']; rfl
           have yes := yes h _ (sy)
           have hy := (Hsub _ hown (hol h)).2
           rw [sy] at hy
           have zfy := Zo (n := (f ++ new).length) (by rw [List.length_append]; exact gl (nc fun zz => L3 (N3 _ _ _) V0 1 nA (.k 3) (nl hnl) 1 (.a nB (.m 3 (.a nC kI))) (.k 300) (nl hsz) 1 (.a (.k 1000) kI) (.a nB nA) zz kI kZ rfl))
           refine Ug (Zo (gl (nc fun zz => L3 (N3 _ _ _) V0 1 nA (.k 3) (nl hnl) 1 (.a nB (.m 3 (.a nC kI))) (.k 300) (nl hsz) 1 (.a (.k 1000) kI) (.a nB nA) zz kI kZ rfl))) ?_
           w_fin
           refine Exists.intro [47, 11, 61, 27, 176, 3, 53, 71] (Exists.intro [] (Exists.intro [] (And.intro rfl (And.intro rfl ?_))))
           exact yes
         · have sy : Oc true new ((c :: r).take old.length) = Hr (Jm ((c :: r).take old.length)) new := by unfold Oc; rw [h']; rfl
           have yes := yes h _ (sy)
           have hy := (Hsub _ hown (hol h)).2
           rw [sy] at hy
           have zfy := Zo (n := (f ++ Hr (Jm ((c :: r).take old.length)) new).length) (by rw [List.length_append]; exact gl (nc fun zz => L3 (N3 _ _ _) V0 1 (.a nA (.m 3 (.a nB kI))) (.k 300) (nl hsz) 1 nC (.k 3) (nl hy) 1 (.a (.k 1000) kI) (.a nA nC) zz kI kZ rfl))
           refine Zm [] [] rfl ?_
           refine Yfj (fun d hd => hA d (hown d hd)) (Nat.le_trans (by assumption) (Nat.le_add_left _ _)) hn (Nat.le_trans (by assumption) (Nat.le_add_left _ _)) ?_
           refine Ug (Zo (gl (nc fun zz => L3 (N3 _ _ _) V0 1 (.a nA (.m 3 (.a nB kI))) (.k 300) (nl hsz) 1 nC (.k 3) (nl hy) 1 (.a (.k 1000) kI) (.a nA nC) zz kI kZ rfl))) ?_
           w_fin
           refine Exists.intro [47, 11, 61, 27, 176, 3, 53, 71] (Exists.intro [] (Exists.intro [] (And.intro rfl (And.intro rfl ?_))))
           exact yes
       · w_means
         refine Us hc ?_
         refine Ug zf ?_
         w_fin
         refine Exists.intro [47, 11, 61, 27, 176, 3, 53, 71] (Exists.intro [] (Exists.intro [] (And.intro rfl (And.intro rfl ?_))))
         exact no h
     | false =>
       refine Jv ?_
       refine Ur (fun h => ?_) (fun h => ?_)
       · have sy : Oc false new ((c :: r).take old.length) = new := rfl
         have yes := yes h _ (sy)
         have hy := (Hsub _ hown (hol h)).2
         rw [sy] at hy
         have zfy := Zo (n := (f ++ new).length) (by rw [List.length_append]; exact gl (nc fun zz => L3 (N3 _ _ _) V0 1 nA (.k 3) (nl hnl) 1 (.a nB (.m 3 (.a nC kI))) (.k 300) (nl hsz) 1 (.a (.k 1000) kI) (.a nB nA) zz kI kZ rfl))
         w_fin
         refine Ug (Zo (gl (nc fun zz => L3 (N3 _ _ _) V0 1 nA (.k 3) (nl hnl) 1 (.a nB (.m 3 (.a nC kI))) (.k 300) (nl hsz) 1 (.a (.k 1000) kI) (.a nB nA) zz kI kZ rfl))) ?_
         w_fin
         refine Exists.intro [47, 11, 61, 27, 176, 3, 53, 71] (Exists.intro [] (Exists.intro [] (And.intro rfl (And.intro rfl ?_))))
         exact yes
       · w_means
         refine Us hc ?_
         refine Ug zf ?_
         w_fin
         refine Exists.intro [47, 11, 61, 27, 176, 3, 53, 71] (Exists.intro [] (Exists.intro [] (And.intro rfl (And.intro rfl ?_))))
         exact no h
end Mine.Ab.Cc
namespace Mine.Ab.Cc
theorem Yfl {n : Nat} {fdI : Bool} {old new text : List Nat} {at_ : Int} {pre r : List Nat} {sub : List Int -> List Int} {A : List Nat} {P : V -> Hp -> Prop} (hA : ∀ c ∈ A, Zs [c] = true) (hn : ∀ c ∈ new, Zs [c] = true) (hoa : ∀ c ∈ old, Zs [c] = true) (hnl : new.length <= 3) (ho : 1 <= old.length) (ho' : old.length <= 10)
  (htl : text.length <= 30) (Hhit : ∀ r : List Nat, Ws fdI (Zd old) (Zd r) = decide (Qk (decide (old = old.map loC)) (r.take old.length) = old)) (Hsub : ∀ own : List Nat, (∀ c ∈ own, c ∈ A) -> own.length = old.length -> (Zd (Oc (decide (old = old.map loC)) new own) = sub (Zd own) /\ (Oc (decide (old = old.map loC)) new own).length <= 3))
  (e : text = pre ++ r) (ha : at_ = pre.length) (hr : ∀ c ∈ r, c ∈ A)
  (k : ∀ (f' : List Nat) (m' l' : Nat) (mn' la' : Int), (∀ res, res = (Zd f', m', l') -> Dn fdI (Zd old) sub res (Zd r) (Zd pre) 0 pre.length) -> mn' = m' -> la' = l' -> P (.ref 0) ⟨1, [(0, .tup [.str f', .int mn', .int la'])]⟩) :
  Run T (W T (n + 300) true) 1256 [.str text, .int at_, .str old, .str new] ⟨0, []⟩ P := by
 have hlen : text.length = pre.length + r.length := by rw [e, List.length_append]
 have zt := Zo (n := text.length) (Nat.le_trans (by assumption) (Nat.le_add_left _ _))
 have x1 : IX at_ := Xb (L1 (N1 _) (V1 _) 1 nA vA (Zl ha) kZ vA rfl) (nc fun zz => L4 (N3 _ _ _) (V1 _) 1 nA (.k 30) (nl htl) 1 vA nB (Zj ha) 1 (.a nB nC) nA (Yq hlen) 1 (.a (.k 1000) kI) vA zz kI kZ rfl)
 have za : (Zs old && sz old.length) = true := Ou (Vo hoa) (Zo (Nat.le_trans (by assumption) (Nat.le_add_left _ _)))
 have k1 : Wt text none (some at_.toNat) = pre := by
  show text.take at_.toNat = pre
  rw [ha, e]; exact List.take_left
 refine Yv rfl ?_
 w_fin
 rw [k1]
 w_fin
 refine Exists.intro [47, 11, 61, 27, 176, 3, 53, 71] (Exists.intro [] (Exists.intro [] (And.intro rfl (And.intro rfl ?_))))
 refine Yfk hA hn hnl ho ho' htl Hhit Hsub 30 pre r pre 0 pre.length at_ 0 at_ (gl (L2 (N3 _ _ _) V0 1 nB (.k 30) (nl htl) 1 (.a nC nA) nB (Yq hlen) nA (.k 30) rfl)) e ha rfl ha (gl (nc fun zz => L3 (N3 _ _ _) V0 3 nA (.k 30) (nl htl) 3 (.a nB nC) nA (Yq hlen) 1 (.a (.k 300) kI) (.a nB (.m 3 nC)) zz kI kZ rfl)) hr fun f' m' l' mn' la' q g2 g3 x => ?_
 exact ret_of [0] [] rfl rfl (k f' m' l' mn' la' q g2 g3)
end Mine.Ab.Cc
namespace Mine.Ab.Cc
theorem Zdx (c : Nat) : lo (c : Int) = (loC c : Nat) := by
 unfold lo loC Wc
 by_cases h : 65 <= c
 · by_cases h' : c <= 90
   · rw [decide_eq_true (show (65 : Int) <= c by exact L1 (N1 _) V0 1 (.k 65) nA (nl h) (.k 65) nA rfl), decide_eq_true (show (c : Int) <= 90 by exact L1 (N1 _) V0 1 nA (.k 90) (nl h') nA (.k 90) rfl), Nat.ble_eq_true_of_le h, Nat.ble_eq_true_of_le h']; rfl
   · rw [decide_eq_true (show (65 : Int) <= c by exact L1 (N1 _) V0 1 (.k 65) nA (nl h) (.k 65) nA rfl), decide_eq_false (show ¬ (c : Int) <= 90 by exact fun zz => gf (L2 (N1 _) V0 1 (.a (.k 90) kI) nA (Wi (Nat.not_le.mp h')) 1 nA (.k 90) zz kI kZ rfl)), Nat.ble_eq_true_of_le h, Bool.eq_false_iff.mpr (mt Nat.le_of_ble_eq_true h')]; rfl
 · rw [decide_eq_false (show ¬ (65 : Int) <= c by exact fun zz => gf (L2 (N1 _) V0 1 (.a nA kI) (.k 65) (Wi (Nat.not_le.mp h)) 1 (.k 65) nA zz kI kZ rfl)), Bool.eq_false_iff.mpr (mt Nat.le_of_ble_eq_true h)]; rfl
theorem Zmo (c : Nat) : up (c : Int) = (upC c : Nat) := by
 unfold up upC Wd
 by_cases h : 97 <= c
 · by_cases h' : c <= 122
   · rw [decide_eq_true (show (97 : Int) <= c by exact L1 (N1 _) V0 1 (.k 97) nA (nl h) (.k 97) nA rfl), decide_eq_true (show (c : Int) <= 122 by exact L1 (N1 _) V0 1 nA (.k 122) (nl h') nA (.k 122) rfl), Nat.ble_eq_true_of_le h, Nat.ble_eq_true_of_le h']
     show (c : Int) - 32 = ((c - 32 : Nat) : Int)
     exact M1 (N2 _ _) V0 (-1) (.a nB (.k 32)) nA (@Wb c 32 (gl (nc fun zz => L2 (N1 _) V0 1 (.k 97) nA (nl h) 1 (.a nA kI) (.k 32) zz kI kZ rfl))) (.s nA (.k 32)) nB rfl
   · rw [decide_eq_true (show (97 : Int) <= c by exact L1 (N1 _) V0 1 (.k 97) nA (nl h) (.k 97) nA rfl), decide_eq_false (show ¬ (c : Int) <= 122 by exact fun zz => gf (L2 (N1 _) V0 1 (.a (.k 122) kI) nA (Wi (Nat.not_le.mp h')) 1 nA (.k 122) zz kI kZ rfl)), Nat.ble_eq_true_of_le h, Bool.eq_false_iff.mpr (mt Nat.le_of_ble_eq_true h')]; rfl
 · rw [decide_eq_false (show ¬ (97 : Int) <= c by exact fun zz => gf (L2 (N1 _) V0 1 (.a nA kI) (.k 97) (Wi (Nat.not_le.mp h)) 1 (.k 97) nA zz kI kZ rfl)), Bool.eq_false_iff.mpr (mt Nat.le_of_ble_eq_true h)]; rfl
theorem Zbg (l : List Nat) : ((Zd l).any fun c => !decide (lo c = c)) = !decide (l = l.map loC) := by
 induction l with
 | nil => rfl
 | cons c l ih =>
   show (!decide (lo (c : Int) = c) || _) = _
   rw [show ((l.map Int.ofNat).any fun c => !decide (lo c = c)) = _ from ih, Zdx]
   by_cases h : loC c = c
   · rw [decide_eq_true (show ((loC c : Nat) : Int) = c by rw [h])]
     by_cases h' : l = l.map loC
     · rw [decide_eq_true h', decide_eq_true (show c :: l = (c :: l).map loC by rw [List.map_cons, h, <- h'])]; rfl
     · rw [decide_eq_false h', decide_eq_false (show ¬ c :: l = (c :: l).map loC from fun e => h' (List.cons.inj e).2)]; rfl
   · rw [decide_eq_false (show ¬ ((loC c : Nat) : Int) = c by lia), decide_eq_false (show ¬ c :: l = (c :: l).map loC from fun e => h (List.cons.inj e).1.symm)]; rfl
theorem Yfm (old : List Nat) : Ka (Zd old) = decide (old = old.map loC) := by unfold Ka; rw [Zbg, Bool.not_not]
theorem Zmp {fd : Bool} : ∀ (old r : List Nat), (fd = true -> old = old.map loC) -> Ws fd (Zd old) (Zd r) = decide (Qk fd (r.take old.length) = old)
 | [], r, _ => by
   rw [List.length_nil, List.take_zero]
   cases fd <;> rfl
 | c :: old, [], _ => by
   rw [List.take_nil]
   cases fd <;> rfl
 | c :: old, o :: r, h => by
   have ih := Zmp old r fun e => (List.cons.inj (h e)).2
   show ((decide ((o : Int) = c) || (fd && decide (lo (o : Int) = lo (c : Int)))) && Ws fd (Zd old) (Zd r)) = _
   rw [ih, Zdx, Zdx]
   have key : (decide ((o : Int) = c) || (fd && decide (((loC o : Nat) : Int) = (loC c : Nat)))) = decide (Qk fd [o] = [c]) := by
     cases fd with
     | false =>
       rw [Bool.false_and, Bool.or_false]
       by_cases e : o = c
       · subst e; rw [decide_eq_true rfl, decide_eq_true (show Qk false [o] = [o] from rfl)]
       · rw [decide_eq_false (by lia), decide_eq_false (show ¬ Qk false [o] = [c] from fun z => e (List.cons.inj z).1)]
     | true =>
       have hc : loC c = c := (List.cons.inj (h rfl)).1.symm
       rw [Bool.true_and]
       by_cases e : loC o = c
       · rw [decide_eq_true (show ((loC o : Nat) : Int) = (loC c : Nat) by rw [e, hc]), Bool.or_true, decide_eq_true (show Qk true [o] = [c] by show [loC o] = _; rw [e])]
       · rw [decide_eq_false (show ¬ ((loC o : Nat) : Int) = (loC c : Nat) by rw [hc]; lia), Bool.or_false, decide_eq_false (show ¬ Qk true [o] = [c] from fun z => e (List.cons.inj z).1)]
         exact decide_eq_false fun z => e (by rw [show o = c by exact gq (M1 (N2 _ _) V0 1 nA nB z nA nB rfl)]; exact hc)
   rw [key, List.length_cons, List.take_succ_cons, <- Bool.decide_and]
   refine decide_eq_decide.mpr ?_
   cases fd with
   | false => exact ⟨fun ⟨a, b⟩ => by show o :: _ = _; rw [(List.cons.inj a).1]; exact congrArg _ b, fun a => ⟨by show [o] = [c]; rw [(List.cons.inj a).1], (List.cons.inj a).2⟩⟩
   | true => exact ⟨fun ⟨a, b⟩ => by show loC o :: _ = _; rw [(List.cons.inj a).1]; exact congrArg _ b, fun a => ⟨by show [loC o] = [c]; rw [(List.cons.inj a).1], (List.cons.inj a).2⟩⟩
noncomputable def sgN : List Nat := [97, 65, 98, 66, 32, 45, 49]
noncomputable def eqM (w : List Nat) : Bool := Nat.beq (Jm w) (Yp (Zd w))
theorem Yfn : (sgN.all fun a => eqM [a] && sgN.all fun b => eqM [a, b] && sgN.all fun c => eqM [a, b, c]) = true := by decide +kernel
theorem Yfo {own : List Nat} (h : ∀ c ∈ own, c ∈ sgN) (h0 : 1 <= own.length) (h1 : own.length <= 3) : Jm own = Yp (Zd own) := by
 have m := Yfn
 match own, h, h0, h1 with
 | [a], h, _, _ => exact Nat.eq_of_beq_eq_true (Bool.and_eq_true_iff.mp (List.all_eq_true.mp m a (h a (.head _)))).1
 | [a, b], h, _, _ =>
  have := (Bool.and_eq_true_iff.mp (List.all_eq_true.mp m a (h a (.head _)))).2
  exact Nat.eq_of_beq_eq_true (Bool.and_eq_true_iff.mp (List.all_eq_true.mp this b (h b (.tail _ (.head _))))).1
 | [a, b, c], h, _, _ =>
  have := (Bool.and_eq_true_iff.mp (List.all_eq_true.mp m a (h a (.head _)))).2
  have := (Bool.and_eq_true_iff.mp (List.all_eq_true.mp this b (h b (.tail _ (.head _))))).2
  exact Nat.eq_of_beq_eq_true (List.all_eq_true.mp this c (h c (.tail _ (.tail _ (.head _)))))
 | [], _, h0, _ => contradiction
 | _ :: _ :: _ :: _ :: _, _, _, h1 => exact absurd h1 (by simp)
theorem Yfp {c : Nat} (h : (c : Int) ∈ Yx) : Ol c = Wg c := (show ∀ x ∈ Yx, Ol x.toNat = Wg x.toNat by decide +kernel) c h
noncomputable def Hs (i : Bool) (l : List Nat) : List Nat := match l with
 | [] => []
 | c :: r => (match i with
   | true => c
   | false => upC c) :: Hs (Wg c) r
theorem Zmq : ∀ (l : List Nat) (i : Bool), (∀ c ∈ Zd l, c ∈ Yx) -> Zd (Hs i l) = ini (Zd l) i
 | [], _, _ => rfl
 | c :: r, i, h => by
   have hc : (c : Int) ∈ Yx := h _ (.head _)
   show _ :: Zd (Hs (Wg c) r) = _ :: ini (Zd r) (Ol (c : Int))
   rw [Yfp hc, Zmq r (Wg c) fun d hd => h d (.tail _ hd)]
   cases i with
   | true => rfl
   | false => exact congrArg (· :: _) (Zmo c).symm
theorem Zmr : ∀ (r : List Nat) (c : Nat) (i : Bool), Wg c = i -> (List.range r.length).map (fun k => match !Wg ((c :: r).getD k 0) with
  | true => upC (r.getD k 0)
  | false => r.getD k 0) = Hs i r
 | [], _, _, _ => rfl
 | d :: r, c, i, h => by
  rw [List.length_cons, List.range_succ_eq_map, List.map_cons, List.map_map]
  subst h
  have := Zmr r d _ rfl
  show _ :: _ = (match Wg c with | true => d | false => upC d) :: Hs (Wg d) r
  refine congr (congrArg List.cons ?_) this
  show (match !Wg c with | true => upC d | false => d) = (match Wg c with | true => d | false => upC d)
  cases Wg c <;> rfl
theorem Yfq (l : List Nat) : (List.range l.length).map (Kc l) = Hs false l := by
 cases l with
 | nil => rfl
 | cons c r =>
  rw [List.length_cons, List.range_succ_eq_map, List.map_cons, List.map_map]
  show Kc (c :: r) 0 :: _ = upC c :: Hs (Wg c) r
  refine congr (congrArg List.cons rfl) ?_
  rw [<- Zmr r c _ rfl]
  refine List.map_congr_left fun k _ => ?_
  show Kc (c :: r) (k + 1) = _
  unfold Kc
  rw [decide_eq_false (show ¬ (0 : Int) + ((k + 1 : Nat) : Int) = 0 by exact fun zz => gf (L1 (N1 _) V0 1 (.a kZ (.a nA kI)) kZ (Zj zz) kI kZ rfl))]
  rfl
theorem Yfr {k : Nat} {l : List Nat} (h : ∀ c ∈ Zd l, c ∈ Yx) : Zd (Hr k l) = Yy k (Zd l) := match k with
 | 0 => rfl
 | 1 => by
  show Zd ((List.range l.length).map (Kc l)) = ini (Zd l) false
  rw [Yfq, Zmq l false h]
 | _ + 2 => by
  show List.map _ (List.map _ _) = List.map _ (List.map _ _)
  rw [List.map_map, List.map_map]
  exact List.map_congr_left fun c _ => (Zmo c).symm
theorem Yfs {old new own : List Nat} (hns : ((Zd new).any fun c => !decide (lo c = c)) = false -> ∀ x ∈ Zd new, x ∈ Yx) (h : ∀ c ∈ own, c ∈ sgN) (h0 : 1 <= own.length) (h1 : own.length <= 3) :
  Zd (Oc (decide (old = old.map loC)) new own) = Kb (Zd old) (Zd new) (Zd own) := by
 unfold Oc Kb
 rw [Zbg, Zbg]
 cases e : !decide (old = old.map loC) || !decide (new = new.map loC) with
 | true => rfl
 | false =>
  have e2 : ((Zd new).any fun c => !decide (lo c = c)) = false := by rw [Zbg]; exact (Bool.or_eq_false_iff.mp e).2
  show Zd (Hr (Jm own) new) = Yy (Yp (Zd own)) (Zd new)
  rw [Yfo h h0 h1, Yfr (hns e2)]
theorem Yft {k : Nat} {l : List Nat} : (Hr k l).length = l.length := match k with
 | 0 => rfl
 | 1 => by show ((List.range l.length).map _).length = _; rw [List.length_map, List.length_range]
 | _ + 2 => List.length_map _
theorem Yfu {fd : Bool} {new own : List Nat} : (Oc fd new own).length = new.length := by
 unfold Oc
 cases !fd || !decide (new = new.map loC) with
 | true => rfl
 | false => exact Yft
end Mine.Ab.Cc
namespace Mine.Ab.Cc
theorem Gap.size {cells t : List Int} {gs ge : Int} (g : Gap cells gs ge t) : (cells.length : Int) - ge + gs = t.length := by
 obtain ⟨a, g, b, rfl, rfl, rfl, rfl, -⟩ := g
 rw [List.length_append, List.length_append, List.length_append]
 exact M0 (N3 _ _ _) V0 (.a (.s (.a nA (.a nB nC)) (.a nA nB)) nA) (.a nA nC) rfl
theorem Dn.many {fd : Bool} {codes : List Int} {sub : List Int -> List Int} {res : List Int × Nat × Nat} (hc : 1 <= codes.length) {v f : List Int} {m l : Nat} (d : Dn fd codes sub res v f m l) : res.2.1 <= m + v.length := by
 induction d with
 | nil f m l h => rw [h]; exact Nat.le_refl _
 | hit own r f m l h hl q ih => rw [List.length_append]; exact gl (L3 (N5 _ _ _ _ _) V0 1 kI nE (nl hc) 1 nE nC (Yq hl) 1 nA (.a (.a nB kI) nD) (nl ih) nA (.a nB (.a nC nD)) rfl)
 | no o r f m l h q ih => rw [List.length_cons]; exact Nat.le_succ_of_le (by assumption)
theorem Zms {c : Nat} (h : c ∈ sgN) : Zs [c] = true := (show ∀ c ∈ sgN, Zs [c] = true by decide +kernel) c h
theorem Yfv {c : Nat} (h : c ∈ sgN) : (c : Int) ∈ Yx := (show ∀ c ∈ sgN, (c : Int) ∈ Yx by decide +kernel) c h
noncomputable abbrev lwCk : E := (.meth (.loc 9) 1 [.lit (.int 1), .bin 0 (.meth (.loc 9) 118 []) (.lit (.int 1))])
noncomputable abbrev lwOr : E := (.comp 85 false (.loc 181) (.bi 3 [.loc 85]) (.lit (.bool true)))
noncomputable abbrev lwT : List S := [.asg 10 (.call 1234 [.loc 158, .bin 0 (.bi 0 [.loc 47]) (.lit (.int 1))]),
 .ex (.meth (.loc 9) 180 [.bin 0 (.loc 10) (.lit (.int 1))]),
 .asgT [181, 53, 71] (.call 1256 [.loc 47, .loc 10, .loc 61, .loc 27]),
 .ex (.call 641 [.loc 90, .list [.loc 61, .loc 27]]),
 .ite (.or (.cmp 1 lwCk lwOr) (.cmp 1 (.fld (.loc 9) 45) (.bin 0 (.loc 71) (.lit (.int 1))))) [.ret (.lit (.bool false))] [],
 .ite (.cmp 1 (.fld (.loc 90) 93) (.bin 0 (.bin 0 (.bin 0 (.lit (.str [82, 101, 112, 108, 97, 99, 101, 100, 32])) (.bi 10 [.loc 53])) (.lit (.str [32, 111, 99, 99, 117, 114, 114, 101, 110, 99, 101]))) (.ite (.cmp 0 (.loc 53) (.lit (.int 1))) (.lit (.str [])) (.lit (.str [115]))))) [.ret (.lit (.bool false))] []]
noncomputable abbrev lwQ (n : Nat) : Fl -> Fm -> Hp -> Prop := fun fl m H => match fl with
 | .nx => (∃ v, Ze 27 m = some (.str v) /\ v.length <= 400) /\ (∃ i, Ze 90 m = some (.ref i)) /\ (W T n false).e (.cmp 0 lwCk lwOr) (fun v _ => v = .bool true) m H
 | .ret _ => False
noncomputable abbrev lwH (xs as bs cells us : List Int) (zs : List Int) (old new : List Nat) (x1 x2 x3 x4 : Int) (zv c gs ge : Int) : List (Nat × O) :=
 [(31, .tup [.str old, .str new]), (30, .il []), (29, .il []), (28, .il []), (27, .tup [.int x1, .int x2]), (26, .tup [.int x3, .int x4]), (25, .il us), (24, .il []), (23, .dct []), (22, Oj 23), (21, .il cells), (20, .il zs), (19, .il [0]), (18, .il []), (17, Oi 21 gs ge), (16, .il []), (15, Oh zv zv 2 2 17 22 24),
  (14, .tup [.ref 1, .ref 7]), (13, .il []), (12, amO), (11, .dct []), (10, .dct []), (9, .il []), (8, .dct []), (7, edO [] 4 8 9 10 11 12 13), (6, .il [1]), (5, .dct [(1, .ref 15)]), (4, btO 5 6), (1, .lst [.ref 2, .ref 3, .int c]), (2, .il as), (3, .il bs), (0, .sil xs)]
theorem Zmt {n : Nat} {xs as bs cells zs : List Int} {text old0 old new : List Nat} {x1 x2 x3 x4 zv c gs ge : Int} {tl : Fm} (ha : as.length <= 20) (hb : 0 < bs.length) (hb' : bs.length <= 21) (hc : 0 <= c) (hc' : c <= 1000)
   (G : Gap cells gs ge (Zd text)) (hz : zv = (text.length : Int) + 1) (ht : text.length <= 14) (ht' : ∀ x ∈ text, x ∈ sgN) (ho : 1 <= old.length) (ho' : old.length <= 3) (hoa : ∀ x ∈ old, Zs [x] = true) (hn : new.length <= 3) (hna : ∀ x ∈ new, Zs [x] = true)
   (hns : ((Zd new).any fun c => !decide (lo c = c)) = false -> ∀ x ∈ Zd new, x ∈ Yx) (htl : tl = [] \/ ∃ v, tl = [(11, v)]) :
   (W T (n + 583) true).s 1 lwT (lwQ (n + 100)) ((156, .ref 0) :: (158, .ref 1) :: (90, .ref 7) :: (9, .ref 15) :: (47, .str text) :: (61, .str old) :: (27, .str new) :: tl) ⟨32, lwH xs as bs cells (Zd text) zs old0 new x1 x2 x3 x4 zv c gs ge⟩ := by
 have z1 := Zo (n := text.length) (Nat.le_trans (by assumption) (Nat.le_add_left _ _))
 have ol : (Zd text).length = text.length := List.length_map _
 have lt192 : ∀ l : List Nat, (∀ x ∈ l, Zs [x] = true) -> ∀ x ∈ Zd l, x < 192 := fun l h x hx => by
   (refine Zb (List.mem_map.mp hx) ?_; rintro y hy rfl)
   have := (Bool.and_eq_true_iff.mp ((Bool.and_eq_true_iff.mp (show (_ && true) = true from h y hy)).1)).2
   have := Nat.le_of_ble_eq_true this
   show (y : Int) < 192
   exact il (nc fun zz => L2 (N1 _) V0 1 nA (.k 126) (nl this) 1 (.a (.k 192) kI) (.a nA kI) zz kI kZ rfl)
 have sgt : ∀ x ∈ text, Zs [x] = true := fun x hx => Zms (ht' x hx)
 rcases htl with rfl | ⟨v, rfl⟩
 all_goals
   w_fin
   refine Zm [1, 2, 3] [] rfl ?_
   refine Vn (il (L0 (N1 _) V0 (.a kZ kI) (.a nA kI) rfl)) (nc fun zz => L2 (N1 _) V0 1 nA (.k 14) (nl ht) 1 (.a (.k 1000) kI) (.a nA kI) zz kI kZ rfl) ha hb hb' hc (L1 N0 (V1 _) 1 vA (.k 1000) hc' vA (.k 1000000) rfl) fun r as1 c1 r1 r2 ha1 hc1 hc1' => ?_
   w_fin
   have hpl : min (max (r + 1) 1) zv = r + 1 := M2 N0 (V3 _ _ _) 1 vC (.a vB kI) (@Int.max_eq_left (r + 1) 1 (L1 N0 (V1 _) 1 kZ vA r1 kI (.a vA kI) rfl)) 1 vA vC (@Int.min_eq_left (max (r + 1) 1) zv (L3 (N1 _) (V3 _ _ _) 1 (.a nA kI) vB (Zl hz) 1 (.a vC kI) (.a nA kI) (li r2) 1 vA (.a vC kI) (Zj (@Int.max_eq_left (r + 1) 1 (L1 N0 (V1 _) 1 kZ vA r1 kI (.a vA kI) rfl))) vA vB rfl)) vA (.a vB kI) rfl
   rw [hpl]
   have hrl : (text.take r.toNat).length = r.toNat := List.length_take_of_le (gl (L2 (N2 _ _) (V1 _) 1 (.a vA kI) (.a nB kI) (li r2) 1 nA vA (Zj (@Int.toNat_of_nonneg r (L1 N0 (V1 _) 1 kZ vA r1 kZ vA rfl))) nA nB rfl))
   have e0 : text = text.take r.toNat ++ text.drop r.toNat := (List.take_append_drop _ _).symm
   refine Zm [] [] rfl ?_
   refine Yfl (fdI := Ka (Zd old)) (sub := Kb (Zd old) (Zd new)) (A := sgN) (by unfold sgN; decide) hna hoa hn ho (Nat.le_trans (by assumption) (Nat.le_add_left _ _)) (Nat.le_trans (by assumption) (Nat.le_add_left _ _)) (fun q => by rw [Yfm]; exact Zmp old q fun e => of_decide_eq_true e) (fun own h1 h2 => ⟨Yfs hns h1 (gl (L2 (N2 _ _) V0 1 kI nB (nl ho) 1 nB nA (Yq h2) kI nA rfl)) (gl (L2 (N2 _ _) V0 1 nB (.k 3) (nl ho') 1 nA nB (Wv h2) nA (.k 3) rfl)), by rw [Yfu]; exact hn⟩) e0 (by rw [hrl]; exact M1 (N1 _) (V1 _) (-1) nA vA (@Int.toNat_of_nonneg r (L1 N0 (V1 _) 1 kZ vA r1 kZ vA rfl)) vA nA rfl) (fun c hc => ht' c (List.mem_of_mem_drop hc)) fun f m l mn la hd hm hla => ?_
   w_fin
   have pl' : (Zd (text.take r.toNat)).length = r.toNat := by rw [show (Zd (text.take r.toNat)).length = _ from List.length_map _, hrl]
   have dl' : (Zd (text.drop r.toNat)).length = text.length - r.toNat := by rw [show (Zd (text.drop r.toNat)).length = _ from List.length_map _, List.length_drop]
   have hd1 := hd _ rfl
   rw [show (text.take r.toNat).length = (Zd (text.take r.toNat)).length from (List.length_map _).symm] at hd1
   refine Zm [7, 33, 4, 5, 6, 8, 9, 10, 11, 12, 13, 15, 17, 21, 22, 23, 24] [] rfl ?_
   refine Yfg (res := (Zd f, m, l)) (p := Zd (text.take r.toNat)) (r := Zd (text.drop r.toNat)) (lt192 old hoa) (Nat.le_trans (by assumption) (Nat.le_add_left _ _)) ho hn (lt192 new hna) hns G (by rw [ol]; exact hz) (by rw [show Zd text = _ from congrArg Zd e0]; exact List.map_append) (by rw [pl']; exact M1 (N1 _) (V1 _) (-1) nA vA (@Int.toNat_of_nonneg r (L1 N0 (V1 _) 1 kZ vA r1 kZ vA rfl)) (.a vA kI) (.a nA kI) rfl) (lt192 _ fun x hx => sgt x (List.mem_of_mem_take hx)) (fun x hx => by
     (refine Zb (List.mem_map.mp hx) ?_; rintro y hy rfl)
     exact Yfv (ht' y (List.mem_of_mem_drop hy))) (by rw [pl', dl']; exact gl (nc fun zz => L3 (N3 _ _ _) V0 3 nA (.k 14) (nl ht) 3 (.a nB nC) nA (Zj (@Wb text.length r.toNat (gl (L2 (N2 _ _) (V1 _) 1 (.a vA kI) (.a nB kI) (li r2) 1 nA vA (Zj (@Int.toNat_of_nonneg r (L1 N0 (V1 _) 1 kZ vA r1 kZ vA rfl))) nA nB rfl)))) 1 (.a (.k 100) kI) (.a nC (.m 3 nB)) zz kI kZ rfl)) (by
       have := hd1.many (by rw [show (Zd old).length = _ from List.length_map _]; exact ho)
       rw [dl'] at this
       exact Nat.le_trans this (gl (nc fun zz => L3 (N3 _ _ _) V0 1 nA (.k 14) (nl ht) 1 (.a nB nC) nA (Zj (@Wb text.length r.toNat (gl (L2 (N2 _ _) (V1 _) 1 (.a vA kI) (.a nB kI) (li r2) 1 nA vA (Zj (@Int.toNat_of_nonneg r (L1 N0 (V1 _) 1 kZ vA r1 kZ vA rfl))) nA nB rfl)))) 1 (.a (.k 1000) kI) (.a kZ nB) zz kI kZ rfl))) hd1 fun cells2 gs2 ge2 tk2 ct2 pt2 zv2 G2 hpt hzv => ?_
   have G3 : Gap cells2 gs2 ge2 ([] ++ (Zd f ++ [])) := by rw [List.append_nil]; exact G2
   have zc := Zo (n := cells2.length) (Nat.le_trans G2.z (by decide))
   have zs := Gap.size G2
   have fl : (Zd f).length = f.length := List.length_map _
   have zf : sz f.length = true := by
     refine Xs G2.n fun g1 g2 g3 g4 => ?_
     have g4 : ((Zd f).length : Int) + (ge2 - gs2) <= 400 := g4
     exact Zo (gl (L5 (N3 _ _ _) (V2 _ _) 30 (.a kZ kI) nB (Wi hb) 30 nB (.k 21) (nl hb') 1 nA nC (Yq fl) 1 vA vB g2 1 (.a nC (.s vB vA)) (.k 400) g4 nA (.k 1000) rfl))
   have zs : (cells2.length : Int) - ge2 + gs2 = (Zd f).length := zs
   have e1 : (!decide (Zd f = Zd f)) = false := by rw [decide_eq_true rfl]; rfl
   have e2 : (!decide (pt2 = la + 1)) = false := by rw [decide_eq_true (by rw [hpt, hla])]; rfl
   have e3 : decide (0 <= mn /\ mn < 1000000) = true := by
     have := hd1.many (by rw [show (Zd old).length = _ from List.length_map _]; exact ho)
     rw [dl'] at this
     have : m <= 0 + (text.length - r.toNat) := this
     exact decide_eq_true (⟨L1 (N1 _) (V1 _) 1 nA vA (Zl hm) kZ vA rfl, il (nc fun zz => L5 (N4 _ _ _ _) (V1 _) 1 nA (.k 14) (nl ht) 1 vA nB (Zj hm) 1 nB (.a kZ nC) (nl this) 1 (.a nC nD) nA (Zj (@Wb text.length r.toNat (gl (L2 (N2 _ _) (V1 _) 1 (.a vA kI) (.a nB kI) (li r2) 1 nA vA (Zj (@Int.toNat_of_nonneg r (L1 N0 (V1 _) 1 kZ vA r1 kZ vA rfl))) nA nB rfl)))) 1 (.a (.k 1000000) kI) (.a vA kI) zz kI kZ rfl)⟩)
   refine Xs (Zbd mn) fun w1 w2 w3 w4 => ?_
   have et : Qz (((Zd f, m, l).2.1 : Nat) : Int) = Qz mn := by rw [hm]
   rw [et]
   w_fin
   refine Zm [17, 21] [] rfl ?_
   refine Hm (p := []) (d := Zd f) (q := []) G3 rfl (by rw [List.length_nil]; exact M1 (N2 _ _) (V2 _ _) 1 (.a (.s nA vA) vB) nB zs (.s (.a (.a (.s nA vA) vB) kI) kI) (.a kZ nB) rfl) ?_
   w_fin
   refine Qx (fun c => .int (Int.ofNat c)) ?_ ?_ ?_ ?_
   · exact trivial
   · exact fun x hx K q => q
   · exact fun x hx K q => q
   refine .inl ⟨Zd f, by unfold Zd; rw [List.map_map]; rfl, ?_⟩
   w_fin
   refine Ur (fun h => ?_) (fun h => ?_)
   · have e4 : (!decide (Qz mn = [82, 101, 112, 108, 97, 99, 101, 100, 32] ++ Xv 20 mn.toNat [] ++ [32, 111, 99, 99, 117, 114, 114, 101, 110, 99, 101] ++ [])) = false := by
       unfold Qz; rw [decide_eq_true h, decide_eq_true rfl]; rfl
     w_fin
     refine Xx ⟨_, rfl, Nat.le_trans hn (by decide)⟩ ⟨_, rfl⟩ ?_
     w_fin
     refine Zm [17, 21] [] rfl ?_
     refine Hm (p := []) (d := Zd f) (q := []) G3 rfl (by rw [List.length_nil]; exact M1 (N2 _ _) (V2 _ _) 1 (.a (.s nA vA) vB) nB zs (.s (.a (.a (.s nA vA) vB) kI) kI) (.a kZ nB) rfl) ?_
     w_fin
     refine Qx (fun c => .int (Int.ofNat c)) ?_ ?_ ?_ ?_
     · exact trivial
     · exact fun x hx K q => q
     · exact fun x hx K q => q
     refine .inl ⟨Zd f, by unfold Zd; rw [List.map_map]; rfl, ?_⟩
     exact congrArg V.bool (decide_eq_true rfl)
   · have e4 : (!decide (Qz mn = [82, 101, 112, 108, 97, 99, 101, 100, 32] ++ Xv 20 mn.toNat [] ++ [32, 111, 99, 99, 117, 114, 114, 101, 110, 99, 101] ++ [115])) = false := by
       unfold Qz; rw [decide_eq_false h, decide_eq_true rfl]; rfl
     w_fin
     refine Xx ⟨_, rfl, Nat.le_trans hn (by decide)⟩ ⟨_, rfl⟩ ?_
     w_fin
     refine Zm [17, 21] [] rfl ?_
     refine Hm (p := []) (d := Zd f) (q := []) G3 rfl (by rw [List.length_nil]; exact M1 (N2 _ _) (V2 _ _) 1 (.a (.s nA vA) vB) nB zs (.s (.a (.a (.s nA vA) vB) kI) kI) (.a kZ nB) rfl) ?_
     w_fin
     refine Qx (fun c => .int (Int.ofNat c)) ?_ ?_ ?_ ?_
     · exact trivial
     · exact fun x hx K q => q
     · exact fun x hx K q => q
     refine .inl ⟨Zd f, by unfold Zd; rw [List.map_map]; rfl, ?_⟩
     exact congrArg V.bool (decide_eq_true rfl)
end Mine.Ab.Cc
namespace Mine.Ab.Cc
noncomputable abbrev txA : List Nat := [97, 65, 98, 66, 32, 97, 65, 97, 98, 45, 49]
theorem Zdy {c : Nat} (h : c ∈ txA) : c ∈ sgN := (show ∀ c ∈ txA, c ∈ sgN by decide +kernel) c h
theorem Yfw {c : Nat} (h : c ∈ [97, 97, 98, 65, 32, 98, 49]) : Zs [c] = true := (show ∀ c ∈ [97, 97, 98, 65, 32, 98, 49], Zs [c] = true by decide +kernel) c h
theorem Zmu {c : Nat} (h : c ∈ [120, 121, 120, 32, 121, 88, 45, 97]) : Zs [c] = true := (show ∀ c ∈ [120, 121, 120, 32, 121, 88, 45, 97], Zs [c] = true by decide +kernel) c h
theorem Yfx {c : Nat} (h : Zs [c] = true) : Zs [loC c] = true := by
 have h := Bool.and_eq_true_iff.mp ((Bool.and_eq_true_iff.mp (show (_ && true) = true from h)).1)
 have h1 := Nat.le_of_ble_eq_true h.1
 have h2 := Nat.le_of_ble_eq_true h.2
 have : 32 <= loC c /\ loC c <= 126 := by
   unfold loC Wc
   by_cases g : 65 <= c
   · by_cases g' : c <= 90
     · rw [Nat.ble_eq_true_of_le g, Nat.ble_eq_true_of_le g']; exact ⟨Nat.le_trans h1 (Nat.le_add_right _ _), by show c + 32 <= 126; exact gl (nc fun zz => L2 (N1 _) V0 1 nA (.k 90) (nl g') 1 (.a (.k 126) kI) (.a nA (.k 32)) zz kI kZ rfl)⟩
     · rw [Nat.ble_eq_true_of_le g, Bool.eq_false_iff.mpr (mt Nat.le_of_ble_eq_true g')]; exact ⟨h1, h2⟩
   · rw [Bool.eq_false_iff.mpr (mt Nat.le_of_ble_eq_true g)]; exact ⟨h1, h2⟩
 show ((Nat.ble 32 (loC c) && Nat.ble (loC c) 126) && true) = true
 rw [Nat.ble_eq_true_of_le this.1, Nat.ble_eq_true_of_le this.2]; rfl
theorem Zmv {new : List Nat} (h : ∀ c ∈ new, c ∈ [120, 121, 120, 32, 121, 88, 45, 97]) (h' : ((Zd new).any fun c => !decide (lo c = c)) = false) : ∀ x ∈ Zd new, x ∈ Yx := fun x hx => by
 have hu := List.any_eq_false.mp h' x hx
 (refine Zb (List.mem_map.mp hx) ?_; rintro y hy rfl)
 have := h y hy
 simp only [List.mem_cons, List.not_mem_nil, or_false] at this
 unfold Yx
 rcases this with rfl | rfl | rfl | rfl | rfl | rfl | rfl | rfl
 all_goals first
  | decide
  | exact absurd rfl hu
noncomputable def lwF : List S := F1261.body.take 13
theorem law_ok {n : Nat} {xs : List Int} (hl : xs.length <= 63) : (W T (n + 590) true).s 1 lwF (lwQ (n + 100)) [(156, .ref 0)] ⟨1, [(0, .sil xs)]⟩ := by
 refine Zm [0] [] rfl ?_
 refine Yfh (Nat.le_trans (by assumption) (Nat.le_add_left _ _)) fun as bs ha hb hb' => ?_
 w_fin
 refine Zm [1, 2, 3] [] rfl ?_
 refine Zdv (by decide) (by decide) (by decide) (by decide) (by decide) ha hb hb' (by decide) (by decide) fun text as1 c1 t1 t2 t3 ha1 hc1 hc1' => ?_
 have z1 := Zo (n := text.length) (gl (nc fun zz => L2 (N1 _) V0 1 nA (.k 14) t2 1 (.a (.k 1000) kI) nA zz kI kZ rfl))
 w_fin
 refine Qx (fun c => .int (Int.ofNat c)) ?_ ?_ ?_ ?_
 · exact trivial
 · exact fun x hx K q => q
 · exact fun x hx K q => q
 have ol : (Zd text).length = text.length := List.length_map _
 refine .inl ⟨Zd text, by unfold Zd; rw [List.map_map]; rfl, ?_⟩
 have z2 := Zo (n := (Zd text).length) (gl (nc fun zz => L3 (N2 _ _) V0 1 nA (.k 14) t2 1 nB nA (Wv ol) 1 (.a (.k 1000) kI) nB zz kI kZ rfl))
 have t0 : decide (((Zd text).length : Int) = 0) = false := decide_eq_false (fun zz => gf (L3 (N2 _ _) V0 1 (.k 3) nA t1 1 nA nB (Yq ol) 1 nB kZ (Zj zz) kI kZ rfl))
 w_fin
 have G0 : Gap ([] ++ List.replicate (Int.toNat 8) (0 : Int)) ((List.length ([] : List Int) : Nat) : Int) (((List.length ([] : List Int) : Nat) : Int) + 8) ([] ++ []) := ⟨[], List.replicate 8 0, [], rfl, rfl, rfl, rfl, by decide⟩
 refine Zm [17, 21, 25] [] rfl ?_
 refine Zlt G0 rfl (by show 0 + 0 + _ <= 390; exact gl (nc fun zz => L3 (N2 _ _) V0 1 nA (.k 14) t2 1 nB nA (Wv ol) 1 (.a (.k 390) kI) (.a (.a kZ kZ) nB) zz kI kZ rfl)) fun cells gs ge G1 => ?_
 w_fin
 refine Zm [1, 2, 3] [] rfl ?_
 refine Zdv (by decide) (by decide) (by decide) (by decide) (by decide) ha1 hb hb' (by assumption) (L1 N0 (V1 _) 1 vA (.a kZ (.k 20)) hc1' vA (.k 900000) rfl) fun old as2 c2 o1 o2 o3 ha2 hc2 hc2' => ?_
 refine Zm [1, 2, 3] [] rfl ?_
 refine Zdv (by decide) (by decide) (by decide) (by decide) (by decide) ha2 hb hb' (L2 N0 (V2 _ _) 1 kZ vB hc1 1 vB vA hc2 kZ vA rfl) (L2 N0 (V2 _ _) 1 vB (.a kZ (.k 20)) hc1' 1 vA (.a vB (.k 20)) hc2' vA (.k 900000) rfl) fun new as3 c3 n1 n2 n3 ha3 hc3 hc3' => ?_
 w_fin
 refine Zm [1, 2, 3] [] rfl ?_
 refine Vn (by decide) (by decide) ha3 hb hb' (L3 N0 (V3 _ _ _) 1 kZ vB hc1 1 vB vC hc2 1 vC vA hc3 kZ vA rfl) (L3 N0 (V3 _ _ _) 1 vB (.a kZ (.k 20)) hc1' 1 vC (.a vB (.k 20)) hc2' 1 vA (.a vC (.k 20)) hc3' vA (.k 1000000) rfl) fun r as4 c4 r1 r2 ha4 hc4 hc4' => ?_
 refine Xd (fun hr => ?_) (fun hr => ?_)
 · have z3 := Zo (n := text.length) (gl (nc fun zz => L2 (N1 _) V0 1 nA (.k 14) t2 1 (.a (.k 1000) kI) nA zz kI kZ rfl))
   w_fin
   refine Zm [1, 2, 3] [] rfl ?_
   refine Vn (il (nc fun zz => L2 (N1 _) V0 1 (.k 3) nA t1 1 (.a nA kI) (.a kZ kI) zz kI kZ rfl)) (nc fun zz => L2 (N1 _) V0 1 nA (.k 14) t2 1 (.a (.k 1000) kI) nA zz kI kZ rfl) ha4 hb hb' (L4 N0 (V4 _ _ _ _) 1 kZ vB hc1 1 vB vC hc2 1 vC vD hc3 1 vD vA hc4 kZ vA rfl) (nc fun zz => L5 N0 (V4 _ _ _ _) 1 vA (.a kZ (.k 20)) hc1' 1 vB (.a vA (.k 20)) hc2' 1 vC (.a vB (.k 20)) hc3' 1 vD (.a vC kI) hc4' 1 (.a (.k 1000000) kI) vD zz kI kZ rfl) fun i as5 c5 i1 i2 ha5 hc5 hc5' => ?_
   w_fin
   refine Zm [1, 2, 3] [] rfl ?_
   refine Vn (by decide) (by decide) ha5 hb hb' (L5 N0 (V5 _ _ _ _ _) 1 kZ vB hc1 1 vB vC hc2 1 vC vD hc3 1 vD vE hc4 1 vE vA hc5 kZ vA rfl) (nc fun zz => L6 N0 (V5 _ _ _ _ _) 1 vA (.a kZ (.k 20)) hc1' 1 vB (.a vA (.k 20)) hc2' 1 vC (.a vB (.k 20)) hc3' 1 vD (.a vC kI) hc4' 1 vE (.a vD kI) hc5' 1 (.a (.k 1000000) kI) vE zz kI kZ rfl) fun j as6 c6 j1 j2 ha6 hc6 hc6' => ?_
   have x1 : IX i := Xb i1 (nc fun zz => L3 (N1 _) (V1 _) 1 nA (.k 14) t2 1 (.a vA kI) nA (li i2) 1 (.a (.k 1000) kI) vA zz kI kZ rfl)
   have x2 : IX (i + 2 + j) := Xb (nc fun zz => L3 N0 (V2 _ _) 1 kZ vA i1 1 kZ vB j1 1 (.a (.a (.a vA (.k 2)) vB) kI) kZ zz kI kZ rfl) (nc fun zz => L4 (N1 _) (V2 _ _) 1 nA (.k 14) t2 1 (.a vA kI) nA (li i2) 1 (.a vB kI) (.k 2) (li j2) 1 (.a (.k 1000) kI) (.a (.a vA (.k 2)) vB) zz kI kZ rfl)
   w_fin
   have hx : ∀ c ∈ Wt text (some i.toNat) (some (i + 2 + j).toNat), Zs [c] = true := fun c hc => Zms (Zdy (t3 c (List.mem_of_mem_drop (List.mem_of_mem_take hc))))
   have hxl : 1 <= (Wt text (some i.toNat) (some (i + 2 + j).toNat)).length /\ (Wt text (some i.toNat) (some (i + 2 + j).toNat)).length <= 3 := by
     have : (Wt text (some i.toNat) (some (i + 2 + j).toNat)).length = min ((i + 2 + j).toNat - i.toNat) (text.length - i.toNat) := by
       show ((text.drop i.toNat).take _).length = _
       rw [List.length_take, List.length_drop]
     rw [this]
     exact ⟨Nat.le_min.mpr ⟨by lia, by lia⟩, Nat.le_trans (Nat.min_le_left _ _) (by lia)⟩
   generalize Wt text (some i.toNat) (some (i + 2 + j).toNat) = cu at hx hxl ⊢
   have z4 : (Zs cu && sz cu.length) = true := Ou (Vo hx) (Zo (gl (nc fun zz => L2 (N1 _) V0 1 nA (.k 3) (nl hxl.2) 1 (.a (.k 1000) kI) nA zz kI kZ rfl)))
   refine Ug z4 ?_
   generalize hw : W T (n + 583) true = w
   refine (?_ : Sys.s w 1 lwT _ _ _)
   subst hw
   exact Zmt (old := cu.map loC) (tl := [(11, .int i)]) ha6 hb hb' (L6 N0 (V6 _ _ _ _ _ _) 1 kZ vB hc1 1 vB vC hc2 1 vC vD hc3 1 vD vE hc4 1 vE vF hc5 1 vF vA hc6 kZ vA rfl) (nc fun zz => L7 N0 (V6 _ _ _ _ _ _) 1 vA (.a kZ (.k 20)) hc1' 1 vB (.a vA (.k 20)) hc2' 1 vC (.a vB (.k 20)) hc3' 1 vD (.a vC kI) hc4' 1 vE (.a vD kI) hc5' 1 vF (.a vE kI) hc6' 1 (.a (.k 1000) kI) vF zz kI kZ rfl) (by rw [List.append_nil] at G1; exact G1) (M1 (N2 _ _) V0 1 nA nB (nq ol) (.a kI nA) (.a nB kI) rfl) (gl (L1 (N1 _) V0 1 nA (.k 14) t2 nA (.k 14) rfl)) (fun x hx => Zdy (t3 x hx)) (by rw [List.length_map]; exact hxl.1) (by rw [List.length_map]; exact hxl.2) (fun x hx' => by
     (refine Zb (List.mem_map.mp hx') ?_; rintro y hy rfl)
     exact Yfx (hx y hy)) (gl (L1 (N1 _) V0 1 nA (.k 3) n2 nA (.k 3) rfl)) (fun x hx => Zmu (n3 x hx)) (Zmv n3) (.inr ⟨_, rfl⟩)
 · refine Yen ?_
   exact Zmt (tl := []) ha4 hb hb' (L4 N0 (V4 _ _ _ _) 1 kZ vB hc1 1 vB vC hc2 1 vC vD hc3 1 vD vA hc4 kZ vA rfl) (nc fun zz => L5 N0 (V4 _ _ _ _) 1 vA (.a kZ (.k 20)) hc1' 1 vB (.a vA (.k 20)) hc2' 1 vC (.a vB (.k 20)) hc3' 1 vD (.a vC kI) hc4' 1 (.a (.k 1000) kI) vD zz kI kZ rfl) (by rw [List.append_nil] at G1; exact G1) (M1 (N2 _ _) V0 1 nA nB (nq ol) (.a kI nA) (.a nB kI) rfl) (gl (L1 (N1 _) V0 1 nA (.k 14) t2 nA (.k 14) rfl)) (fun x hx => Zdy (t3 x hx)) (gl (L1 (N1 _) V0 1 kI nA o1 kI nA rfl)) (gl (nc fun zz => L2 (N1 _) V0 1 nA (.k 2) o2 1 (.a (.k 3) kI) nA zz kI kZ rfl)) (fun x hx => Yfw (o3 x hx)) (gl (L1 (N1 _) V0 1 nA (.k 3) n2 nA (.k 3) rfl)) (fun x hx => Zmu (n3 x hx)) (Zmv n3) (.inl rfl)
end Mine.Ab.Cc
end
section
open PySem PySem.W PySem.Calls PyProof.Rows
namespace Mine
inductive Tk (base : Heap) (e : Addr) (cls fl : Value) (h : Heap) : Prop
 | mk (oe : Obj) (vs : Array Value) (T : Addr) (oT : Obj) (ts : Array Value) (he : h.get? e = some oe) (hc : oe.cls = cls) (h2 : vs[2]? = some .none) (hd : oe.data = .fields vs) (h1 : vs[1]? = some (.ref T))
   (hT0 : base.get? T = none) (hTe : T ≠ e) (hT : h.get? T = some oT) (hdT : oT.data = .fields ts) (h3 : ts[3]? = some fl)
inductive FlyK (base : Heap) (l : List Env) (e : Addr) (cls fl : Value) (h : Heap) : Prop
 | mk (st : base.StaysIn h) (hn : base.get? e = none) (fr : h.FunFrames base l) (tk : Tk base e cls fl h)
section
variable {M : Model} {A : Around} {E : Value -> Shared -> Prop} {s : Shared} {base : Heap} {env : Env} {outer l : List Env} {L e : Addr} {oe : Obj} {vs : Array Value} {head cls fl : Value} {hadNext : Bool} {Q : Unit -> Shared -> Prop}
theorem Zmw {h : Heap} {T : Addr} {oT : Obj} {ts : Array Value} (hT : h.get? T = some oT) (hdT : oT.data = .fields ts) : ∀ b o, h.get? b = some o -> (∀ vs, o.data ≠ .fields vs) -> b ≠ T := fun b o hb hnf q => by
 rw [q, hT] at hb; injection hb with hb; subst hb; exact hnf ts hdT
theorem Yfy {h₁ : Heap} {ts : Array Value} {S : List Addr} {l : List Env} {P : Heap -> Prop} (hkb : base.StaysIn s.heap) (hl : s.heap.FunFrames base l) (hen : base.get? e = none) (hd : oe.data = .fields vs) (hsz : 1 < vs.size) (h2 : vs[2]? = some .none)
   (hs₁ : Heap.SlotsOnly S s.heap h₁) (he₁ : h₁.get? e = some oe) (kb₁ : base.StaysIn h₁) (h3 : ts[3]? = some fl) (h : ∀ h', FlyK base l e oe.cls fl h' -> s.heap.UpToSlots h' -> P h') :
   P ((h₁.push { cls := .type "traceback", dict := none, data := .fields ts }).update e (Obj.mapFields (·.setIfInBounds 1 (Value.ref h₁.objs.size)))) := by
 have he₂ := Heap.get?_push_of_some (h := h₁) { cls := .type "traceback", dict := none, data := .fields ts } he₁
 have hTe : h₁.objs.size ≠ e := Nat.ne_of_gt (Heap.lt_size he₁)
 have hd₃ := Obj.data_mapFields hd (·.setIfInBounds 1 (Value.ref h₁.objs.size))
 have he₃ := Heap.get?_update_self (Obj.mapFields (·.setIfInBounds 1 (Value.ref h₁.objs.size))) he₂ (Obj.isFreed_of_fields hd₃)
 have hT₃ := (Heap.get?_update_other (h₁.push { cls := .type "traceback", dict := none, data := .fields ts }) (Obj.mapFields (·.setIfInBounds 1 (Value.ref h₁.objs.size))) (Ne.symm hTe)).trans (Heap.get?_push_size h₁ rfl)
 have keep : ∀ b o, b ≠ e -> h₁.get? b = some o -> ((h₁.push { cls := .type "traceback", dict := none, data := .fields ts }).update e (Obj.mapFields (·.setIfInBounds 1 (Value.ref h₁.objs.size)))).get? b = some o := fun b o hbe hb => by
   rw [Heap.get?_update_other _ _ (Ne.symm hbe)]
   exact Heap.get?_push_of_some _ hb
 have nr : ∀ b o, s.heap.get? b = some o -> (∀ vs, o.data ≠ .fields vs) -> b ≠ e := fun b o hb hnf q => by
   obtain ⟨sl, hs⟩ := hs₁.2.2 b o hb
   rw [q, he₁] at hs; injection hs with hs; subst hs; exact hnf vs hd
 refine h _ ⟨fun b o hbo => keep b o (fun q => by rw [q, hen] at hbo; exact Zk hbo) (kb₁ b o hbo), hen, hl.of_keeps fun b o hb hnf => ?_, ?_⟩ fun b o hb hnf => ?_
 · obtain ⟨sl, hs⟩ := hs₁.2.2 b o hb
   exact Zp _ (keep b _ (nr b o hb hnf) hs) rfl
 · exact ⟨_, _, h₁.objs.size, _, _, he₃, Obj.cls_mapFields _ _, by rw [Array.getElem?_setIfInBounds_ne (by decide)]; exact h2, hd₃, by simp [hsz], kb₁.fresh, hTe, hT₃, rfl, h3⟩
 · obtain ⟨sl, hs⟩ := hs₁.2.2 b o hb
   exact ⟨sl, keep b _ (nr b o hb hnf) hs⟩
theorem Zmx (hfr : A.frames = some (env :: outer)) (hl : s.heap.FunFrames base (env :: outer)) (hf : env.frame = some L)
  (he : s.heap.get? e = some oe) (hkb : base.StaysIn s.heap) (hen : base.get? e = none) (hd : oe.data = .fields vs) (hsz : 1 < vs.size) (h2 : vs[2]? = some .none)
  (h : ∀ h', FlyK base (env :: outer) e oe.cls (rawInt L) h' -> s.heap.UpToSlots h' -> Q () { s with heap := h' }) :
  wpAny M A (do let a <- frameOf env; let pl <- entryPlaceOf L hadNext; let b <- EntryCells.newEntry head a .none (rawInt L) .none pl; setField (.ref e) 1 b) Q E s := by
 have hene : e ∉ (env :: outer).filterMap (·.frame) := fun hm => by
  obtain ⟨_, o, ho, hnf⟩ := hl.mem hm
  rw [he] at ho; injection ho with ho; subst ho; exact hnf vs hd
 refine wpAny_bind (wpAny_frameOf_fun hfr hl hf fun h₁ hs₁ => ?_)
 refine wpAny_bind (wpAny_entryPlaceOf fun pl hpl => ?_)
 unfold EntryCells.newEntry newFields
 refine wpAny_bind (wpAny_newObj_type ?_ (hpl.sizeOk5 _ _ _ _ _))
 have he₁ : h₁.get? e = some oe := (hs₁.2.1 e hene).trans he
 have kb₁ : base.StaysIn h₁ := fun b o hbo => (hs₁.2.1 b fun hm => by rw [(hl.mem hm).1] at hbo; exact Zk hbo).trans (hkb b o hbo)
 refine wpAny_setField (Heap.get?_push_of_some _ he₁) hd hsz ?_
 exact Yfy (P := fun h' => Q () { s with heap := h' }) hkb hl hen hd hsz h2 hs₁ he₁ kb₁ (by rcases hpl with rfl | ⟨_, _, _, _, _, _, _, rfl⟩ <;> simp) h
theorem Zbh (F : FlyK base l e cls fl s.heap) (h : ∀ h', FlyK base l e cls .none h' -> s.heap.UpToSlots h' -> Q () { s with heap := h' }) : wpAny M A (setFlight (.ref e) none) Q E s := by
 obtain ⟨hkb, hn, hl, oe, vs, T, oT, ts, he, hc, h2, hd, h1, hnT, hTe, hT, hdT, h3⟩ := F
 have hsz3 : 3 < ts.size := (Array.getElem?_eq_some_iff.mp h3).1
 have other : ∀ b, b ≠ T -> (s.heap.update T (Obj.mapFields (·.setIfInBounds 3 ((none : Option Addr).elim Value.none fun f => rawInt f)))).get? b = s.heap.get? b :=
   fun b hb => Heap.get?_update_other _ _ (Ne.symm hb)
 have nr := Zmw hT hdT
 unfold setFlight
 refine wpAny_bind (wpAny_field he hd h1 ?_)
 rw [if_pos (show (Value.ref T != Value.none) = true from by simp)]
 refine wpAny_setField hT hdT hsz3 (h _ ⟨fun b o hbo => (other b fun q => by rw [q, hnT] at hbo; exact Zk hbo).trans (hkb b o hbo), hn,
   hl.of_keeps fun b o hb hnf => ⟨o, (other b (nr b o hb hnf)).trans hb, rfl⟩, ?_⟩ fun b o hb hnf => ⟨o.slots, (other b (nr b o hb hnf)).trans hb⟩)
 exact ⟨oe, vs, T, _, _, (other e (Ne.symm hTe)).trans he, hc, h2, hd, h1, hnT, hTe, Heap.get?_update_self _ hT (Obj.isFreed_of_fields (Obj.data_mapFields hdT _)), Obj.data_mapFields hdT _, by simp [hsz3]⟩
theorem Zmy (hfr : A.frames = some (env :: outer)) (hf : env.frame = some L) (F : FlyK base (env :: outer) e cls .none s.heap)
  (h : ∀ h', FlyK base (env :: outer) e cls (rawInt L) h' -> s.heap.UpToSlots h' -> Q () { s with heap := h' }) : wpAny M A (noteFrame (.ref e) env) Q E s := by
 obtain ⟨hkb, hen, hl, oe, vs, T, oT, ts, he, rfl, h2, hd, h1, hnT, hTe, hT, hdT, h3⟩ := F
 unfold noteFrame
 simp only [hf]
 refine wpAny_bind (wpAny_field he hd h1 ?_)
 rw [if_pos (show (Value.ref T != Value.none) = true from by simp)]
 refine wpAny_bind (wpAny_field hT hdT h3 ?_)
 rw [if_neg (show ¬ ((Value.none == rawInt L) = true) from by simp [rawInt])]
 refine wpAny_bind (wpAny_setField hT hdT (Array.getElem?_eq_some_iff.mp h3).1 ?_)
 have other : ∀ b, b ≠ T -> (s.heap.update T (Obj.mapFields (·.setIfInBounds 3 Value.none))).get? b = s.heap.get? b := fun b hb => Heap.get?_update_other _ _ (Ne.symm hb)
 have nr := Zmw hT hdT
 exact Zmx (s := { s with heap := s.heap.update T (Obj.mapFields (·.setIfInBounds 3 Value.none)) }) hfr (hl.of_keeps fun b o hb hnf => ⟨o, (other b (nr b o hb hnf)).trans hb, rfl⟩) hf ((other e (Ne.symm hTe)).trans he)
  (fun b o hbo => (other b fun q => by rw [q, hnT] at hbo; exact Zk hbo).trans (hkb b o hbo)) hen hd (Array.getElem?_eq_some_iff.mp h1).1 h2
  fun h' x1 x2 => h h' x1 fun b o hb hnf => x2 b o ((other b (nr b o hb hnf)).trans hb) hnf
theorem Yfz (hfr : A.frames = some (env :: outer)) (hf : env.frame = some L) (hl : s.heap.FunFrames base (env :: outer))
  (he : s.heap.get? e = some oe) (hkb : base.StaysIn s.heap) (hen : base.get? e = none) (hd : oe.data = .fields vs) (h1 : vs[1]? = some .none) (h2 : vs[2]? = some .none)
  (h : ∀ h', FlyK base (env :: outer) e oe.cls (rawInt L) h' -> s.heap.UpToSlots h' -> Q () { s with heap := h' }) : wpAny M A (noteFrame (.ref e) env) Q E s := by
 unfold noteFrame
 simp only [hf]
 refine wpAny_bind (wpAny_field he hd h1 ?_)
 rw [if_neg (by decide)]
 exact Zmx hfr hl hf he hkb hen hd (Array.getElem?_eq_some_iff.mp h1).1 h2 h
theorem FlyK.pop (F : FlyK base (env :: outer) e cls fl s.heap) : FlyK base outer e cls fl s.heap := by
 obtain ⟨k1, k2, ⟨_, _, k3⟩, k4⟩ := F
 exact ⟨k1, k2, k3, k4⟩
theorem Yga (hfr : A.frames = some (env :: outer)) (hf : env.frame = some L) (hl : s.heap.FunFrames base (env :: outer))
  (he : s.heap.get? e = some oe) (hkb : base.StaysIn s.heap) (hen : base.get? e = none) (hd : oe.data = .fields vs) (h1 : vs[1]? = some .none) (h2 : vs[2]? = some .none)
  (h : ∀ h', FlyK base outer e oe.cls .none h' -> s.heap.UpToSlots h' -> Q () { s with heap := h' }) : wpAny M A (leaving env (.ref e)) Q E s := by
 unfold leaving
 exact wpAny_bind (Yfz hfr hf hl he hkb hen hd h1 h2 fun h' F u => Zbh F fun h'' F' u' => h h'' (FlyK.pop (s := { s with heap := h'' }) F') (u.trans u'))
theorem Ygb (hfr : A.frames = some (env :: outer)) (hf : env.frame = some L) (F : FlyK base (env :: outer) e cls .none s.heap)
  (h : ∀ h', FlyK base outer e cls .none h' -> s.heap.UpToSlots h' -> Q () { s with heap := h' }) : wpAny M A (leaving env (.ref e)) Q E s := by
 unfold leaving
 exact wpAny_bind (Zmy hfr hf F fun h' F u => Zbh F fun h'' F' u' => h h'' (FlyK.pop (s := { s with heap := h'' }) F') (u.trans u'))
end
end Mine
namespace Mine
section
variable {prog : Program} {w : World} {A : Around} {E : Value -> Shared -> Prop} {h : Heap} {g : Array GenState} {d : Drawn} {t : Nat} {os : OsState}
variable {nm q : Str} {C N I : Addr} {bs bm : List Value} {hdct : Bool} {sn : List Str} {sub : List Value} {ab : Bool} {col : Option Bool} {dd : Option Addr} {k0 k1 k2 k3 k5 : Option Value} {B newId initId : String}
theorem Ygc (F : ExcBaseFacts B newId initId bm) {mN : Str -> Option Value} {oI : Obj} {fd : FuncData} {rest : List Value} {Q : Fin -> Shared -> Prop}
  (hC : h.get? C = some (excClassObj nm q C N bs bm hdct sn sub ab col dd k0 k1 k2 k3 k5 newId)) (hn : h.Ns N mN) (hni : mN "__init__" = some (.ref I)) (hI : h.get? I = some oI) (hId : oI.data = .func fd)
  (hc : oI.cls = .type "function") (hq : wpAny (model prog w) A (call (.ref I) (.ref (h.objs.size + 1) :: rest)) (fun r s' => r = .none /\ Q (.done (.ret (.ref (h.objs.size + 1)))) s') E ⟨(h.push { cls := .type "tuple", data := .seq rest.toArray }).push
   { cls := .ref C, data := .fields #[.ref h.objs.size, .none, .none, .none, .bool false, .none] }, g, d, t, os⟩) (hrest : rest.length <= sizeLine) :
  wpAny (model prog w) A (Builtin.«type.__call__» ⟨.ref C :: rest, []⟩) Q E ⟨h, g, d, t, os⟩ := by
 repeat (first | with_reducible refine wpAny_loadPart_at hC ?_ | with_reducible refine wpAny_madeBy_exc hC ?_ | wp_step)
 refine codeAny_call_builtin_code (Code.quiet_builtin _ F.quiet) (wpAny_check_new_sub F hC ?_)
 refine codeAny_exc_new_sub F hC ?_ hrest
 show wpAny _ _ _ _ _ _
 have hC₁ := Heap.get?_push_of_some { cls := .ref C, data := .fields #[.ref h.objs.size, .none, .none, .none, .bool false, .none] }
  (Heap.get?_push_of_some { cls := .type "tuple", data := .seq rest.toArray } hC)
 have hI₁ := Heap.get?_push_of_some { cls := .ref C, data := .fields #[.ref h.objs.size, .none, .none, .none, .bool false, .none] }
  (Heap.get?_push_of_some { cls := .type "tuple", data := .seq rest.toArray } hI)
 have hn₁ : ((h.push { cls := .type "tuple", data := .seq rest.toArray }).push { cls := .ref C, data := .fields #[.ref h.objs.size, .none, .none, .none, .bool false, .none] }).Ns N mN :=
  let ⟨o, es, ep, e, r⟩ := hn; ⟨o, es, ep, Heap.get?_push_of_some _ (Heap.get?_push_of_some _ e), r⟩
 have hget : ((h.push { cls := .type "tuple", data := .seq rest.toArray }).push
   { cls := .ref C, data := .fields #[.ref h.objs.size, .none, .none, .none, .bool false, .none] }).get? (h.objs.size + 1) = some
   { cls := .ref C, data := .fields #[.ref h.objs.size, .none, .none, .none, .bool false, .none] } := by heap_get
 have hcC : (Value.ref C :: bm).contains (.ref C) = true := by simp
 unfold isInstance
 repeat (first | with_reducible refine wpAny_loadPart_at hget ?_ | (with_reducible refine wpAny_isSubtype_exc hC₁ ?_; rw [hcC]) | wp_step)
 show wpAny _ _ (typeLookup (.ref C) _) _ _ _
 refine wpAny_typeLookup_exc hC₁ hn₁ F.mroIs F.init.lookup ?_
 rw [hni]
 refine wpAny_holding ?_
 refine wpAny_bind (wpAny_bindSpecial_def (s := ⟨_, g, d, t, os⟩) hI₁ hc ?_)
 refine wpAny_bind (wpAny_mono hq (fun r s' h' => wpAny_pure ?_) fun _ _ x => x)
 (refine Zg h' ?_; clear h'; rintro rfl h')
 exact wpAny_pure h'
theorem Ygd (F : ExcBaseFacts B newId initId bm) {mN : Str -> Option Value} {oI : Obj} {fd : FuncData} {rest : List Value} {Q : Value -> Shared -> Prop}
  (hC : h.get? C = some (excClassObj nm q C N bs bm hdct sn sub ab col dd k0 k1 k2 k3 k5 newId)) (hn : h.Ns N mN) (hni : mN "__init__" = some (.ref I)) (hI : h.get? I = some oI) (hId : oI.data = .func fd)
  (hc : oI.cls = .type "function") (hq : wpAny (model prog w) (A.under (.builtin "type.__call__" ⟨.ref C :: rest, []⟩)) (call (.ref I) (.ref (h.objs.size + 1) :: rest)) (fun r s' => r = .none /\ Q (.ref (h.objs.size + 1)) s') E ⟨(h.push { cls := .type "tuple", data := .seq rest.toArray }).push
   { cls := .ref C, data := .fields #[.ref h.objs.size, .none, .none, .none, .bool false, .none] }, g, d, t, os⟩) (hrest : rest.length <= sizeLine) :
  codeAny (model prog w) A (.call (.ref C) ⟨rest, []⟩) (fun r s' => match r with | .ok (.ret v) => Q v s' | .ok _ => False | .error e => E e s') ⟨h, g, d, t, os⟩ := by
 have f1 := tc_lookup
 have f2 := tc_bind (.ref C)
 have hT : (⟨h, g, d, t, os⟩ : Shared).TypeIs (.ref C) "type" := ⟨_, hC, rfl⟩
 refine codeAny_of_tree ?_
 show wpAny _ _ (callAny (.ref C) _) _ _ _
 repeat (any_goals (first | assumption | with_reducible refine wpAny_loadPart_at hC ?_ | wp_step))
 refine ⟨rfl, ?_⟩
 exact codeAny_call_builtin_at (Code.quiet_builtin _ (by decide +kernel)) entry_typeCall (wpAny_check_type_call_sub hC (Ygc F hC hn hni hI hId hc hq hrest))
end
section
variable {M : Model} {A : Around} {E : Value -> Shared -> Prop} {env : Env}
variable {nm q : Str} {C N : Addr} {bs bm : List Value} {hdct : Bool} {sn : List Str} {sub : List Value} {ab : Bool} {col : Option Bool} {dd : Option Addr} {k0 k1 k2 k3 k5 : Option Value} {newId : String}
theorem Yge {s : Shared} {x : Sem Value} {Q : Flow -> Shared -> Prop} (hbase : bm.contains (.type "BaseException") = true) (hh : A.handled = none)
  (h : wpAny M A x (fun v s₁ => ∃ e t de, v = .ref e /\ s₁.heap.get? C = some (excClassObj nm q C N bs bm hdct sn sub ab col dd k0 k1 k2 k3 k5 newId) /\ s₁.heap.get? e = some { cls := .ref C, dict := de, data := .fields #[.ref t, .none, .none, .none, .bool false, .none] } /\ E (.ref e) s₁) E s) :
  wpAny M A (raiseStmt env (some x) none) Q E s := by
 have hcB : (Value.ref C :: bm).contains (.type "BaseException") = true := by rw [List.contains_cons, hbase, Bool.or_true]
 unfold raiseStmt
 refine wpAny_bind (wpAny_mono h (fun v s₁ h₁ => ?_) fun _ _ x => x)
 (refine Zef h₁ ?_; clear h₁; rintro e t de rfl hC he hE)
 obtain ⟨hp, g, d, tk, os⟩ := s₁
 repeat (first | with_reducible refine wpAny_loadPart_at he ?_ | with_reducible refine wpAny_loadPart_at hC ?_ | (with_reducible refine wpAny_isSubtype_exc hC ?_; rw [hcB]) | wp_step)
 exact wpAny_raiseNew_none hh hE
end
end Mine
noncomputable section
namespace Mine.Ab
theorem Ygf : ∃ p1 p2 p3 p4 q1 q2 q3 q4 : Pos, Yl (Zr 13 0) = [.Assign [.Attribute (.Name "self" p1) "symbol" p2] (.Name "symbol" p3) p4, .Assign [.Attribute (.Name "self" q1) "data" q2] (.Name "data" q3) q4] := ⟨_, _, _, _, _, _, _, _, rfl⟩
theorem df122 : DefF 122 ⟨[7, 17, 18], [], [.setf (.loc 7) 17 (.loc 17), .setf (.loc 7) 18 (.loc 18)]⟩ (Zr 13 0) (Zu (Zr 13 0)) 121 "__init__" "LispSignal.__init__" "emacs.errors" .none 309 [] := DefF.plain (fun P => rfl) (by kernel_rfl) (by kernel_rfl) (by kernel_rfl) rfl
 (Zt fun a0 => Zt fun a1 => Zt fun a2 => Xa (by kernel_rfl))
noncomputable abbrev Zmz : Obj := excClassObj "LispSignal" "LispSignal" 125 124 [.type "Exception"] [.type "Exception", .type "BaseException", .type "object"] true [] [] false none none (some (.ref 109)) none (some (.str "LispSignal" 311)) (some (.str "LispSignal" 319)) (some (.bool true)) "Exception.__new__"
theorem exN (P : Params) : ∃ c es n, (K P).lookup 124 = some ⟨c, none, .dict es n, #[]⟩ /\ StrKeys es /\ nsFind es "__init__" = some (.ref 122) /\ nsFind es "__setattr__" = none /\ nsFind es "symbol" = none /\ nsFind es "data" = none := ⟨_, _, _, rfl, Zfd rfl, rfl, rfl, rfl, rfl⟩
theorem exC (P : Params) : (K P).lookup 125 = some Zmz := rfl
theorem Zna {P : Params} {h : Heap} (X : (K P).In h) : ∃ mN, h.Ns 124 mN /\ mN "__init__" = some (.ref 122) /\ mN "__setattr__" = none /\ mN "symbol" = none /\ mN "data" = none := by
 refine Ox (exN P) fun c es n e ks r => ?_
 exact Zp (nsFind es) ⟨_, es, n, X _ _ e, rfl, ks, fun _ => rfl⟩ r
section
variable {prog : Program} {w : World} {A : Around} {E : Value -> Shared -> Prop} {h : Heap} {g : Array GenState} {d : Drawn} {t : Nat} {os : OsState}
variable {nm q : Str} {C N x : Addr} {bs bm : List Value} {sn : List Str} {sub : List Value} {ab : Bool} {col : Option Bool} {dd : Option Addr} {k0 k1 k2 k3 k5 : Option Value} {B newId sa owner : String}
 {mN : Str -> Option Value} {name : Str} {v : Value}
open Builtin Builtin.ObjectAttr in
theorem Ygg {tk : Tok} {Q : Fin -> Shared -> Prop} {vs : Array Value} (SF : StoreFacts B bm sa owner)
   (hC : h.get? C = some (excClassObj nm q C N bs bm true sn sub ab col dd k0 k1 k2 k3 k5 newId)) (hn : h.Ns N mN) (hna : mN name = none)
   (hB : typeLookup (.type B) name = pure none) {o : Obj} (hx : h.get? x = some o) (hc : o.cls = .ref C) (hdn : o.dict = none) (hf : o.data = .fields vs)
   (hq : ∀ h' tk', h'.get? x = some { cls := o.cls, dict := some h.objs.size, data := o.data, slots := o.slots } -> h'.Ns1 h.objs.size (fun y => if y = name then some v else none) ->
     (∀ b o, b ≠ x -> h.get? b = some o -> h'.get? b = some o) -> Q (.done (.ret .none)) ⟨h', g, d, tk', os⟩) :
   wpAny (model prog w) A (Builtin.«object.__setattr__» ⟨[.ref x, .str name tk, v], []⟩) Q E ⟨h, g, d, t, os⟩ := by
 have hpass := SF.passes (.ref x)
 unfold Builtin.«object.__setattr__»
 repeat (first | rw [refuse_eq] | (rw [refuseLoop_ref, hpass]) | (with_reducible refine wpAny_loadPart_at hx ?_; rw [hc]) | with_reducible refine wpAny_mroOf_exc hC ?_ | (with_reducible refine wpAny_typeLookup_exc hC hn SF.mro hB ?_; rw [hna]) | wp_step)
 rw [hdn, if_neg (by simp [typeHasDict])]
 split
 · rename_i hcd
   exact Zk hcd
 split
 · rename_i c hcd
   rw [hf] at hcd; contradiction
 have hxs : x ≠ h.objs.size := Nat.ne_of_lt (Heap.lt_size hx)
 have hx₁ := Heap.get?_push_of_some { cls := .type "dict", data := .dict #[] } hx
 refine wpAny_bind (wpAny_alloc' ?_)
 refine wpAny_bind (wpAny_update' hx₁ ?_)
 refine wpAny_pure ?_
 generalize hh : ((h.push { cls := .type "dict", data := .dict #[] }).update x _) = h₂
 have g1 : ∀ b, b ≠ x -> h₂.get? b = (h.push { cls := .type "dict", data := .dict #[] }).get? b := fun b q => by rw [<- hh]; exact Heap.get?_update_ne _ _ _ _ q
 have g2 : h₂.get? x = some { cls := o.cls, dict := some h.objs.size, data := o.data, slots := o.slots } := by rw [<- hh]; exact Heap.get?_update_self _ hx₁ (Obj.isFreed_of_fields hf)
 have hnd : h₂.Ns h.objs.size (fun _ => none) := ⟨_, #[], _, (g1 _ hxs.symm).trans (Heap.get?_push_at rfl rfl), rfl, fun e he => absurd he (by simp), fun _ => rfl⟩
 show wpAny _ _ (storeInDict h.objs.size (.str name tk) name v) _ _ _
 unfold storeInDict newKeyGuard
 refine wpAny_bind (wpAny_pure (wpAny_bind (wpAny_nsSet1 (Heap.Ns1.of_empty hnd) fun h' hn' hs => ?_)))
 refine Ox (hn'.count (Within.cons name v Within.nil)) fun oD esD epD hoD hdD hcD => ?_
 refine wpAny_bind (wpAny_lookBehind hoD (by rw [hdD]; exact pastItsLine_dict (Nat.le_trans hcD (by rw [List.length_cons, List.length_nil, sizeLine_eq]; exact Nat.le_add_left _ _))) ?_)
 wp_walk
 exact hq h' _ ((hs.2 x hxs).trans g2) hn' fun b o hb e => (hs.2 b (Nat.ne_of_lt (Heap.lt_size e))).trans ((g1 b hb).trans (Heap.get?_push_of_some _ e))
theorem Ygh {Q : Unit -> Shared -> Prop} {vs : Array Value} (SF : StoreFacts B bm sa owner)
  (hC : h.get? C = some (excClassObj nm q C N bs bm true sn sub ab col dd k0 k1 k2 k3 k5 newId)) (hn : h.Ns N mN) (hns : mN "__setattr__" = none) (hna : mN name = none)
  (hB : typeLookup (.type B) name = pure none) (hx : h.get? x = some { cls := .ref C, data := .fields vs })
  (hq : ∀ h' tk', h'.get? x = some { cls := .ref C, dict := some h.objs.size, data := .fields vs } -> h'.Ns1 h.objs.size (fun y => if y = name then some v else none) ->
   (∀ b o, b ≠ x -> h.get? b = some o -> h'.get? b = some o) -> Q () ⟨h', g, d, tk', os⟩) :
  wpAny (model prog w) A (setAttr (.ref x) name v) Q E ⟨h, g, d, t, os⟩ := by
 have f3 := SF.slot.bind (.ref x)
 unfold setAttr callSpecial? specialOf
 repeat (any_goals (first | assumption | with_reducible refine wpAny_loadPart_at hx ?_ | (with_reducible refine wpAny_typeLookup_exc hC hn SF.mro SF.slot.lookup ?_; rw [hns]) | wp_step))
 refine codeAny_call_builtin SF.slot.plain SF.entry (wpAny_check_sa SF hC hx rfl (Ygg SF hC hn hna hB hx rfl rfl rfl (fun h' tk' I' hk hsame => ?_)))
 repeat (any_goals (first | assumption | wp_step))
 exact hq h' tk' I' hk hsame
end
end Mine.Ab
end
noncomputable section
namespace Mine.Ab
theorem Ygi {B : Bgd} {A : Around} {E : Value -> Shared -> Prop} {Q : Value -> Shared -> Prop} (O : B.Ok) {s : Shared} {e : Addr} {fs : Array Value} {v1 v2 : Value} (hd : A.depth < recursionLimit) (hk : ∀ b o, B.h₀.get? b = some o -> s.heap.get? b = some o)
   (he : s.heap.get? e = some { cls := .ref 125, data := .fields fs }) (hne : B.h₀.get? e = none)
   (hq : ∀ h' tk de, (∀ b o, b ≠ e -> s.heap.get? b = some o -> h'.get? b = some o) -> h'.get? e = some { cls := .ref 125, dict := de, data := .fields fs } -> Q .none { s with heap := h', toks := tk }) :
   wpAny (model pw B.w) A (call (.ref 122) [.ref e, v1, v2]) Q E s := by
 have D := df122
 have X := O.k.keeps hk
 have hC := X _ _ (exC _)
 (refine Zed (Zna X) fun mN n1 e1e n2 n3 n4 => ?_; clear e1e)
 have hnc : ∀ y ∈ (Zi (Zr 13 0)).names, y.2 ≠ .cell := fun y hy => by
   rcases D.cells with ⟨_, z⟩ | ⟨_, _, _, _, z⟩
   · exact (z y hy).1
   · exact (by kernel_rfl : ((Zi (Zr 13 0)).names.all fun y => match y.2 with | .cell => false | _ => true) = true) |> fun q => fun r => by have := List.all_eq_true.mp q y hy; rw [r] at this; exact Yb this
 have eC : e ≠ 125 := fun q => by subst q; rw [hC] at he; cases he
 refine wpAny_call (codeAny_call_def (body := Yl (Zr 13 0)) (binds := [("self", .ref e), ("symbol", v1), ("data", v2)]) hd (X _ _ (D.hK _)) rfl (O.nolimit.keeps hk) ((O.code _ D.hc).keeps hk) rfl (D.bind [.ref e, v1, v2] rfl _ s X) hnc (fun y hy => ?_) (fun h₀ hns hk₀ => ?_) D.co D.gen D.kind)
 · simp only [List.mem_cons, List.not_mem_nil, or_false] at hy
   rcases hy with rfl | rfl | rfl <;> kernel_rfl
 refine Zeh Ygf fun p1 p2 p3 p4 q1 q2 q3 q4 hb => ?_
 rw [hb]
 have Le : s.heap.objs.size ≠ e := Nat.ne_of_gt (Heap.lt_size he)
 refine wpAny_execs_cons (plainObj_wpAny_Assign_Attribute (wpAny_Name (wpAny_loadName_local D.kind (by kernel_rfl) hns rfl (wpAny_Name (wpAny_loadName_local D.kind (by kernel_rfl) hns rfl ?_)))))
 have fS : typeLookup (.type "Exception") "symbol" = pure none := by rw [typeLookup_type, builtinLookup_eq_fast]; kernel_rfl
 have fD : typeLookup (.type "Exception") "data" = pure none := by rw [typeLookup_type, builtinLookup_eq_fast]; kernel_rfl
 refine Ygh PySem.F.store_Exception (hk₀ _ _ hC) (n1.keeps hk₀) n2 n3 fS (hk₀ _ _ he) fun h₁ t₁ e₁ ns₁ k₁ => ?_
 (refine Hv hns ?_; clear hns; intro oL es ep eL rL)
 have ns' : h₁.Ns s.heap.objs.size _ := ⟨oL, es, ep, k₁ _ _ Le eL, rL⟩
 have k₂ : ∀ b o, b ≠ e -> s.heap.get? b = some o -> h₁.get? b = some o := fun b o hb q => k₁ b o hb (hk₀ b o q)
 have n1' : h₁.Ns 124 mN := by
   (refine Hv n1 ?_; clear n1; intro oN es ep eN rN)
   refine Zem oN es ep (k₂ _ _ (fun q => ?_) eN) rN
   subst q
   rw [he] at eN; (replace eN := sI eN; subst eN); cases rN.1
 have hde : h₀.objs.size ≠ e := Nat.ne_of_gt (Heap.lt_size (hk₀ _ _ he))
 refine wpAny_execs_cons (plainObj_wpAny_Assign_Attribute (wpAny_Name (wpAny_loadName_local D.kind (by kernel_rfl) ns' rfl (wpAny_Name (wpAny_loadName_local D.kind (by kernel_rfl) ns' rfl ?_)))))
 refine store_attr PySem.F.store_Exception (k₂ _ _ eC.symm hC) n1' n2 n4 fD eC (mA := fun y => if y = "symbol" then some v1 else none) (ns := ["symbol"]) ⟨_, e₁, rfl, fun c q => (by contradiction), .inr ⟨_, rfl, hde, ns₁⟩⟩ (fun h₂ t₂ _ k₃ e₂ => ?_) ?_ (by size_fits)
 · refine wpAny_execs_nil ?_
   (refine Zed (e₂ _ e₁) fun e1e e₃ c1 c2 c3 e2e => ?_; obtain ⟨oc, od, odt, osl⟩ := e1e; clear e2e)
   subst c1; subst c2; subst c3
   exact hq h₂ t₂ od (fun b o hb q => k₃ b o hb (fun o₀ dx e₀ ed => by
     rw [e₁] at e₀; (replace e₀ := sI e₀; subst e₀); (replace ed := sI ed; subst ed)
     exact Nat.ne_of_lt (Heap.lt_size (hk₀ b o q))) (k₂ b o hb q)) e₃
 · exact Within.cons "symbol" v1 Within.nil
end Mine.Ab
end
noncomputable section
namespace Mine
theorem Rep.addRaw {B : Bgd} {σ : St} {s : Shared} {h' : Heap} {t : Nat} {e : Addr} {o : Obj} (r : Rep B σ s) (k : ∀ b o, s.heap.get? b = some o -> h'.get? b = some o) (he' : s.heap.objs.size <= e) (h : h'.get? e = some o) : Rep B (upd σ e (.raw o)) { s with heap := h', toks := t } := by
 obtain ⟨h1, h2, h3, h4, δ, k1, k2, k3⟩ := r
 have no : ∀ b ob, s.heap.get? b = some ob -> b ≠ e := fun b ob q z => by rw [z, Kf he'] at q; exact Zk q
 have un : ∀ b C fs, upd σ e (.raw o) b = some (.inst C fs) -> σ b = some (.inst C fs) := fun b C fs q => by
   by_cases z : b = e
   · subst z; rw [Yz] at q; cases q
   · rwa [Zz z] at q
 refine ⟨fun b ob q => k _ _ (h1 b ob q), Nat.le_trans h2 (Nat.le_trans he' (Nat.le_of_lt (Heap.lt_size h))), h3, h4, δ, fun b ob q => ?_, fun b C fs q => ⟨(k2 b C fs (un _ _ _ q)).1, ?_⟩, fun b C fs b' C' fs' q q' => k3 b C fs b' C' fs' (un _ _ _ q) (un _ _ _ q')⟩
 · by_cases z : b = e
   · subst z; rw [Yz] at q; (replace q := sI q; subst q); exact ⟨fun _ => Nat.le_trans h2 he', h⟩
   · rw [Zz z] at q
     exact ⟨(k1 b ob q).1, (k1 b ob q).2.keep k⟩
 · refine Xg ((k1 b _ (un _ _ _ q)).2.dthere) fun ox hx => ?_
   rw [Zz (no _ _ hx)]
   exact (k2 b C fs (un _ _ _ q)).2
namespace Ab
noncomputable abbrev Ht (t : Addr) (de : Option Addr) : Obj := { cls := .ref 125, dict := de, data := .fields #[.ref t, .none, .none, .none, .bool false, .none] }
theorem Ygj {B : Bgd} {A : Around} {E : Value -> Shared -> Prop} {σ : St} {x y : Value} {k : Nat} {Q : Value -> St -> Prop} (O : B.Ok) (R : Room A (k + 1)) (h : ∀ e t de, σ e = none -> Q (.ref e) (upd σ e (.raw (Ht t de)))) : wC B A (.ref 125) [x, y] Q E σ := by
 intro φ d u s r
 have X := O.k.keeps r.keep
 have hC := X _ _ (exC _)
 (refine Yg (Zna X) fun mN n1 n5 e1e => ?_; clear e1e)
 obtain ⟨hp, g, dr, t, os⟩ := s
 have hn : Un σ φ (hp.objs.size + 1) = none := by
  cases z : Un σ φ (hp.objs.size + 1) with
  | none => rfl
  | some o => exact absurd (r.lt z) (Nat.not_lt.mpr (Nat.le_succ _))
 refine Ygd PySem.F.excBase_Exception hC n1 n5 (X _ _ (df122.hK _)) rfl rfl ?_ (show 2 <= sizeLine by decide)
 have k₁ : ∀ b o, hp.get? b = some o -> ((hp.push { cls := .type "tuple", data := .seq #[x, y] }).push (Ht hp.objs.size none)).get? b = some o := fun b o q => Heap.get?_push_of_some _ (Heap.get?_push_of_some _ q)
 refine Ygi O R.made.lim (fun b o q => k₁ b o (r.keep b o q)) (by heap_get) (Kf (Nat.le_trans r.size (Nat.le_succ _))) fun h' tk de k₂ e₂ => ⟨rfl, ?_⟩
 have r' := r.addRaw (t := tk) (fun b o q => k₂ b o (Nat.ne_of_lt (Nat.lt_succ_of_lt (Heap.lt_size q))) (k₁ b o q)) (Nat.le_succ _) e₂
 rw [Xz] at r'
 exact ⟨_, d.upd_new hn _, r', h _ _ de (Ye hn)⟩
end Ab
end Mine
end
noncomputable section
namespace Mine.Ab
variable {B : Bgd} {A : Around} {E : Value -> Shared -> Prop} {env : Env} {χ : St} {ml : Zc} {ρ ρ' : Nat -> Addr} {m : Fm} {H H' : Hp} {sc : Sc} {n N : Nat} {c : Bool} {w : Sys} {k k' : Nat}
theorem Ygk {M : Model} {s : Shared} {x : Sem Value} {Q : Flow -> Shared -> Prop} (hh : A.handled = none)
 (h : wpAny M A x (fun v s₁ => ∃ e t de, v = .ref e /\ s₁.heap.get? 125 = some Zmz /\ s₁.heap.get? e = some (Ht t de) /\ E (.ref e) s₁) E s) : wpAny M A (raiseStmt env (some x) none) Q E s := Yge rfl hh h
theorem Znb {α : Type} {l : List α} (h : l.length = 2) : ∃ a b, l = [a, b] := by
 cases l with
 | nil => contradiction
 | cons a l =>
  cases l with
  | nil => cases h
  | cons b l =>
   cases l with
   | nil => exact Hx a b rfl
   | cons => cases h
theorem Ygl (O : B.Ok) {σ : St} {x : Expr} {p : Pos} {rest : List Stmt} {Q : Flow -> Zc -> St -> Prop} (hh : A.handled = none) (h : JE B A env (fr env.locals ml χ) x (fun v σ₁ => ∃ e t de, v = .ref e /\ σ₁ e = some (.raw (Ht t de)) /\ ∀ φ s, Dis σ₁ (fr env.locals ml χ) -> Rep B (Un (Un σ₁ (fr env.locals ml χ)) φ) s -> E (.ref e) s) E σ) :
  JX B A env χ (execs (.Raise (some x) none p :: rest) env) Q E ml σ := Od fun hL φ d u₀ s r => by
 rw [arm_exec_Raise]
 show wpAny _ A (do PySem.standAt p; raiseStmt env (some (do let v <- eval x env; PySem.standAt p; Pure.pure v)) none) _ E s
 refine wpAny_bind (wpAny_standAt (Ygk hh (wpAny_bind (wpAny_mono (h hL φ d u₀ s r) (fun v s₁ h₁ => wpAny_bind (wpAny_standAt (wpAny_pure ?_))) fun _ _ x => x))))
 (refine Xc h₁ ?_; clear h₁; intro σ₁ hL₁ d₁ r₁ zr)
 obtain ⟨e, t, de, e₁, e₂, hE⟩ := zr
 obtain rfl := Yc e₁
 obtain ⟨δ, k1, -, -⟩ := r₁.objs
 exact Znj e t de rfl (O.k.keeps r₁.keep _ _ (exC _)) ((k1 e _ (Zn (Zn e₂))).2) (hE φ s₁ hL₁ r₁)
theorem Ygm (O : B.Ok) {x : Str} {xs : List Expr} {es : List Ab.E} {q cp p : Pos} {rest : List Stmt} {Q : Flow -> Zc -> St -> Prop} (S : Snd B w n c) (C : Ctx sc A env χ ml ρ m H (n + 1) c) (hd : (x == ("__debug__" : Str)) = false) (hg : sc.lookup x = some .globalImplicit) (hf : Ky x (.ref 125)) (h0 : Wm xs = true) (h1 : Zq (Zf k sc) xs = some es)
  (hh : A.handled = none) (hw : w.a es (fun vs _ => ∃ a b, vs = [a, b]) m H)
  (hE : ∀ σ₁ e t de φ s, σ₁ e = some (.raw (Ht t de)) -> Dis σ₁ (fr env.locals ml χ) -> Rep B (Un (Un σ₁ (fr env.locals ml χ)) φ) s -> E (.ref e) s) :
  JX B A env χ (execs (.Raise (some (.Call (.Name x q) xs [] cp)) none p :: rest) env) Q E ml (Za ρ H) := by
 refine Ygl O hh (Ji O C.ok.F hf (.inr (.inr fun P => rfl)) rfl hd (C.ok.glo x hg) h0 (J.mono (S.a _ _ _ _ h1 h0 _ _ _ _ _ _ _ _ _ _ C.dec hw) ?_))
 refine KL.all fun ρ1 H1 va l1 x1 W1 v1 zr => ?_
 obtain ⟨a, b, rfl⟩ := zr
 intro us hus
 have hlen : us.length = 2 := by simpa using congrArg List.length hus
 (refine Ks (Znb hlen) ?_; rintro u v rfl)
 exact J.lift (wC.wA (Ygj O C.room fun e t de he => ⟨e, t, de, rfl, Yz _ _ _, fun φ s d r => hE _ e t de φ s (Yz _ _ _) d r⟩))
end Mine.Ab
end
noncomputable section
namespace Mine.Ab
section
theorem Znc {env : Env} {r : List Stmt} : ∀ {l : List Stmt}, execs (l ++ r) env = (do match <- execs l env with | .next => execs r env | f => pure f)
 | [] => by
  show execs r env = _
  rw [show execs [] env = (Pure.pure Flow.next : Sem Flow) from rfl, pure_bind]
 | s :: l => by
  show execs (s :: (l ++ r)) env = _
  rw [execs_cons, execs_cons, bind_assoc]
  refine congrArg _ (funext fun f => ?_)
  cases f with
  | next => exact Znc
  | _ => rw [pure_bind]
variable {B : Bgd} {A : Around} {E : Value -> Shared -> Prop} {env : Env} {χ : St} {ml : Zc} {σ : St}
theorem Znd {l r : List Stmt} {Q : Flow -> Zc -> St -> Prop} (h : JX B A env χ (execs l env) (Kh B A env χ r Q E) E ml σ) : JX B A env χ (execs (l ++ r) env) Q E ml σ := by
 rw [Znc]
 refine JS.bind (JS.mono h fun fl m' σ' q f hf => ?_)
 cases f <;> (subst hf; first | exact q | exact JS.pure q)
end
namespace Cc
noncomputable abbrev prS : S := .asgT [61, 27] (.tup [.call 606 [.item (.loc 92) (.lit (.int 0))], .call 606 [.item (.loc 92) (.lit (.int 1))]])
noncomputable abbrev prT : E := .cmp 0 (.bi 0 [.loc 61]) (.lit (.int 0))
noncomputable abbrev prQ (es : List E) (n : Nat) : Fl -> Fm -> Hp -> Prop := fun fl m H => fl = .nx /\ (W T (n + 1) true).e prT (fun v H => Wp v fun b => b = true /\ (W T n true).a es (fun vs _ => ∃ a b, vs = [a, b]) m H) m H
noncomputable abbrev prE : List E := [.lit (.str [101, 114, 114, 111, 114]), .list [.lit (.str [78, 111, 116, 104, 105, 110, 103, 32, 116, 111, 32, 114, 101, 112, 108, 97, 99, 101])]]
theorem pair_ok {n : Nat} {nw : List Nat} (hl : nw.length <= 400) : (W T (n + 100) true).s 1 [prS] (prQ prE (n + 90)) [(92, .ref 0)] ⟨1, [(0, .lst [.str [], .str nw])]⟩ := by
 w_fin
 refine Us rfl ?_
 w_fin
 refine Zm [] [] rfl ?_
 refine Zaz (by decide) ?_
 w_fin
 refine Us rfl ?_
 w_fin
 refine Zm [] [] rfl ?_
 refine Zaz hl ?_
 w_fin
 exact Hx _ _ rfl
end Cc
end Mine.Ab
end
noncomputable section
namespace Mine.Ab
theorem Ygn : ∃ s1 t q xs cp p p' rest, Yl (Zh 62) = [s1] ++ .If t [.Raise (some (.Call (.Name "LispSignal" q) xs [] cp)) none p] [] p' :: rest /\ Zq (Wu 60 (Zi (Zh 62)).names) [s1] = some [Cc.prS] /\ Zf 59 (Zi (Zh 62)).names t = some Cc.prT /\ Wm xs = true /\ Zq (Zf 59 (Zi (Zh 62)).names) xs = some Cc.prE :=
 ⟨_, _, _, _, _, _, _, _, rfl, by kernel_rfl, by kernel_rfl, by kernel_rfl, by kernel_rfl⟩
theorem Ygo : Ky "LispSignal" (.ref 125) := .inl fun P => ⟨.ref 125, by kernel_rfl, rfl⟩
theorem Zdz {st : Stmt} {q : Str} {f cd L : Addr} (hk : (Zi st).kind = .function) (hnc : ∀ y ∈ (Zi st).names, y.2 ≠ .cell /\ y.2 ≠ .free) : EnvOk (Zi st).names (envX q (Zi st) L f (.ref cd) []) :=
 ⟨⟨hk, rfl, rfl⟩, fun x h => h, fun x h => by
   rcases h with h | h
   · exact absurd rfl (hnc _ (mem_of_lookup h)).1
   · exact absurd rfl (hnc _ (mem_of_lookup h)).2, fun x h => h⟩
noncomputable def Ygp (l : List (Str × NameKind)) : Bool := l.all fun y => match y.2 with
 | .cell => false
 | .free => false
 | _ => true
theorem Zea {l : List (Str × NameKind)} (h : Ygp l = true) : ∀ y ∈ l, y.2 ≠ .cell /\ y.2 ≠ .free := fun y hy => by
 have := List.all_eq_true.mp h y hy
 exact ⟨fun r => (by rw [r] at this; exact Yb this), fun r => (by rw [r] at this; exact Yb this)⟩
variable {B : Bgd} {A : Around} {E : Value -> Shared -> Prop} {env : Env} {χ : St} {ml : Zc} {ρ : Nat -> Addr} {n : Nat} {nw : List Nat}
noncomputable abbrev Uo (nw : List Nat) : Hp := ⟨1, [(0, .lst [.str [], .str nw])]⟩
theorem Ygq (O : B.Ok) (AF : Oa) (hl : nw.length <= 400) (ok : EnvOk (Zi (Zh 62)).names env) (fm : FmR (Zi (Zh 62)).names env χ ml ρ [(92, .ref 0)]) (W0 : Wf ρ (Uo nw)) (R : Room A (n + 100)) (hh : A.handled = none)
  (hE : ∀ σ₁ ml' e t de φ s, σ₁ e = some (.raw (Ht t de)) -> Dis σ₁ (fr env.locals ml' χ) -> Rep B (Un (Un σ₁ (fr env.locals ml' χ)) φ) s -> E (.ref e) s) :
  JX B A env χ (execs (Yl (Zh 62)) env) (fun _ _ _ => False) E ml (Za ρ (Uo nw)) := by
 obtain ⟨s1, t, q, xs, cp, p, p', rest, hb, g1, g2, g3, g4⟩ := Ygn
 rw [hb]
 have C : Ctx (Zi (Zh 62)).names A env χ ml ρ [(92, .ref 0)] (Uo nw) (n + 100) true := ⟨ok, fm, fun x v h => (by
  have : Ze x [(92, V.ref 0)] = some v := h
  unfold Ze at this
  cases z : Nat.beq 92 x with
  | true => rw [z] at this; (replace this := sI this; subst this); exact Nat.lt_succ_self 0
  | false => rw [z] at this; exact Zk this), W0, R, fun _ => hh⟩
 refine Znd (JS.mono ((Rc O AF (n + 100) true).s _ _ _ _ g1 _ _ _ _ _ _ _ 1 _ _ C (Nat.le_refl _) (Cc.pair_ok hl)) ?_)
 rintro fl ml1 σ1 ⟨ρ1, H1, m1, f1, l1, x1, W1, fm1, lt1, hf, hwk, q1⟩
 (refine Zg q1 ?_; clear q1; rintro rfl q1)
 have hf : fl = .next := hf
 subst hf
 have C1 : Ctx (Zi (Zh 62)).names A env χ ml1 ρ1 m1 H1 (n + 91) true := ⟨ok, fm1, lt1, W1, R.le (by exact gl (L0 (N1 _) V0 (.a nA (.k 91)) (.a nA (.k 100)) rfl)), fun _ => hh⟩
 refine Zfp (JS.weak hwk (Zfs (J.mono ((Rc O AF (n + 91) true).t _ _ _ _ g2 _ _ _ _ _ _ _ (fun b H => b = true /\ (W T (n + 90) true).a Cc.prE (fun vs _ => ∃ a b, vs = [a, b]) m1 H) _ C1 q1) ?_)))
 rintro b σ2 ⟨ρ2, H2, g, l2, x2, W2, -, rfl, rfl, hb2, q2⟩
 refine ⟨fun _ => ?_, fun z => by rw [show _ = true from hb2] at z; exact Xf z⟩
 have C2 := C1.next l2 x2 W2
 refine Ygm O (Rc O AF (n + 90) true).toSnd C2 (by kernel_rfl) (by kernel_rfl) Ygo g3 g4 hh q2 ?_
 exact fun σ₁ e t de φ s h1 h2 h3 => hE σ₁ ml1 e t de φ s h1 h2 h3
end Mine.Ab
end
noncomputable section
namespace Mine.Ab
variable {B : Bgd} {A : Around} {E : Value -> Shared -> Prop} {env : Env} {χ : St} {ml : Zc} {ρ : Nat -> Addr} {n : Nat} {nw : List Nat}
theorem Rk (σ : St) : Un σ (fun _ => none) = σ := by
 funext a
 unfold Un
 cases σ a <;> rfl
theorem Zeb {σ χ : St} {L : Addr} {m : Zc} (h : σ L = none) : upd (Un σ χ) L (.ns m) = Un σ (fr L m χ) := by
 funext a
 unfold upd Un fr
 by_cases z : a = L
 · subst z; simp [h]
 · simp [z]
theorem Zec {σ χ : St} {L : Addr} {m : Zc} (d : Dis σ χ) (h : σ L = none) : Dis σ (fr L m χ) := fun a => by
 by_cases z : a = L
 · subst z; exact .inl h
 · rcases d a with e | e
   · exact .inl e
   · exact .inr (by unfold fr; rw [if_neg z]; exact e)
theorem Ygr {σ χ φ : St} {L : Addr} {m : Zc} (d : Dis σ (fr L m χ)) (h : χ L = none) : Sub χ (Un (Un σ (fr L m χ)) φ) := fun a o e => Zn (by
 have z : a ≠ L := fun z => by rw [z, h] at e; exact Zk e
 exact Up d (by unfold fr; rw [if_neg z]; exact e))
theorem Ygs {s : Shared} {σ₁ φ : St} {e t : Addr} {de : Option Addr} {base : Heap} {outer : List Env} {L : Addr} {Q : Unit -> Shared -> Prop} (hfr : A.frames = some (env :: outer)) (hf : env.frame = some L) (hlo : env.locals = L) (hk : env.scope.kind = .function)
  (hb : ∀ b o, base.get? b = some o -> B.h₀.get? b = some o) (hout : s.heap.FunFrames base outer) (h1 : σ₁ e = some (.raw (Ht t de))) (d : Dis σ₁ (fr env.locals ml χ)) (r : Rep B (Un (Un σ₁ (fr env.locals ml χ)) φ) s)
  (h : ∀ h', B.h₀.objs.size <= e -> FlyK base outer e (.ref 125) .none h' -> s.heap.UpToSlots h' -> Q () { s with heap := h' }) : wpAny (model pw B.w) A (leaving env (.ref e)) Q E s := by
 obtain ⟨δ, k1, -, -⟩ := r.objs
 have x1 := k1 e _ (Zn (Zn h1))
 have x2 := k1 env.locals _ (Zn (Gc d Wo))
 have no : ∀ {b : Addr}, B.h₀.objs.size <= b -> base.get? b = none := fun {b} q => by
  cases z : base.get? b with
  | none => rfl
  | some o => have := hb b o z; rw [Kf q] at this; exact Zk this
 (refine Zb x2.2 fun m' hm' e1e => ?_; clear e1e)
 refine Yga hfr hf (.cons (by rw [hk]; exact fun q => by contradiction) hf (hlo ▸ hm') (hlo ▸ no (x2.1 rfl)) hout) x1.2 (fun b o q => r.keep b o (hb b o q)) (no (x1.1 rfl)) rfl rfl rfl fun h' => h h' (x1.1 rfl)
theorem Ygt (O : B.Ok) (AF : Oa) (hl : nw.length <= 400) {s : Shared} {ρ : Nat -> Addr} {base : Heap} {outer : List Env} {ed : Value} {Q : Value -> Shared -> Prop} (W0 : Wf ρ (Uo nw)) (R : Room A (n + 101)) (hh : A.handled = none) (hfr : A.frames = some outer)
   (hd : Dis (Za ρ (Uo nw)) χ) (r : Rep B (Un (Za ρ (Uo nw)) χ) s)
   (hb : ∀ b o, base.get? b = some o -> B.h₀.get? b = some o) (hout : ∀ s', Rep B χ s' -> s'.heap.FunFrames base outer)
   (hE : ∀ e s' h', B.h₀.objs.size <= e -> Rep B χ s' -> FlyK base outer e (.ref 125) .none h' -> s'.heap.UpToSlots h' -> E (.ref e) { s' with heap := h' }) :
   wpAny (model pw B.w) A (call (.ref 620) [ed, .ref (ρ 0)]) Q E s := by
 have X := O.k.keeps r.keep
 have D := Zlk
 have hnc := Zea (l := (Zi (Zh 62)).names) (by kernel_rfl)
 refine wpAny_call (codeAny_call_def (fd := fnX "pair_of" "pair_of" (Xy (Zh 62)) (Yl (Zh 62)) (Zi (Zh 62)) [] .none .none .none (.str "emacs.replacecommands" 1034) none (.ref 619) .none) (body := Yl (Zh 62)) (binds := [("editor", ed), ("values", .ref (ρ 0))]) R.lim (X _ _ (D.hK _)) rfl (O.nolimit.keeps r.keep) ((O.code _ D.hc).keeps r.keep) rfl (D.bind [ed, .ref (ρ 0)] rfl _ s X)
   (fun y hy => (hnc y hy).1) (fun y hy => ?_) (fun h₀ hns hk₀ => ?_) D.co D.gen D.kind)
 · simp only [List.mem_cons, List.not_mem_nil, or_false] at hy
   rcases hy with rfl | rfl <;> kernel_rfl
 have hL : Un (Za ρ (Uo nw)) χ s.heap.objs.size = none := r.size_none
 have r' := r.pushNs (t := s.toks + 2) hk₀ hns (Rv _)
 rw [Zeb (Ye hL)] at r'
 have hχ : χ s.heap.objs.size = none := by
   unfold Un at hL
   rw [Ye (φ := χ) hL] at hL; exact hL
 refine wpAny_mono (Ygq (A := A.deeper (envX "pair_of" (Zi (Zh 62)) s.heap.objs.size 620 (.ref 619) [])) (E := _) O AF hl (Zdz D.kind hnc) ⟨fun x i v h1 h2 h3 => ?_, fun x i v h1 => ?_⟩ W0 (R.deeper _) hh (fun σ₁ ml' e t de φ s' h1 h2 h3 => ?_) (Zec hd (Ye hL)) (fun _ => none) (fun _ => .inr rfl) (.inl hh) _ (by rw [Rk]; exact r')) (fun fl s' z => ?_) fun _ _ x => x
 · have : Ze i [(92, V.ref 0)] = some v := h3
   unfold Ze at this
   cases z : Nat.beq 92 i with
   | true =>
     rw [z] at this; (replace this := sI this; subst this)
     rw [<- Wn z] at h2
     rw [Ve h2 (by kernel_rfl : Zw "values" = some 92)]
     rfl
   | false => rw [z] at this; exact Zk this
 · rcases h1 with h | h
   · exact absurd rfl (hnc _ (mem_of_lookup h)).1
   · exact absurd rfl (hnc _ (mem_of_lookup h)).2
 · have y := h3.sub (Ygr h2 hχ)
   exact Ygs (A := A.deeper (envX "pair_of" (Zi (Zh 62)) s.heap.objs.size 620 (.ref 619) [])) (Around.frames_deeper hfr) rfl rfl D.kind hb (hout s' y) h1 h2 h3 fun h' z F U => hE e s' h' z y F U
 · obtain ⟨_, _, _, _, _, _, _, f⟩ := z
   exact f.elim
end Mine.Ab
end
noncomputable section
namespace Mine.Ab
variable {B : Bgd} {A : Around} {E : Value -> Shared -> Prop} {env : Env} {χ : St} {ml : Zc} {ρ : Nat -> Addr} {n : Nat} {nw : List Nat}
theorem Ygu : ∃ q1 q2 q3 q4 q5 q6 q7 p, Yl (Zh 65) = [.Expr (.Call (.Name "replace_from_point" q1) [.Name "editor" q2, .Call (.Name "pair_of" q3) [.Name "editor" q4, .Name "values" q5] [] q6] [] q7) p] := ⟨_, _, _, _, _, _, _, _, rfl⟩
theorem Ygv (O : B.Ok) (AF : Oa) (hl : nw.length <= 400) {ed : Value} {base : Heap} {outer : List Env} {L : Addr} (ok : EnvOk (Zi (Zh 65)).names env) (m1 : ml.lookup ("editor" : Str) = some ed) (m2 : ml.lookup ("values" : Str) = some (.ref (ρ 0))) (W0 : Wf ρ (Uo nw)) (R : Room A (n + 101)) (hh : A.handled = none)
   (hfr : A.frames = some (env :: outer)) (hf : env.frame = some L) (hlo : env.locals = L) (hk : env.scope.kind = .function) (hb : ∀ b o, base.get? b = some o -> B.h₀.get? b = some o) (hL0 : χ env.locals = none) (hout : ∀ s', Rep B χ s' -> s'.heap.FunFrames base outer)
   (hE : ∀ e s' h', B.h₀.objs.size <= e -> Rep B χ s' -> FlyK base (env :: outer) e (.ref 125) .none h' -> s'.heap.UpToSlots h' -> E (.ref e) { s' with heap := h' }) :
   JX B A env χ (execs (Yl (Zh 65)) env) (fun _ _ _ => False) E ml (Za ρ (Uo nw)) := by
 refine Zeh Ygu fun q1 q2 q3 q4 q5 q6 q7 p hbo => ?_
 rw [hbo]
 refine Zfq (Ji O ok.F (Tz Zan (by kernel_rfl : Wl "replace_from_point" GTf = some 634)) (Rb Zap (by kernel_rfl : Wl "replace_from_point" GTf = some 634)) rfl (by kernel_rfl) (ok.glo _ (by kernel_rfl)) rfl ?_) ?_ ?_
 · refine Kg (Gd ok.F Wo m1 ?_ (ok.loc _ (by kernel_rfl)) (by kernel_rfl)) rfl
   refine Kg (Ji O ok.F (Tz Zan (by kernel_rfl : Wl "pair_of" GTf = some 620)) (Rb Zap (by kernel_rfl : Wl "pair_of" GTf = some 620)) rfl (by kernel_rfl) (ok.glo _ (by kernel_rfl)) rfl ?_) rfl
   refine Kg (Gd ok.F Wo m1 ?_ (ok.loc _ (by kernel_rfl)) (by kernel_rfl)) rfl
   refine Kg (Gd ok.F Wo m2 ?_ (ok.loc _ (by kernel_rfl)) (by kernel_rfl)) rfl
   refine Ru ?_
   intro us hus hL φ d u s r
   have hlen : us.length = 2 := by simpa using congrArg List.length hus
   (refine Ks (Znb hlen) ?_; rintro u1 u2 rfl)
   · obtain rfl : u2 = .ref (ρ 0) := Yc (List.cons.inj (List.cons.inj hus).2).1
     have sub : Sub χ (Un (fr env.locals ml χ) φ) := fun a o e => Zn (by
       have z : a ≠ env.locals := fun z => by rw [z, hL0] at e; exact Zk e
       unfold fr; rw [if_neg z]; exact e)
     rw [Ta] at r
     refine wpAny_mono (Ygt (E := E) (Q := fun _ _ => False) (ed := u1) O AF hl W0 R hh hfr (hL.un d).1 r hb (fun s' r' => ?_) fun e s' h' hz r' F U => ?_) (fun _ _ z => z.elim) fun _ _ x => x
     · have k := r'.objs
       obtain ⟨δ, k1, -, -⟩ := k
       have x2 := k1 env.locals _ (Zn Wo)
       (refine Zb x2.2 fun m' hm' e1e => ?_; clear e1e)
       refine .cons (by rw [hk]; exact fun q => by contradiction) hf (hlo ▸ hm') ?_ (hout s' (r'.sub sub))
       cases z : base.get? L with
       | none => rfl
       | some o => have := hb _ o z; rw [<- hlo, Kf (x2.1 rfl)] at this; exact Zk this
     · exact hE e s' h' hz (r'.sub sub) F U
 · exact Zcw ok.F
 · exact Gz rfl
end Mine.Ab
end
noncomputable section
namespace Mine.Ab
variable {B : Bgd} {A : Around} {E : Value -> Shared -> Prop} {env : Env} {χ : St} {ml : Zc} {ρ : Nat -> Addr} {n : Nat} {nw : List Nat}
theorem Ygw (O : B.Ok) (AF : Oa) (hl : nw.length <= 400) {s : Shared} {base : Heap} {outer : List Env} {ed : Value} {Q : Value -> Shared -> Prop} (W0 : Wf ρ (Uo nw)) (R : Room A (n + 102)) (hh : A.handled = none) (hfr : A.frames = some outer)
   (hd : Dis (Za ρ (Uo nw)) χ) (r : Rep B (Un (Za ρ (Uo nw)) χ) s)
   (hb : ∀ b o, base.get? b = some o -> B.h₀.get? b = some o) (hout : ∀ s', Rep B χ s' -> s'.heap.FunFrames base outer)
   (hE : ∀ e s' h', B.h₀.objs.size <= e -> Rep B χ s' -> FlyK base outer e (.ref 125) .none h' -> s'.heap.UpToSlots h' -> E (.ref e) { s' with heap := h' }) :
   wpAny (model pw B.w) A (call (.ref 641) [ed, .ref (ρ 0)]) Q E s := by
 have X := O.k.keeps r.keep
 have D := Zll
 have hnc := Zea (l := (Zi (Zh 65)).names) (by kernel_rfl)
 refine wpAny_call (codeAny_call_def (fd := fnX "do_replace_string" "do_replace_string" (Xy (Zh 65)) (Yl (Zh 65)) (Zi (Zh 65)) [] .none .none .none (.str "emacs.replacecommands" 1034) none (.ref 640) .none) (body := Yl (Zh 65)) (binds := [("editor", ed), ("values", .ref (ρ 0))]) R.lim (X _ _ (D.hK _)) rfl (O.nolimit.keeps r.keep) ((O.code _ D.hc).keeps r.keep) rfl (D.bind [ed, .ref (ρ 0)] rfl _ s X)
   (fun y hy => (hnc y hy).1) (fun y hy => ?_) (fun h₀ hns hk₀ => ?_) D.co D.gen D.kind)
 · simp only [List.mem_cons, List.not_mem_nil, or_false] at hy
   rcases hy with rfl | rfl <;> kernel_rfl
 have hL : Un (Za ρ (Uo nw)) χ s.heap.objs.size = none := r.size_none
 have r' := r.pushNs (t := s.toks + 2) hk₀ hns (Rv _)
 rw [Zeb (Ye hL)] at r'
 have hχ : χ s.heap.objs.size = none := by
   unfold Un at hL
   rw [Ye (φ := χ) hL] at hL; exact hL
 have fr' := Around.frames_deeper (env := envX "do_replace_string" (Zi (Zh 65)) s.heap.objs.size 641 (.ref 640) []) hfr
 refine wpAny_mono (Ygv (A := A.deeper (envX "do_replace_string" (Zi (Zh 65)) s.heap.objs.size 641 (.ref 640) [])) (E := _) O AF hl (Zdz D.kind hnc) rfl rfl W0 (R.deeper _) hh fr' rfl rfl D.kind hb hχ hout (fun e s' h' hz y F U => ?_) (Zec hd (Ye hL)) (fun _ => none) (fun _ => .inr rfl) (.inl hh) _ (by rw [Rk]; exact r')) (fun fl s' z => ?_) fun _ _ x => x
 · exact Ygb (s := { s' with heap := h' }) fr' rfl F fun h'' F' U' => hE e s' h'' hz y F' (U.trans U')
 · obtain ⟨_, _, _, _, _, _, _, f⟩ := z
   exact f.elim
end Mine.Ab
end
noncomputable section
namespace Mine.Ab
variable {B : Bgd} {A : Around} {E : Value -> Shared -> Prop} {env : Env} {χ : St} {ml : Zc} {ρ : Nat -> Addr} {n : Nat} {nw : List Nat}
noncomputable abbrev Bgd.on (B : Bgd) (h : Heap) : Bgd := { B with h₀ := h }
theorem Ygx {B : Bgd} (O : B.Ok) {h : Heap} (k : ∀ b o, B.h₀.get? b = some o -> h.get? b = some o) : (Bgd.on B h).Ok :=
 ⟨O.k.keeps k, fun x hx => (O.code x hx).keeps k, O.b.keeps k, O.nolimit.keeps k, O.digits.keeps k, O.boot⟩
theorem Ygy {s : Shared} {w : World} {mb : Str -> Option Value} {os : OsState} (hg : s.gens = #[]) (ho : s.os = os) : Rep ⟨w, s.heap, os, mb⟩ (fun _ => none) s :=
 ⟨fun _ _ e => e, Nat.le_refl _, hg, ho, fun a => a, fun _ _ e => (by exact Zk e), fun _ _ _ e => (by exact Zk e), fun _ _ _ _ _ _ e => (by exact Zk e)⟩
theorem Ygz {a : Addr} : Za (fun _ => a) (Uo nw) = upd (fun _ => none) a (.lst [Mine.S ⟨([] : List Nat).toArray⟩, Mine.S ⟨nw.toArray⟩]) := by
 funext b
 show (if a = b then _ else _) = if b = a then _ else _
 by_cases z : a = b
 · subst z; rw [if_pos rfl, if_pos rfl]; rfl
 · rw [if_neg z, if_neg (Ne.symm z)]; rfl
inductive Back (env : Env) (L : Addr) (h₀ : Heap) (e : Addr) (h : Heap) : Prop
 | mk (fly : FlyK (hideAll h₀ [L]) [env] e (.ref 125) .none h) (up : h₀.UpToSlots h) (new : h₀.objs.size <= e)
theorem Yha (O : B.Ok) (AF : Oa) (hl : nw.length <= 400) {Z : St} {s : Shared} (r : Rep B Z s) {a : Addr} {k : Nat} {its : Array Value} {ed : Value} {Q : Value -> Shared -> Prop} (hs : s.heap.objs.size = a) (h1 : its.toList.map er = [Mine.S ⟨([] : List Nat).toArray⟩, Mine.S ⟨nw.toArray⟩])
   (R : Room A (n + 102)) (hh : A.handled = none) {L : Addr} (hfr : A.frames = some [env]) (hf : env.frame = some L) (hlo : env.locals = L) (hk : env.scope.kind = .function) {ml : Zc} (hL : Z L = some (.ns ml))
   (hE : ∀ e s', s'.gens = #[] -> s'.os = B.os -> Back env L s.heap e s'.heap -> E (.ref e) s') :
   wpAny (model pw B.w) A (call (.ref 641) [ed, .ref a]) Q E { s with heap := s.heap.push (listOf its 0), toks := k } := by
 subst hs
 have O' := Ygx O r.keep
 (refine Xg r.objs fun e1e zr => ?_; rcases e1e with δ; obtain ⟨k1, -, -⟩ := zr)
 (refine Zb ((k1 L _ hL).2) fun m' e1e e2e => ?_; (refine Ox e1e ?_; clear e1e; intro oL es ep eL dL rL); clear e2e)
 have r0 : Rep (Bgd.on B s.heap) (fun _ => none) s := Ygy r.gens r.os
 have r1 := r0.push (t := k) (ob := listOf its 0) (o := .lst [Mine.S ⟨([] : List Nat).toArray⟩, Mine.S ⟨nw.toArray⟩]) rfl (fun δ => ⟨its, 0, Heap.get?_push_size _ rfl, h1⟩)
 rw [<- Ygz, <- Rk (Za _ _)] at r1
 have W0 : Wf (fun _ => s.heap.objs.size) (Uo nw) := ⟨by simp, fun p hp q hq _ => by
   rw [List.mem_singleton.mp hp, List.mem_singleton.mp hq], fun p hp => by
   rw [List.mem_singleton.mp hp]
   exact ⟨Nat.lt_succ_self 0, fun v hv => by
     rcases List.mem_cons.mp hv with rfl | hv
     · trivial
     · rw [List.mem_singleton.mp hv]; trivial⟩⟩
 refine Ygw (B := Bgd.on B s.heap) (ρ := fun _ => s.heap.objs.size) (base := hideAll s.heap [L]) O' AF hl W0 R hh hfr (fun _ => .inr rfl) r1 (fun b o q => of_hideAll _ q) (fun s' r' => ?_) (fun e s' h' hz r' F U => ?_)
 · exact .cons (by rw [hk]; exact fun q => by contradiction) hf ⟨oL, es, ep, r'.keep _ _ eL, dL, rL⟩ (hideAll_none _ (.head _)) trivial
 · exact hE e _ r'.gens r'.os ⟨F, fun b o q nf => U b o (r'.keep b o q) nf, hz⟩
end Mine.Ab
end
noncomputable section
namespace Mine.Ab
theorem Back.rep {B : Bgd} {Z : St} {s s' : Shared} {env : Env} {L e : Addr} {ml : Zc} {fl : Value} (r : Rep B Z s) (hL : Z L = some (.ns ml)) (F : FlyK (hideAll s.heap [L]) [env] e (.ref 125) fl s'.heap) (U : s.heap.UpToSlots s'.heap) (hz : s.heap.objs.size <= e) (hg : s'.gens = #[]) (ho : s'.os = B.os) :
   ∃ oe vs, oe.cls = .ref 125 /\ s'.heap.get? e = some oe /\ oe.data = .fields vs /\ vs[2]? = some .none /\ Rep B (upd Z e (.raw oe)) s' := by
 obtain ⟨st, -, -, oe, vs, T, oT, ts, he, hc, h2, hd, -⟩ := F
 refine Zni oe vs hc he hd h2 ?_
 obtain ⟨h1, h2, h3, h4, δ, k1, k2, k3⟩ := r
 have stay : ∀ b o, b ≠ L -> s.heap.get? b = some o -> s'.heap.get? b = some o := fun b o hb q => st b o (hideAll_get [L] q (by simpa using hb))
 have xL := k1 L _ hL
 have no : ∀ b ob, s.heap.get? b = some ob -> b ≠ e := fun b ob q z => by rw [z, Kf hz] at q; exact Zk q
 have un : ∀ b C fs, upd Z e (.raw oe) b = some (.inst C fs) -> Z b = some (.inst C fs) := fun b C fs q => by
   by_cases z : b = e
   · subst z; rw [Yz] at q; cases q
   · rwa [Zz z] at q
 refine ⟨fun b ob q => stay _ _ (fun z => ?_) (h1 b ob q), Nat.le_trans h2 (Nat.le_trans hz (Nat.le_of_lt (Heap.lt_size he))), hg, ho, δ, fun b ob q => ?_, fun b C fs q => ⟨(k2 b C fs (un _ _ _ q)).1, ?_⟩, fun b C fs b' C' fs' q q' => k3 b C fs b' C' fs' (un _ _ _ q) (un _ _ _ q')⟩
 · rw [z, Kf (xL.1 rfl)] at q; exact Zk q
 · by_cases z : b = e
   · subst z; rw [Yz] at q; (replace q := sI q; subst q); exact ⟨fun _ => Nat.le_trans h2 hz, he⟩
   · rw [Zz z] at q
     have x := k1 b ob q
     refine ⟨x.1, ?_⟩
     by_cases y : b = L
     · subst y
       rw [hL] at q; (replace q := sI q; subst q)
       (refine Zb xL.2 fun m' e1e w => ?_; (refine Ox e1e ?_; clear e1e; intro oL es ep eL dL rL))
       obtain ⟨sl, e'⟩ := U b oL eL fun vs q => by rw [dL] at q; contradiction
       exact Zp m' ⟨_, es, ep, e', dL, rL⟩ w
     · refine x.2.same ?_ fun i => ⟨rfl, ?_⟩
       · refine Xg x.2.there fun ox hx => ?_
         rw [hx]; exact stay _ _ y hx
       · cases ob with
         | inst C fs =>
           refine Xg x.2.dthere fun ox hx => ?_
           rw [hx]; exact stay _ _ (fun z => by have := (k2 b C fs q).2; rw [z, hL] at this; exact Wh this) hx
         | _ => exact Yb i
 · refine Xg ((k1 b _ (un _ _ _ q)).2.dthere) fun ox hx => ?_
   rw [Zz (no _ _ hx)]
   exact (k2 b C fs (un _ _ _ q)).2
end Mine.Ab
end
noncomputable section
namespace Mine.Ab
variable {B : Bgd} {A : Around} {E : Value -> Shared -> Prop} {env : Env} {χ : St} {ml : Zc} {ρ : Nat -> Addr} {m : Fm} {H : Hp} {n N : Nat} {sc : Sc} {k : Nat}
theorem Yhb {M : Model} {P : Params} {s : Shared} {p : Pos} {Q : Value -> Shared -> Prop} (X : (K P).In s.heap) (F : FnEnv env) (hk : env.kindOf ("LispSignal" : Str) = some .globalImplicit) (h : Q (.ref 125) s) : wpAny M A (eval (.Name "LispSignal" p) env) Q E s := by
 refine Yg (Zfe X) fun mg N n1 n2 => ?_
 refine wpAny_Name ?_ (by kernel_rfl)
 have e : loadName env "LispSignal" = loadGlobal env "LispSignal" := by
  unfold loadName
  simp only [Env.blockKind, F.kind, hk, ScopeKind.isAnnotationScope, Bool.false_and, Bool.false_eq_true, if_false]
 rw [e]
 exact loadGlobal_global (F.globals ▸ N) (n1 _ _ (by kernel_rfl)) h
theorem Yhc {σ φ : St} {a : Addr} {o : AO} (h : σ a = none) : upd (Un σ φ) a o = Un σ (upd φ a o) := by
 funext b
 unfold upd Un
 by_cases z : b = a
 · subst z; simp [h]
 · simp [z]
theorem Yhd {σ φ φ' : St} (h : Sub φ φ') : Sub (Un σ φ) (Un σ φ') := fun a o e => by
 unfold Un at e ⊢
 cases z : σ a with
 | some o' => rw [z] at e; exact e
 | none => rw [z] at e; exact h a o e
theorem Yhe (O : B.Ok) (AF : Oa) {x : Expr} {e' : Ab.E} {q7 p2 p3 : Pos} {s s' : Shared} {L e : Addr} {φ : St} (C : Ctx sc A env χ ml ρ m H (n + 1) true) (hg : sc.lookup ("LispSignal" : Str) = some .globalImplicit) (hx : Zf k sc x = some e') (hw : (W T n false).e e' (fun v _ => v = .bool true) m H)
   (hfr : A.frames = some [env]) (hf : env.frame = some L) (hlo : env.locals = L) (hL : Dis (Za ρ H) (fr env.locals ml χ)) (d : Dis (Un (Za ρ H) (fr env.locals ml χ)) φ) (r : Rep B (Un (Un (Za ρ H) (fr env.locals ml χ)) φ) s)
   (hgn : s'.gens = #[]) (hos : s'.os = B.os) (b : Back env L s.heap e s'.heap) {Q : Flow -> Shared -> Prop} (hQ : ∀ s'', PA B φ (PS env.locals χ (fun (fl : Flow) _ _ => fl = .ret (.bool true))) (Flow.ret (.bool true)) s'' -> Q (.ret (.bool true)) s'') :
   wpAny (model pw B.w) A (noteFrame (.ref e) env) (fun _ s₂ => wpAny (model pw B.w) A (setFlight (.ref e) none) (fun _ s₃ => wpAny (model pw B.w) A (handleBy (.ref e) env [.ExceptHandler (some (.Name "LispSignal" q7)) none [.Return (some x) p2] p3]) Q E s₃) E s₂) E s' := by
 obtain ⟨F, U, hz⟩ := b
 have hZ : Un (Un (Za ρ H) (fr env.locals ml χ)) φ L = some (.ns ml) := Zn (by rw [<- hlo]; exact Gc hL Wo)
 refine Zmy hfr hf F fun h1 F1 U1 => Zbh (s := { s' with heap := h1 }) F1 fun h2 F2 U2 => ?_
 refine wpAny_handleBy_cons (codeAny_handlers_test ?_) (by intro q; contradiction)
 (refine Zee (Back.rep (s' := { s' with heap := h2 }) r hZ F2 ((U.trans U1).trans U2) hz hgn hos) fun oe vs c1 c2 e1e e2e r2 => ?_; clear e1e; clear e2e)
 have X := O.k.keeps r2.keep
 refine Yhb X C.ok.F (C.ok.glo _ hg) ?_
 refine wpAny_excMatches_sub_self (X _ _ (exC _)) c2 c1 rfl (codeAny_handlers_suite ?_)
 refine Zbh (s := { s' with heap := h2 }) F2 fun h3 F3 U3 => ?_
 refine Zee (Back.rep (s' := { s' with heap := h3 }) r hZ F3 (((U.trans U1).trans U2).trans U3) hz hgn hos) fun oe vs c1 c2 c3 c4 r3 => ?_
 have hn : Un (Un (Za ρ H) (fr env.locals ml χ)) φ e = none := by
   cases z : Un (Un (Za ρ H) (fr env.locals ml χ)) φ e with
   | none => rfl
   | some o => exact absurd (r.lt z) (Nat.not_lt.mpr hz)
 have hφ : φ e = none := by
   unfold Un at hn
   cases z : (Za ρ H) e with
   | some o => rw [z] at hn; exact Wh hn
   | none =>
     rw [z] at hn
     cases y : fr env.locals ml χ e with
     | some o => rw [y] at hn; exact Wh hn
     | none => rw [y] at hn; exact hn
 have sub : Sub φ (upd φ e (.raw oe)) := fun a o q => by
   rw [Zz (fun z => by rw [z, hφ] at q; exact Zk q)]; exact q
 have d' : Dis (Un (Za ρ H) (fr env.locals ml χ)) (upd φ e (.raw oe)) := fun a => by
   by_cases z : a = e
   · subst z; exact .inl (Ye hn)
   · rw [Zz z]; exact d a
 rw [Yhc (Ye hn)] at r3
 have C' : Ctx sc (A.mark (some (.ref e))) env χ ml ρ m H n false := ⟨C.ok, C.fm, C.lt, C.wf, ⟨(C.room.le (Nat.le_succ n)).depth, (C.room.le (Nat.le_succ n)).units⟩, fun z => by exact Yb z⟩
 refine wpAny_execs_cons (wpAny_Return_some (wpAny_mono ((Rc O AF n false).e _ _ _ _ hx (A.mark (some (.ref e))) env χ ml ρ m H _ _ C' hw hL _ d' (.inr ⟨e, oe, vs, rfl, Yz _ _ _, c3, c4⟩) _ r3) (fun v s₄ z => ?_) fun _ _ x => x))
 (refine Xc z ?_; clear z; intro σ₁ hL₁ d₁ r₁ zr)
 obtain ⟨ρ2, H2, u, l2, x2, W2, -, e1, rfl, rfl⟩ := zr
 have : v = .bool true := Qa e1
 subst this
 refine hQ s₄ ⟨_, fun a => ?_, r₁.sub (Yhd sub), ml, _, hL₁, rfl, rfl⟩
 rcases d₁ a with z | z
 · exact .inl z
 · refine .inr ?_
   cases y : φ a with
   | none => rfl
   | some o => rw [sub a o y] at z; exact Wh z
end Mine.Ab
end
noncomputable section
namespace Mine.Ab
variable {B : Bgd} {A : Around} {E : Value -> Shared -> Prop} {env : Env} {χ : St} {ml : Zc} {ρ : Nat -> Addr} {m : Fm} {H : Hp} {n N : Nat} {sc : Sc} {k : Nat}
theorem Yhf (O : B.Ok) (AF : Oa) {x : Expr} {e' : Ab.E} {q1 q2 q3 q4 q5 q6 p q7 p2 p3 p4 : Pos} {kk i : Nat} {nw : List Nat} {rest : List Stmt} {L : Addr} (C : Ctx sc A env χ ml ρ m H (n + 102) true) (hx : Zf k sc x = some e') (hw : (W T n false).e e' (fun v _ => v = .bool true) m H)
  (s1 : sc.lookup ("LispSignal" : Str) = some .globalImplicit) (s2 : sc.lookup ("do_replace_string" : Str) = some .globalImplicit) (s3 : sc.lookup ("editor" : Str) = some .local) (s4 : sc.lookup ("new" : Str) = some .local)
  (v1 : Ze 90 m = some (.ref i)) (v2 : Ze 27 m = some (.str nw)) (hl : nw.length <= 400) (hh : A.handled = none) (hfr : A.frames = some [env]) (hf : env.frame = some L) (hlo : env.locals = L) :
  JX B A env χ (execs (.Try [.Expr (.Call (.Name "do_replace_string" q1) [.Name "editor" q2, .List [.Constant (.str "") kk q3, .Name "new" q4] q5] [] q6) p] [.ExceptHandler (some (.Name "LispSignal" q7)) none [.Return (some x) p2] p3] [] [] p4 :: rest) env) (fun (fl : Flow) _ _ => fl = .ret (.bool true)) E ml (Za ρ H) := by
 intro hL φ d u s r
 have w1 := C.fm.loc _ _ _ s3 (by kernel_rfl : Zw "editor" = some 90) v1
 have w2 := C.fm.loc _ _ _ s4 (by kernel_rfl : Zw "new" = some 27) v2
 refine wpAny_execs_cons (wpAny_Try_except (wpAny_execs_cons (wpAny_Expr_any ?_ (Zcw C.ok.F) (Gz rfl))))
 show wpAny _ A (do callWith q6 (<- eval (.Name "do_replace_string" q1) env) [] (backTo q6 (starEach [.Name "editor" q2, .List [.Constant (.str "") kk q3, .Name "new" q4] q5] env)) (backToKw q6 (keywordEach [] env))) _ _ s
 refine wpAny_bind (wpAny_mono (Rt (E := fun _ _ => False) O C.ok.F (Tz Zan (by kernel_rfl : Wl "do_replace_string" GTf = some 641)) (Q := fun v σ => v = .ref 641 /\ σ = Za ρ H) ⟨rfl, rfl⟩ (C.ok.glo _ s2) (by kernel_rfl) hL φ d u s r) (fun v s₁ z => ?_) fun _ _ z => z.elim)
 (refine Xc z ?_; clear z; intro σ₁ hL₁ d₁ r₁ zr)
 obtain ⟨e1, rfl⟩ := zr
 obtain rfl := Yc e1
 refine callWith_of (P := fun h => (PySem.W.Frag.In (K B.w.params) h)) rfl (fun h X => Zfk (Rb Zap (by kernel_rfl : Wl "do_replace_string" GTf = some 641)) _ h B.w X) ?_
 have hL' : Un (Un (Za ρ H) (fr env.locals ml χ)) φ L = some (.ns ml) := Zn (by rw [<- hlo]; exact Gc hL Wo)
 show wpAny _ _ (evalArgs (.ref 641) true ((false, eval (.Name "editor" q2) env) :: [(false, eval (.List [.Constant (.str "") kk q3, .Name "new" q4] q5) env)]) []) _ _ s₁
 refine evalArgs_plain (spliced_cons (wpAny_mono (Gd (E := fun _ _ => False) C.ok.F Wo w1 (Q := fun _ σ => σ = Za ρ H) rfl (C.ok.loc _ s3) (by kernel_rfl) hL φ d u s₁ r₁) (fun v s₂ z => ?_) fun _ _ z => z.elim))
 (refine Xc z ?_; clear z; intro σ₂ hL₂ d₂ r₂ rfl)
 refine spliced_cons (wpAny_List (wpAny_mono (Kg (E := fun _ _ => False) (Q := fun vs σ => vs = [Mine.S ⟨([] : List Nat).toArray⟩, Mine.S ⟨nw.toArray⟩] /\ σ = Za ρ H) (Zpr (Kg (Gd C.ok.F Wo w2 (Ru ⟨rfl, rfl⟩) (C.ok.loc _ s4) (by kernel_rfl)) rfl)) rfl hL φ d u s₂ r₂) (fun vs s₃ z => ?_) fun _ _ z => z.elim))
 (refine Xc z ?_; clear z; intro σ₃ hL₃ d₃ r₃ zr)
 obtain ⟨e3, rfl⟩ := zr
 have hlen : vs.length = 2 := by simpa using congrArg List.length e3
 refine ⟨by rw [hlen]; exact Nat.le_of_ble_eq_true rfl, spliced_nil ⟨O.k.keeps fun b o q => Heap.get?_push_of_some _ (r₃.keep b o q), ?_⟩⟩
 refine Yha (its := vs.toArray) (k := s₃.toks) O AF hl r₃ rfl (by simpa using e3) C.room hh hfr hf hlo C.ok.F.kind hL' fun e s' hg ho b => ?_
 exact Yhe O AF ⟨C.ok, C.fm, C.lt, C.wf, C.room.le (by exact gl (L0 (N1 _) V0 (.a nA kI) (.a nA (.k 102)) rfl)), C.calm⟩ s1 hx hw hfr hf hlo hL d r₃ hg ho b fun s'' z => z
end Mine.Ab
end
noncomputable section
namespace Mine.Ab
variable {B : Bgd} {A : Around} {E : Value -> Shared -> Prop} {env : Env} {χ : St} {ml : Zc} {ρ : Nat -> Addr}
theorem Yhg : ∃ q1 q2 q3 q4 q5 q6 p q7 p2 p3 p4 kk x rest, Yl (Zh 87) = (Yl (Zh 87)).take 13 ++ .Try [.Expr (.Call (.Name "do_replace_string" q1) [.Name "editor" q2, .List [.Constant (.str "") kk q3, .Name "new" q4] q5] [] q6) p] [.ExceptHandler (some (.Name "LispSignal" q7)) none [.Return (some x) p2] p3] [] [] p4 :: rest /\
 Zq (Wu 60 (Zi (Zh 87)).names) ((Yl (Zh 87)).take 13) = some Cc.lwF /\ Zf 60 (Zi (Zh 87)).names x = some (.cmp 0 Cc.lwCk Cc.lwOr) := ⟨_, _, _, _, _, _, _, _, _, _, _, _, _, _, rfl, by kernel_rfl, by kernel_rfl⟩
noncomputable abbrev Hu (xs : List Int) : Hp := ⟨1, [(0, .sil xs)]⟩
theorem Yhh (O : B.Ok) (AF : Oa) {xs : List Int} (hl : xs.length <= 63) (ok : EnvOk (Zi (Zh 87)).names env) (fm : FmR (Zi (Zh 87)).names env χ ml ρ [(156, .ref 0)]) (W0 : Wf ρ (Hu xs)) (R : Room A 590) (hh : A.handled = none) {L : Addr} (hfr : A.frames = some [env]) (hf : env.frame = some L) (hlo : env.locals = L) :
  JX B A env χ (execs (Yl (Zh 87)) env) (fun (fl : Flow) _ _ => fl = .ret (.bool true)) E ml (Za ρ (Hu xs)) := by
 obtain ⟨q1, q2, q3, q4, q5, q6, p, q7, p2, p3, p4, kk, x, rest, hb, g1, g2⟩ := Yhg
 rw [hb]
 have C : Ctx (Zi (Zh 87)).names A env χ ml ρ [(156, .ref 0)] (Hu xs) 590 true := ⟨ok, fm, fun x v h => (by
  have : Ze x [(156, V.ref 0)] = some v := h
  unfold Ze at this
  cases z : Nat.beq 156 x with
  | true => rw [z] at this; (replace this := sI this; subst this); exact Nat.lt_succ_self 0
  | false => rw [z] at this; exact Zk this), W0, R, fun _ => hh⟩
 refine Znd (JS.mono ((Rc O AF 590 true).s _ _ _ _ g1 _ _ _ _ _ _ _ 1 _ _ C (Nat.le_refl _) (Cc.law_ok (n := 0) hl)) ?_)
 rintro fl ml1 σ1 ⟨ρ1, H1, m1, f1, l1, x1, W1, fm1, lt1, hf1, hwk, q1⟩
 cases f1 with
 | ret v => exact q1.elim
 | nx =>
  (refine Xo q1 ?_; clear q1; intro e1e e2e hw; (refine Zb e1e ?_; clear e1e; intro nw v2 hn); (refine Xg e2e ?_; clear e2e; intro i v1))
  have hf1 : fl = .next := hf1
  subst hf1
  exact Zfp (JS.weak hwk (Yhf (n := 100) O AF ⟨ok, fm1, lt1, W1, R.le (by decide), fun _ => hh⟩ g2 hw (by kernel_rfl) (by kernel_rfl) (by kernel_rfl) (by kernel_rfl) v1 v2 hn hh hfr hf hlo))
end Mine.Ab
end
end
end
section
open PySem PySem.W PySem.Calls PyProof.Rows
noncomputable section
namespace Mine.Ab
theorem Zne {P : Params} {h : Heap} : ∀ {xs : List Int} {vs : List Value}, WellAll P h vs (ofPys (xs.map PyData.int)) -> vs.map er = xs.map Mine.I
 | [], vs, r => by cases r; rfl
 | x :: xs, vs, r => by
  cases r with
  | cons a b =>
   cases a
   show _ :: _ = _ :: _
   rw [Zne b]; rfl
theorem Yhi {xs : List Int} (h : WTm.holds rw0.row.records rw0.row.pre { args := [ofPy (PyData.list (xs.map PyData.int))] } = true) : xs.length <= 63 := by
 have hcond := h
 w_cond hcond
 omega
theorem Yhj {B : Bgd} {s : Shared} {a : Addr} {its : Array Value} {n : Nat} {xs : List Int} (hB : B.h₀ = s.heap) (hg : s.gens = #[]) (ho : s.os = B.os) (ha : s.heap.get? a = some (PySem.W.listOf its n)) (hx : its.toList.map er = xs.map Mine.I) : Rep B (Za (fun _ => a) (Hu xs)) s := by
 have key : ∀ b o, Za (fun _ => a) (Hu xs) b = some o -> b = a /\ o = .slst (xs.map Mine.I) := fun b o e => by
   have e : (if a = b then some (Zy (fun _ => a) (.sil xs)) else none) = some o := e
   by_cases z : a = b
   · rw [if_pos z] at e; (replace e := sI e; subst e); exact ⟨z.symm, rfl⟩
   · rw [if_neg z] at e; exact Zk e
 refine ⟨fun b o q => by rw [<- hB]; exact q, by rw [hB]; exact Nat.le_refl _, hg, ho, fun b => b, fun b o e => ?_, fun b C fs e => ?_, fun b C fs b' C' fs' e _ _ => ?_⟩
 · (refine Zg (key b o e) ?_; rintro rfl rfl)
   exact ⟨fun z => (by exact Xf z), its, n, ha, hx⟩
 · cases (key _ _ e).2
 · cases (key _ _ e).2
theorem Yhk {B : Bgd} {E : Value -> Shared -> Prop} (O : B.Ok) (AF : Oa) {xs : List Int} (hl : xs.length <= 63) {s : Shared} {a : Addr} {its : Array Value} {n : Nat} {Q : Value -> Shared -> Prop} (hB : B.h₀ = s.heap) (hg : s.gens = #[]) (ho : s.os = B.os) (ha : s.heap.get? a = some (PySem.W.listOf its n)) (hx : its.toList.map er = xs.map Mine.I)
   (hq : ∀ s', (∀ b o, s.heap.get? b = some o -> s'.heap.get? b = some o) -> s'.gens = #[] -> s'.os = s.os -> Q (.bool true) s') : wpAny (model pw B.w) callerA (call (.ref 1261) [.ref a]) Q E s := by
 have r := Yhj hB hg ho ha hx
 rw [<- Rk (Za _ _)] at r
 have X := O.k.keeps r.keep
 have D := Zlm
 have hnc := Zea (l := (Zi (Zh 87)).names) (by kernel_rfl)
 have W0 : Wf (fun _ => a) (Hu xs) := ⟨by simp, fun p hp q hq _ => by
   rw [List.mem_singleton.mp hp, List.mem_singleton.mp hq], fun p hp => by
   rw [List.mem_singleton.mp hp]
   exact ⟨Nat.lt_succ_self 0, trivial⟩⟩
 have R : Room callerA 591 := ⟨by decide, by decide⟩
 refine wpAny_call (codeAny_call_def (fd := fnX "law" "law" (Xy (Zh 87)) (Yl (Zh 87)) (Zi (Zh 87)) [] .none .none .none (.str "law_on0078_01" 1865) none (.ref 1260) .none) (body := Yl (Zh 87)) (binds := [("script", .ref a)]) R.lim (X _ _ (D.hK _)) rfl (O.nolimit.keeps r.keep) ((O.code _ D.hc).keeps r.keep) rfl (D.bind [.ref a] rfl _ s X)
   (fun y hy => (hnc y hy).1) (fun y hy => ?_) (fun h₀ hns hk₀ => ?_) D.co D.gen D.kind)
 · rw [List.mem_singleton.mp hy]; kernel_rfl
 have hL : Un (Za (fun _ => a) (Hu xs)) (fun _ => none) s.heap.objs.size = none := r.size_none
 have r' := r.pushNs (t := s.toks + 1) hk₀ hns (Rv _)
 rw [Zeb (Ye hL)] at r'
 have fr' := Around.frames_deeper (A := callerA) (env := envX "law" (Zi (Zh 87)) s.heap.objs.size 1261 (.ref 1260) []) rfl
 refine wpAny_mono (Yhh (A := callerA.deeper (envX "law" (Zi (Zh 87)) s.heap.objs.size 1261 (.ref 1260) [])) (E := _) O AF hl (Zdz D.kind hnc) ⟨fun x i v h1 h2 h3 => ?_, fun x i v h1 => ?_⟩ W0 (R.deeper _) rfl fr' rfl rfl (Zec (fun _ => .inr rfl) (Ye hL)) (fun _ => none) (fun _ => .inr rfl) (.inl rfl) _ (by rw [Rk]; exact r')) (fun fl s' z => ?_) fun _ _ x => x
 · have : Ze i [(156, V.ref 0)] = some v := h3
   unfold Ze at this
   cases z : Nat.beq 156 i with
   | true =>
     rw [z] at this; (replace this := sI this; subst this)
     rw [<- Wn z] at h2
     rw [Ve h2 (by kernel_rfl : Zw "script" = some 156)]
     rfl
   | false => rw [z] at this; exact Zk this
 · rcases h1 with h | h
   · exact absurd rfl (hnc _ (mem_of_lookup h)).1
   · exact absurd rfl (hnc _ (mem_of_lookup h)).2
 · obtain ⟨_, _, r₂, _, _, _, _, f⟩ := z
   cases fl with
   | ret v =>
     have : v = .bool true := Qa (by injection f)
     subst this
     exact hq s' (fun b o q => r₂.keep b o (by rw [hB]; exact q)) r₂.gens (r₂.os.trans ho.symm)
   | _ => contradiction
theorem Yhl : WalkO qv loose (XL qv []) Vy rw0.row.toRowW lawD [] fun f vs => PySem.call f vs := by
 intro w s₀ s₁ mg mb G Y fa o pm cd doc dV kV ho hd hcd hD hmg hg args vals as hpre hlay hrd hwl hlo
 refine Zg (pre_splitW hpre) fun hsh hcond => ?_
 wrow_hasAll hsh hlay
 rename_i xs _ _ _ _ _
 have hlen := Yhi hcond
 cases hwl with
 | cons a b =>
   cases b
   cases a with
   | list ha hb =>
     have hx := Zne hb
     have O : (⟨w, s₁.heap, s₁.os, mb⟩ : Bgd).Ok := ⟨Y.1, Y.2, G.T.b, G.T.nolimit, G.T.nodigits, G.T.builtins⟩
     have e := mg_of (n := "law") Y.1 G.T.g (by kernel_rfl : nsIn (K w.params) mainGlobals "law" = some (some (.ref 1261)))
     have : fa = 1261 := by
       have := hmg.symm.trans e
       cases this; rfl
     subst this
     refine wpAny_mono (Yhk (E := fun _ _ => False) (Q := fun v s' => v = .bool true /\ (∀ b o, s₁.heap.get? b = some o -> s'.heap.get? b = some o) /\ s'.gens = #[] /\ s'.os = s₁.os) O Yek hlen rfl hg rfl ha (by simpa using hx) fun s' k1 k2 k3 => ⟨rfl, k1, k2, k3⟩) (fun v s' z => ?_) fun _ _ z => z.elim
     (refine Xs z ?_; clear z; rintro rfl k1 k2 k3)
     refine GoodW.toG ⟨.inl ⟨_, _, _, rfl, fun _ => rfl, .bool true, ?_, fun _ => ⟨List.nodup_nil, fun a ha => by contradiction⟩⟩, k1, k3, ?_⟩
     · wrow_post
     · exact k2
theorem law_holds : rw0.Holds := Zpa Yhl
end Mine.Ab
end
end
theorem PySem.Challenge.cw_on0078_01_holds : PySem.Challenge.rw_on0078_01.Holds :=
 Mine.Ab.law_holds
