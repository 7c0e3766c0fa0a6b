/- The kinds of this seat's laws' arguments: what reads as data of their types is of them. No condition. -/
import Derived.Test.YtkknehgaebhbeaaOp
import Derived.Test.YtkknehgaebhbeaaPx0
namespace Go.Proofs.Ytkknehgaebhbeaa.Kinds
open Go.RowKit Go.Proofs.Ytkknehgaebhbeaa.P Go.Proofs.Ytkknehgaebhbeaa.Op Go.Proofs.YtkknehgaebhbeaaW.PrintWords Go.Proofs.YtkknehgaebhbeaaW.PrintLast Go.Proofs.YtkknehgaebhbeaaW.PrintMore
def g125 (x : S125) : Prop := (fun s : ByteArray => s.size ≤ maxLen) x.f0 ∧ (fun n : Int => (Lit.int .i64 n).wf = true) x.f1
theorem opens125 : Opens Try.prog 125 k125 g125 :=
  Opens.imp (opens_struct (f := (fun x : S125 => (x.f0, x.f1))) (inv := (fun b => (⟨b.1, b.2⟩ : S125))) Try.underlying125 (by kernel_rfl) (fun _ => rfl) (opensAt_cons rfl (by kernel_rfl) (opens_string Try.underlying9) (opensAt_one rfl (by kernel_rfl) (opens_int (k := .i64) Try.underlying3)))) (fun _ h => h)
def g127 (x : S127) : Prop := (fun s : ByteArray => s.size ≤ maxLen) x.f0 ∧ (fun s : ByteArray => s.size ≤ maxLen) x.f1
theorem opens127 : Opens Try.prog 127 k127 g127 :=
  Opens.imp (opens_struct (f := (fun x : S127 => (x.f0, x.f1))) (inv := (fun b => (⟨b.1, b.2⟩ : S127))) Try.underlying127 (by kernel_rfl) (fun _ => rfl) (opensAt_cons rfl (by kernel_rfl) (opens_string Try.underlying9) (opensAt_one rfl (by kernel_rfl) (opens_string Try.underlying9)))) (fun _ h => h)
def g39 (x : S39) : Prop := (fun n : Int => (Lit.int .i64 n).wf = true) x.f0 ∧ (fun n : Int => (Lit.int .i64 n).wf = true) x.f1 ∧ (fun n : Int => (Lit.int .i64 n).wf = true) x.f2 ∧ (fun l : List Int => l.length ≤ maxLen ∧ ∀ x ∈ l, (fun n : Int => (Lit.int .u8 n).wf = true) x) x.f3 ∧ (fun l : List (S125) => l.length ≤ maxLen ∧ ∀ x ∈ l, g125 x) x.f4 ∧ (fun l : List (S127) => l.length ≤ maxLen ∧ ∀ x ∈ l, g127 x) x.f5
theorem opens39 : Opens Try.prog 39 k39 g39 :=
  Opens.imp (opens_struct (f := (fun x : S39 => (x.f0, x.f1, x.f2, x.f3, x.f4, x.f5))) (inv := (fun b => (⟨b.1, b.2.1, b.2.2.1, b.2.2.2.1, b.2.2.2.2.1, b.2.2.2.2.2⟩ : S39))) Try.underlying39 (by kernel_rfl) (fun _ => rfl) (opensAt_cons rfl (by kernel_rfl) (opens_int (k := .i64) Try.underlying3) (opensAt_cons rfl (by kernel_rfl) (opens_int (k := .i64) Try.underlying3) (opensAt_cons rfl (by kernel_rfl) (opens_int (k := .i64) Try.underlying3) (opensAt_cons rfl (by kernel_rfl) (opens_slice Try.underlying35 (by kernel_rfl) (opens_int (k := .u8) Try.underlying5)) (opensAt_cons rfl (by kernel_rfl) (opens_slice Try.underlying36 (by kernel_rfl) opens125) (opensAt_one rfl (by kernel_rfl) (opens_slice Try.underlying37 (by kernel_rfl) opens127)))))))) (fun _ h => h)
def g50 (x : S50) : Prop := (fun l : List (S39) => l.length ≤ maxLen ∧ ∀ x ∈ l, g39 x) x.f0 ∧ (fun n : Int => (Lit.int .i64 n).wf = true) x.f1
theorem opens50 : Opens Try.prog 50 k50 g50 :=
  Opens.imp (opens_struct (f := (fun x : S50 => (x.f0, x.f1))) (inv := (fun b => (⟨b.1, b.2⟩ : S50))) Try.underlying50 (by kernel_rfl) (fun _ => rfl) (opensAt_cons rfl (by kernel_rfl) (opens_slice Try.underlying48 (by kernel_rfl) opens39) (opensAt_one rfl (by kernel_rfl) (opens_int (k := .i64) Try.underlying3)))) (fun _ h => h)
end Go.Proofs.Ytkknehgaebhbeaa.Kinds
