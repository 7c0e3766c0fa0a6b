/- The kinds of this seat's laws' arguments: what reads as data of their types is of them. No condition. -/
import Derived.Test.YtmndnegpclaidaaOp
import Derived.Test.YtmndnegpclaidaaPx0
namespace Go.Proofs.Ytmndnegpclaidaa.Kinds
open Go.RowKit Go.Proofs.Ytmndnegpclaidaa.P Go.Proofs.Ytmndnegpclaidaa.Op Go.Proofs.YtmndnegpclaidaaW.PrintWords Go.Proofs.YtmndnegpclaidaaW.PrintLast Go.Proofs.YtmndnegpclaidaaW.PrintMore
def g93 (x : S93) : Prop := (fun s : ByteArray => s.size ≤ maxLen) x.f0 ∧ (fun n : Int => (Lit.int .i64 n).wf = true) x.f1
theorem opens93 : Opens Try.prog 93 k93 g93 :=
  Opens.imp (opens_struct (f := (fun x : S93 => (x.f0, x.f1))) (inv := (fun b => (⟨b.1, b.2⟩ : S93))) Try.underlying93 (by kernel_rfl) (fun _ => rfl) (opensAt_cons rfl (by kernel_rfl) (opens_string Try.underlying9) (opensAt_one rfl (by kernel_rfl) (opens_int (k := .i64) Try.underlying3)))) (fun _ h => h)
def g95 (x : S95) : Prop := (fun s : ByteArray => s.size ≤ maxLen) x.f0 ∧ (fun s : ByteArray => s.size ≤ maxLen) x.f1
theorem opens95 : Opens Try.prog 95 k95 g95 :=
  Opens.imp (opens_struct (f := (fun x : S95 => (x.f0, x.f1))) (inv := (fun b => (⟨b.1, b.2⟩ : S95))) Try.underlying95 (by kernel_rfl) (fun _ => rfl) (opensAt_cons rfl (by kernel_rfl) (opens_string Try.underlying9) (opensAt_one rfl (by kernel_rfl) (opens_string Try.underlying9)))) (fun _ h => h)
def g29 (x : S29) : Prop := (fun n : Int => (Lit.int .i64 n).wf = true) x.f0 ∧ (fun n : Int => (Lit.int .i64 n).wf = true) x.f1 ∧ (fun n : Int => (Lit.int .i64 n).wf = true) x.f2 ∧ (fun l : List Int => l.length ≤ maxLen ∧ ∀ x ∈ l, (fun n : Int => (Lit.int .u8 n).wf = true) x) x.f3 ∧ (fun l : List (S93) => l.length ≤ maxLen ∧ ∀ x ∈ l, g93 x) x.f4 ∧ (fun l : List (S95) => l.length ≤ maxLen ∧ ∀ x ∈ l, g95 x) x.f5
theorem opens29 : Opens Try.prog 29 k29 g29 :=
  Opens.imp (opens_struct (f := (fun x : S29 => (x.f0, x.f1, x.f2, x.f3, x.f4, x.f5))) (inv := (fun b => (⟨b.1, b.2.1, b.2.2.1, b.2.2.2.1, b.2.2.2.2.1, b.2.2.2.2.2⟩ : S29))) Try.underlying29 (by kernel_rfl) (fun _ => rfl) (opensAt_cons rfl (by kernel_rfl) (opens_int (k := .i64) Try.underlying3) (opensAt_cons rfl (by kernel_rfl) (opens_int (k := .i64) Try.underlying3) (opensAt_cons rfl (by kernel_rfl) (opens_int (k := .i64) Try.underlying3) (opensAt_cons rfl (by kernel_rfl) (opens_slice Try.underlying25 (by kernel_rfl) (opens_int (k := .u8) Try.underlying5)) (opensAt_cons rfl (by kernel_rfl) (opens_slice Try.underlying26 (by kernel_rfl) opens93) (opensAt_one rfl (by kernel_rfl) (opens_slice Try.underlying27 (by kernel_rfl) opens95)))))))) (fun _ h => h)
def g24 (x : S24) : Prop := (fun l : List (S29) => l.length ≤ maxLen ∧ ∀ x ∈ l, g29 x) x.f0 ∧ (fun n : Int => (Lit.int .i64 n).wf = true) x.f1
theorem opens24 : Opens Try.prog 24 k24 g24 :=
  Opens.imp (opens_struct (f := (fun x : S24 => (x.f0, x.f1))) (inv := (fun b => (⟨b.1, b.2⟩ : S24))) Try.underlying24 (by kernel_rfl) (fun _ => rfl) (opensAt_cons rfl (by kernel_rfl) (opens_slice Try.underlying22 (by kernel_rfl) opens29) (opensAt_one rfl (by kernel_rfl) (opens_int (k := .i64) Try.underlying3)))) (fun _ h => h)
end Go.Proofs.Ytmndnegpclaidaa.Kinds
