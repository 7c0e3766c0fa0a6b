/- The kinds of this seat's laws' arguments: what reads as data of their types is of them. No condition. -/
import Derived.Test.YtbcfiaenpcgpfabOp
import Derived.Test.YtbcfiaenpcgpfabPx0
namespace Go.Proofs.Ytbcfiaenpcgpfab.Kinds
open Go.RowKit Go.Proofs.Ytbcfiaenpcgpfab.P Go.Proofs.Ytbcfiaenpcgpfab.Op Go.Proofs.YtbcfiaenpcgpfabW.PrintWords Go.Proofs.YtbcfiaenpcgpfabW.PrintLast Go.Proofs.YtbcfiaenpcgpfabW.PrintMore
def g91 (x : S91) : Prop := (fun s : ByteArray => s.size ≤ maxLen) x.f0 ∧ (fun n : Int => (Lit.int .i64 n).wf = true) x.f1
theorem opens91 : Opens Try.prog 91 k91 g91 :=
  Opens.imp (opens_struct (f := (fun x : S91 => (x.f0, x.f1))) (inv := (fun b => (⟨b.1, b.2⟩ : S91))) Try.underlying91 (by kernel_rfl) (fun _ => rfl) (opensAt_cons rfl (by kernel_rfl) (opens_string Try.underlying9) (opensAt_one rfl (by kernel_rfl) (opens_int (k := .i64) Try.underlying3)))) (fun _ h => h)
def g94 (x : S94) : Prop := (fun s : ByteArray => s.size ≤ maxLen) x.f0 ∧ (fun s : ByteArray => s.size ≤ maxLen) x.f1
theorem opens94 : Opens Try.prog 94 k94 g94 :=
  Opens.imp (opens_struct (f := (fun x : S94 => (x.f0, x.f1))) (inv := (fun b => (⟨b.1, b.2⟩ : S94))) Try.underlying94 (by kernel_rfl) (fun _ => rfl) (opensAt_cons rfl (by kernel_rfl) (opens_string Try.underlying9) (opensAt_one rfl (by kernel_rfl) (opens_string Try.underlying9)))) (fun _ h => h)
def g48 (x : S48) : Prop := (fun n : Int => (Lit.int .i64 n).wf = true) x.f0 ∧ (fun n : Int => (Lit.int .i64 n).wf = true) x.f1 ∧ (fun n : Int => (Lit.int .i64 n).wf = true) x.f2 ∧ (fun l : List Int => l.length ≤ maxLen ∧ ∀ x ∈ l, (fun n : Int => (Lit.int .u8 n).wf = true) x) x.f3 ∧ (fun l : List (S91) => l.length ≤ maxLen ∧ ∀ x ∈ l, g91 x) x.f4 ∧ (fun l : List (S94) => l.length ≤ maxLen ∧ ∀ x ∈ l, g94 x) x.f5
theorem opens48 : Opens Try.prog 48 k48 g48 :=
  Opens.imp (opens_struct (f := (fun x : S48 => (x.f0, x.f1, x.f2, x.f3, x.f4, x.f5))) (inv := (fun b => (⟨b.1, b.2.1, b.2.2.1, b.2.2.2.1, b.2.2.2.2.1, b.2.2.2.2.2⟩ : S48))) Try.underlying48 (by kernel_rfl) (fun _ => rfl) (opensAt_cons rfl (by kernel_rfl) (opens_int (k := .i64) Try.underlying3) (opensAt_cons rfl (by kernel_rfl) (opens_int (k := .i64) Try.underlying3) (opensAt_cons rfl (by kernel_rfl) (opens_int (k := .i64) Try.underlying3) (opensAt_cons rfl (by kernel_rfl) (opens_slice Try.underlying22 (by kernel_rfl) (opens_int (k := .u8) Try.underlying5)) (opensAt_cons rfl (by kernel_rfl) (opens_slice Try.underlying45 (by kernel_rfl) opens91) (opensAt_one rfl (by kernel_rfl) (opens_slice Try.underlying46 (by kernel_rfl) opens94)))))))) (fun _ h => h)
end Go.Proofs.Ytbcfiaenpcgpfab.Kinds
