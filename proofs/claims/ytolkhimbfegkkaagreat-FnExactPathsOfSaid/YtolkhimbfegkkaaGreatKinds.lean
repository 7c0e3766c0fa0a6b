/- The kinds of this seat's laws' arguments: what reads as data of their types is of them. No condition. -/
import Derived.Test.YtolkhimbfegkkaaGreatOp
import Derived.Test.YtolkhimbfegkkaaGreatPx0
namespace Go.Proofs.YtolkhimbfegkkaaGreat.Kinds
open Go.RowKit Go.Proofs.YtolkhimbfegkkaaGreat.P Go.Proofs.YtolkhimbfegkkaaGreat.Op Go.Proofs.YtolkhimbfegkkaaGreatW.PrintWords Go.Proofs.YtolkhimbfegkkaaGreatW.PrintLast Go.Proofs.YtolkhimbfegkkaaGreatW.PrintMore
def g105 (x : S105) : Prop := (fun s : ByteArray => s.size ≤ maxLen) x.f0 ∧ (fun n : Int => (Lit.int .i64 n).wf = true) x.f1
theorem opens105 : Opens Tryz.prog 105 k105 g105 :=
  Opens.imp (opens_struct (f := (fun x : S105 => (x.f0, x.f1))) (inv := (fun b => (⟨b.1, b.2⟩ : S105))) Tryz.underlying105 (by kernel_rfl) (fun _ => rfl) (opensAt_cons rfl (by kernel_rfl) (opens_string Tryz.underlying9) (opensAt_one rfl (by kernel_rfl) (opens_int (k := .i64) Tryz.underlying3)))) (fun _ h => h)
def g107 (x : S107) : Prop := (fun s : ByteArray => s.size ≤ maxLen) x.f0 ∧ (fun s : ByteArray => s.size ≤ maxLen) x.f1
theorem opens107 : Opens Tryz.prog 107 k107 g107 :=
  Opens.imp (opens_struct (f := (fun x : S107 => (x.f0, x.f1))) (inv := (fun b => (⟨b.1, b.2⟩ : S107))) Tryz.underlying107 (by kernel_rfl) (fun _ => rfl) (opensAt_cons rfl (by kernel_rfl) (opens_string Tryz.underlying9) (opensAt_one rfl (by kernel_rfl) (opens_string Tryz.underlying9)))) (fun _ h => h)
def g59 (x : S59) : Prop := (fun n : Int => (Lit.int .i64 n).wf = true) x.f0 ∧ (fun n : Int => (Lit.int .i64 n).wf = true) x.f1 ∧ (fun n : Int => (Lit.int .i64 n).wf = true) x.f2 ∧ (fun l : List Int => l.length ≤ maxLen ∧ ∀ x ∈ l, (fun n : Int => (Lit.int .u8 n).wf = true) x) x.f3 ∧ (fun l : List (S105) => l.length ≤ maxLen ∧ ∀ x ∈ l, g105 x) x.f4 ∧ (fun l : List (S107) => l.length ≤ maxLen ∧ ∀ x ∈ l, g107 x) x.f5
theorem opens59 : Opens Tryz.prog 59 k59 g59 :=
  Opens.imp (opens_struct (f := (fun x : S59 => (x.f0, x.f1, x.f2, x.f3, x.f4, x.f5))) (inv := (fun b => (⟨b.1, b.2.1, b.2.2.1, b.2.2.2.1, b.2.2.2.2.1, b.2.2.2.2.2⟩ : S59))) Tryz.underlying59 (by kernel_rfl) (fun _ => rfl) (opensAt_cons rfl (by kernel_rfl) (opens_int (k := .i64) Tryz.underlying3) (opensAt_cons rfl (by kernel_rfl) (opens_int (k := .i64) Tryz.underlying3) (opensAt_cons rfl (by kernel_rfl) (opens_int (k := .i64) Tryz.underlying3) (opensAt_cons rfl (by kernel_rfl) (opens_slice Tryz.underlying43 (by kernel_rfl) (opens_int (k := .u8) Tryz.underlying5)) (opensAt_cons rfl (by kernel_rfl) (opens_slice Tryz.underlying56 (by kernel_rfl) opens105) (opensAt_one rfl (by kernel_rfl) (opens_slice Tryz.underlying57 (by kernel_rfl) opens107)))))))) (fun _ h => h)
def g24 (x : S24) : Prop := (fun l : List (S59) => l.length ≤ maxLen ∧ ∀ x ∈ l, g59 x) x.f0 ∧ (fun n : Int => (Lit.int .i64 n).wf = true) x.f1
theorem opens24 : Opens Tryz.prog 24 k24 g24 :=
  Opens.imp (opens_struct (f := (fun x : S24 => (x.f0, x.f1))) (inv := (fun b => (⟨b.1, b.2⟩ : S24))) Tryz.underlying24 (by kernel_rfl) (fun _ => rfl) (opensAt_cons rfl (by kernel_rfl) (opens_slice Tryz.underlying22 (by kernel_rfl) opens59) (opensAt_one rfl (by kernel_rfl) (opens_int (k := .i64) Tryz.underlying3)))) (fun _ h => h)
end Go.Proofs.YtolkhimbfegkkaaGreat.Kinds
