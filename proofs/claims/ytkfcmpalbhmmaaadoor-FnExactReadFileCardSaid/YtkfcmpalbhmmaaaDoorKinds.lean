/- The kinds of this seat's laws' arguments: what reads as data of their types is of them. No condition. -/
import Derived.Test.YtkfcmpalbhmmaaaDoorOp
import Derived.Test.YtkfcmpalbhmmaaaDoorPx0
namespace Go.Proofs.YtkfcmpalbhmmaaaDoor.Kinds
open Go.RowKit Go.Proofs.YtkfcmpalbhmmaaaDoor.P Go.Proofs.YtkfcmpalbhmmaaaDoor.Op Go.Proofs.YtkfcmpalbhmmaaaDoorW.PrintWords Go.Proofs.YtkfcmpalbhmmaaaDoorW.PrintLast Go.Proofs.YtkfcmpalbhmmaaaDoorW.PrintMore
def g141 (x : S141) : Prop := (fun s : ByteArray => s.size ≤ maxLen) x.f0 ∧ (fun n : Int => (Lit.int .i64 n).wf = true) x.f1
theorem opens141 : Opens Tryd.prog 141 k141 g141 :=
  Opens.imp (opens_struct (f := (fun x : S141 => (x.f0, x.f1))) (inv := (fun b => (⟨b.1, b.2⟩ : S141))) Tryd.underlying141 (by kernel_rfl) (fun _ => rfl) (opensAt_cons rfl (by kernel_rfl) (opens_string Tryd.underlying9) (opensAt_one rfl (by kernel_rfl) (opens_int (k := .i64) Tryd.underlying3)))) (fun _ h => h)
def g143 (x : S143) : Prop := (fun s : ByteArray => s.size ≤ maxLen) x.f0 ∧ (fun s : ByteArray => s.size ≤ maxLen) x.f1
theorem opens143 : Opens Tryd.prog 143 k143 g143 :=
  Opens.imp (opens_struct (f := (fun x : S143 => (x.f0, x.f1))) (inv := (fun b => (⟨b.1, b.2⟩ : S143))) Tryd.underlying143 (by kernel_rfl) (fun _ => rfl) (opensAt_cons rfl (by kernel_rfl) (opens_string Tryd.underlying9) (opensAt_one rfl (by kernel_rfl) (opens_string Tryd.underlying9)))) (fun _ h => h)
def g115 (x : S115) : Prop := (fun n : Int => (Lit.int .i64 n).wf = true) x.f0 ∧ (fun n : Int => (Lit.int .i64 n).wf = true) x.f1 ∧ (fun n : Int => (Lit.int .i64 n).wf = true) x.f2 ∧ (fun l : List Int => l.length ≤ maxLen ∧ ∀ x ∈ l, (fun n : Int => (Lit.int .u8 n).wf = true) x) x.f3 ∧ (fun l : List (S141) => l.length ≤ maxLen ∧ ∀ x ∈ l, g141 x) x.f4 ∧ (fun l : List (S143) => l.length ≤ maxLen ∧ ∀ x ∈ l, g143 x) x.f5
theorem opens115 : Opens Tryd.prog 115 k115 g115 :=
  Opens.imp (opens_struct (f := (fun x : S115 => (x.f0, x.f1, x.f2, x.f3, x.f4, x.f5))) (inv := (fun b => (⟨b.1, b.2.1, b.2.2.1, b.2.2.2.1, b.2.2.2.2.1, b.2.2.2.2.2⟩ : S115))) Tryd.underlying115 (by kernel_rfl) (fun _ => rfl) (opensAt_cons rfl (by kernel_rfl) (opens_int (k := .i64) Tryd.underlying3) (opensAt_cons rfl (by kernel_rfl) (opens_int (k := .i64) Tryd.underlying3) (opensAt_cons rfl (by kernel_rfl) (opens_int (k := .i64) Tryd.underlying3) (opensAt_cons rfl (by kernel_rfl) (opens_slice Tryd.underlying29 (by kernel_rfl) (opens_int (k := .u8) Tryd.underlying5)) (opensAt_cons rfl (by kernel_rfl) (opens_slice Tryd.underlying112 (by kernel_rfl) opens141) (opensAt_one rfl (by kernel_rfl) (opens_slice Tryd.underlying113 (by kernel_rfl) opens143)))))))) (fun _ h => h)
def g40 (x : S40) : Prop := (fun l : List (S115) => l.length ≤ maxLen ∧ ∀ x ∈ l, g115 x) x.f0 ∧ (fun n : Int => (Lit.int .i64 n).wf = true) x.f1
theorem opens40 : Opens Tryd.prog 40 k40 g40 :=
  Opens.imp (opens_struct (f := (fun x : S40 => (x.f0, x.f1))) (inv := (fun b => (⟨b.1, b.2⟩ : S40))) Tryd.underlying40 (by kernel_rfl) (fun _ => rfl) (opensAt_cons rfl (by kernel_rfl) (opens_slice Tryd.underlying38 (by kernel_rfl) opens115) (opensAt_one rfl (by kernel_rfl) (opens_int (k := .i64) Tryd.underlying3)))) (fun _ h => h)
end Go.Proofs.YtkfcmpalbhmmaaaDoor.Kinds
