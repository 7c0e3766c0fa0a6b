/- The kinds of this seat's laws' arguments: what reads as data of their types is of them. No condition. -/
import Derived.Test.YtlecajlnjmbilaaGreatDoorOp
import Derived.Test.YtlecajlnjmbilaaGreatDoorPx0
namespace Go.Proofs.YtlecajlnjmbilaaGreatDoor.Kinds
open Go.RowKit Go.Proofs.YtlecajlnjmbilaaGreatDoor.P Go.Proofs.YtlecajlnjmbilaaGreatDoor.Op Go.Proofs.ae.au Go.Proofs.ae.ba Go.Proofs.ae.bg
def ad6 (x:jz):Prop:=(fun s:ByteArray=>s.size≤maxLen) x.f0∧(fun n:Int=>(Lit.int .i64 n).wf=true) x.f1
theorem abg:Opens Tryz.prog 131 qw ad6:=
  Opens.imp (lF (f:=(fun x:jz=>(x.f0,x.f1))) (inv:=(fun b=>(⟨b.1,b.2⟩:jz))) Tryz.underlying131 (by kernel_rfl) (fun _=>rfl) (ic rfl (by kernel_rfl) (nm Tryz.underlying9) (mc rfl (by kernel_rfl) (kK (k:= .i64) Tryz.underlying3)))) (fun _ h=>h)
def ad7 (x:ka):Prop:=(fun s:ByteArray=>s.size≤maxLen) x.f0∧(fun s:ByteArray=>s.size≤maxLen) x.f1
theorem abh:Opens Tryz.prog 133 qx ad7:=
  Opens.imp (lF (f:=(fun x:ka=>(x.f0,x.f1))) (inv:=(fun b=>(⟨b.1,b.2⟩:ka))) Tryz.underlying133 (by kernel_rfl) (fun _=>rfl) (ic rfl (by kernel_rfl) (nm Tryz.underlying9) (mc rfl (by kernel_rfl) (nm Tryz.underlying9)))) (fun _ h=>h)
def g92 (x:mo):Prop:=(fun n:Int=>(Lit.int .i64 n).wf=true) x.f0∧(fun n:Int=>(Lit.int .i64 n).wf=true) x.f1∧(fun n:Int=>(Lit.int .i64 n).wf=true) x.f2∧(fun l:List Int=>l.length≤maxLen∧∀x∈l,(fun n:Int=>(Lit.int .u8 n).wf=true) x) x.f3∧(fun l:List (jz)=>l.length≤maxLen∧∀x∈l,ad6 x) x.f4∧(fun l:List (ka)=>l.length≤maxLen∧∀x∈l,ad7 x) x.f5
theorem aca:Opens Tryz.prog 92 k92 g92:=
  Opens.imp (lF (f:=(fun x:mo=>(x.f0,x.f1,x.f2,x.f3,x.f4,x.f5))) (inv:=(fun b=>(⟨b.1,b.2.1,b.2.2.1,b.2.2.2.1,b.2.2.2.2.1,b.2.2.2.2.2⟩:mo))) Tryz.underlying92 (by kernel_rfl) (fun _=>rfl) (ic rfl (by kernel_rfl) (kK (k:= .i64) Tryz.underlying3) (ic rfl (by kernel_rfl) (kK (k:= .i64) Tryz.underlying3) (ic rfl (by kernel_rfl) (kK (k:= .i64) Tryz.underlying3) (ic rfl (by kernel_rfl) (kY Tryz.underlying39 (by kernel_rfl) (kK (k:= .u8) Tryz.underlying5)) (ic rfl (by kernel_rfl) (kY Tryz.underlying89 (by kernel_rfl) abg) (mc rfl (by kernel_rfl) (kY Tryz.underlying90 (by kernel_rfl) abh)))))))) (fun _ h=>h)
def g24 (x:S24):Prop:=(fun l:List (mo)=>l.length≤maxLen∧∀x∈l,g92 x) x.f0∧(fun n:Int=>(Lit.int .i64 n).wf=true) x.f1
theorem abN:Opens Tryz.prog 24 k24 g24:=
  Opens.imp (lF (f:=(fun x:S24=>(x.f0,x.f1))) (inv:=(fun b=>(⟨b.1,b.2⟩:S24))) Tryz.underlying24 (by kernel_rfl) (fun _=>rfl) (ic rfl (by kernel_rfl) (kY Tryz.underlying22 (by kernel_rfl) aca) (mc rfl (by kernel_rfl) (kK (k:= .i64) Tryz.underlying3)))) (fun _ h=>h)
end Go.Proofs.YtlecajlnjmbilaaGreatDoor.Kinds
