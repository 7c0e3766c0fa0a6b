/- The kinds of this seat's laws' arguments: what reads as data of their types is of them. No condition. -/
import Derived.Test.YtlecajlnjmbilaaGreatDoorOp
import Derived.Test.YtlecajlnjmbilaaGreatDoorPx0
namespace Go.Proofs.YtlecajlnjmbilaaGreatDoor.Kinds
open Go.RowKit Go.Proofs.YtlecajlnjmbilaaGreatDoor.P Go.Proofs.YtlecajlnjmbilaaGreatDoor.Op Go.Proofs.ab.aq Go.Proofs.ab.aM Go.Proofs.ab.aT Go.Proofs.Tryz
def aed (x:kd):Prop:=(fun s:ByteArray=>s.size≤maxLen) x.f0∧(fun n:Int=>(Lit.int .i64 n).wf=true) x.f1
theorem abi:Opens Tryz.prog 131 qH aed:=
  Opens.imp (lJ (f:=(fun x:kd=>(x.f0,x.f1))) (inv:=(fun b=>(⟨b.1,b.2⟩:kd))) underlying131 (by kernel_rfl) (fun _=>rfl) (iy rfl (by kernel_rfl) (nB underlying9) (mn rfl (by kernel_rfl) (lM (k:= .i64) underlying3)))) (fun _ h=>h)
def aee (x:ke):Prop:=(fun s:ByteArray=>s.size≤maxLen) x.f0∧(fun s:ByteArray=>s.size≤maxLen) x.f1
theorem abj:Opens Tryz.prog 133 qI aee:=
  Opens.imp (lJ (f:=(fun x:ke=>(x.f0,x.f1))) (inv:=(fun b=>(⟨b.1,b.2⟩:ke))) underlying133 (by kernel_rfl) (fun _=>rfl) (iy rfl (by kernel_rfl) (nB underlying9) (mn rfl (by kernel_rfl) (nB underlying9)))) (fun _ h=>h)
def g92 (x:nc):Prop:=(fun n:Int=>(Lit.int .i64 n).wf=true) x.f0∧(fun n:Int=>(Lit.int .i64 n).wf=true) x.f1∧(fun n:Int=>(Lit.int .i64 n).wf=true) x.f2∧(fun l:List Int=>l.length≤maxLen∧∀x∈l,(fun n:Int=>(Lit.int .u8 n).wf=true) x) x.f3∧(fun l:List (kd)=>l.length≤maxLen∧∀x∈l,aed x) x.f4∧(fun l:List (ke)=>l.length≤maxLen∧∀x∈l,aee x) x.f5
theorem acq:Opens Tryz.prog 92 k92 g92:=
  Opens.imp (lJ (f:=(fun x:nc=>(x.f0,x.f1,x.f2,x.f3,x.f4,x.f5))) (inv:=(fun b=>(⟨b.1,b.2.1,b.2.2.1,b.2.2.2.1,b.2.2.2.2.1,b.2.2.2.2.2⟩:nc))) underlying92 (by kernel_rfl) (fun _=>rfl) (iy rfl (by kernel_rfl) (lM (k:= .i64) underlying3) (iy rfl (by kernel_rfl) (lM (k:= .i64) underlying3) (iy rfl (by kernel_rfl) (lM (k:= .i64) underlying3) (iy rfl (by kernel_rfl) (mo underlying39 (by kernel_rfl) (lM (k:= .u8) underlying5)) (iy rfl (by kernel_rfl) (mo underlying89 (by kernel_rfl) abi) (mn rfl (by kernel_rfl) (mo underlying90 (by kernel_rfl) abj)))))))) (fun _ h=>h)
def g24 (x:S24):Prop:=(fun l:List (nc)=>l.length≤maxLen∧∀x∈l,g92 x) x.f0∧(fun n:Int=>(Lit.int .i64 n).wf=true) x.f1
theorem abU:Opens Tryz.prog 24 k24 g24:=
  Opens.imp (lJ (f:=(fun x:S24=>(x.f0,x.f1))) (inv:=(fun b=>(⟨b.1,b.2⟩:S24))) underlying24 (by kernel_rfl) (fun _=>rfl) (iy rfl (by kernel_rfl) (mo underlying22 (by kernel_rfl) acq) (mn rfl (by kernel_rfl) (lM (k:= .i64) underlying3)))) (fun _ h=>h)
end Go.Proofs.YtlecajlnjmbilaaGreatDoor.Kinds
