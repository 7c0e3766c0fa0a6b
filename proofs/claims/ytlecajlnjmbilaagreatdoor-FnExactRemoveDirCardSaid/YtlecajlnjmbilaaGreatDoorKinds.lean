/- The kinds of this seat's laws' arguments: what reads as data of their types is of them. No condition. -/
import Derived.Test.YtlecajlnjmbilaaGreatDoorOp
import Derived.Test.YtlecajlnjmbilaaGreatDoorPx0
namespace Go.Proofs.YtlecajlnjmbilaaGreatDoor.Kinds
open Go.RowKit Go.Proofs.YtlecajlnjmbilaaGreatDoor.P Go.Proofs.YtlecajlnjmbilaaGreatDoor.Op Go.Proofs.ab.ao Go.Proofs.ab.aE Go.Proofs.ab.aI
def aec (x:kz):Prop:=(fun s:ByteArray=>s.size≤maxLen) x.f0∧(fun n:Int=>(Lit.int .i64 n).wf=true) x.f1
theorem abf:Opens Tryz.prog 131 qN aec:=
  Opens.imp (lS (f:=(fun x:kz=>(x.f0,x.f1))) (inv:=(fun b=>(⟨b.1,b.2⟩:kz))) Tryz.underlying131 (by kernel_rfl) (fun _=>rfl) (iQ rfl (by kernel_rfl) (nE Tryz.underlying9) (mw rfl (by kernel_rfl) (lV (k:= .i64) Tryz.underlying3)))) (fun _ h=>h)
def aed (x:kA):Prop:=(fun s:ByteArray=>s.size≤maxLen) x.f0∧(fun s:ByteArray=>s.size≤maxLen) x.f1
theorem abg:Opens Tryz.prog 133 qO aed:=
  Opens.imp (lS (f:=(fun x:kA=>(x.f0,x.f1))) (inv:=(fun b=>(⟨b.1,b.2⟩:kA))) Tryz.underlying133 (by kernel_rfl) (fun _=>rfl) (iQ rfl (by kernel_rfl) (nE Tryz.underlying9) (mw rfl (by kernel_rfl) (nE Tryz.underlying9)))) (fun _ h=>h)
def g92 (x:nq):Prop:=(fun n:Int=>(Lit.int .i64 n).wf=true) x.f0∧(fun n:Int=>(Lit.int .i64 n).wf=true) x.f1∧(fun n:Int=>(Lit.int .i64 n).wf=true) x.f2∧(fun l:List Int=>l.length≤maxLen∧∀x∈l,(fun n:Int=>(Lit.int .u8 n).wf=true) x) x.f3∧(fun l:List (kz)=>l.length≤maxLen∧∀x∈l,aec x) x.f4∧(fun l:List (kA)=>l.length≤maxLen∧∀x∈l,aed x) x.f5
theorem ach:Opens Tryz.prog 92 k92 g92:=
  Opens.imp (lS (f:=(fun x:nq=>(x.f0,x.f1,x.f2,x.f3,x.f4,x.f5))) (inv:=(fun b=>(⟨b.1,b.2.1,b.2.2.1,b.2.2.2.1,b.2.2.2.2.1,b.2.2.2.2.2⟩:nq))) Tryz.underlying92 (by kernel_rfl) (fun _=>rfl) (iQ rfl (by kernel_rfl) (lV (k:= .i64) Tryz.underlying3) (iQ rfl (by kernel_rfl) (lV (k:= .i64) Tryz.underlying3) (iQ rfl (by kernel_rfl) (lV (k:= .i64) Tryz.underlying3) (iQ rfl (by kernel_rfl) (mx Tryz.underlying39 (by kernel_rfl) (lV (k:= .u8) Tryz.underlying5)) (iQ rfl (by kernel_rfl) (mx Tryz.underlying89 (by kernel_rfl) abf) (mw rfl (by kernel_rfl) (mx Tryz.underlying90 (by kernel_rfl) abg)))))))) (fun _ h=>h)
def g24 (x:S24):Prop:=(fun l:List (nq)=>l.length≤maxLen∧∀x∈l,g92 x) x.f0∧(fun n:Int=>(Lit.int .i64 n).wf=true) x.f1
theorem abN:Opens Tryz.prog 24 k24 g24:=
  Opens.imp (lS (f:=(fun x:S24=>(x.f0,x.f1))) (inv:=(fun b=>(⟨b.1,b.2⟩:S24))) Tryz.underlying24 (by kernel_rfl) (fun _=>rfl) (iQ rfl (by kernel_rfl) (mx Tryz.underlying22 (by kernel_rfl) ach) (mw rfl (by kernel_rfl) (lV (k:= .i64) Tryz.underlying3)))) (fun _ h=>h)
end Go.Proofs.YtlecajlnjmbilaaGreatDoor.Kinds
