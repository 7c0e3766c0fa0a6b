/- The kinds of this seat's laws' arguments: what reads as data of their types is of them. No condition. -/
import Derived.Test.YtlecajlnjmbilaaGreatDoorOp
import Derived.Test.YtlecajlnjmbilaaGreatDoorPx0
namespace Go.Proofs.YtlecajlnjmbilaaGreatDoor.Kinds
open Go.RowKit Go.Proofs.YtlecajlnjmbilaaGreatDoor.P Go.Proofs.YtlecajlnjmbilaaGreatDoor.Op Go.Proofs.ab.aq Go.Proofs.ab.aH Go.Proofs.ab.aK
def aeb (x:kt):Prop:=(fun s:ByteArray=>s.size≤maxLen) x.f0∧(fun n:Int=>(Lit.int .i64 n).wf=true) x.f1
theorem abh:Opens Tryz.prog 131 rf aeb:=
  Opens.imp (mc (f:=(fun x:kt=>(x.f0,x.f1))) (inv:=(fun b=>(⟨b.1,b.2⟩:kt))) Tryz.underlying131 (by kernel_rfl) (fun _=>rfl) (iQ rfl (by kernel_rfl) (nX Tryz.underlying9) (nn rfl (by kernel_rfl) (mh (k:= .i64) Tryz.underlying3)))) (fun _ h=>h)
def aec (x:ku):Prop:=(fun s:ByteArray=>s.size≤maxLen) x.f0∧(fun s:ByteArray=>s.size≤maxLen) x.f1
theorem abi:Opens Tryz.prog 133 rg aec:=
  Opens.imp (mc (f:=(fun x:ku=>(x.f0,x.f1))) (inv:=(fun b=>(⟨b.1,b.2⟩:ku))) Tryz.underlying133 (by kernel_rfl) (fun _=>rfl) (iQ rfl (by kernel_rfl) (nX Tryz.underlying9) (nn rfl (by kernel_rfl) (nX Tryz.underlying9)))) (fun _ h=>h)
def g92 (x:nD):Prop:=(fun n:Int=>(Lit.int .i64 n).wf=true) x.f0∧(fun n:Int=>(Lit.int .i64 n).wf=true) x.f1∧(fun n:Int=>(Lit.int .i64 n).wf=true) x.f2∧(fun l:List Int=>l.length≤maxLen∧∀x∈l,(fun n:Int=>(Lit.int .u8 n).wf=true) x) x.f3∧(fun l:List (kt)=>l.length≤maxLen∧∀x∈l,aeb x) x.f4∧(fun l:List (ku)=>l.length≤maxLen∧∀x∈l,aec x) x.f5
theorem ach:Opens Tryz.prog 92 k92 g92:=
  Opens.imp (mc (f:=(fun x:nD=>(x.f0,x.f1,x.f2,x.f3,x.f4,x.f5))) (inv:=(fun b=>(⟨b.1,b.2.1,b.2.2.1,b.2.2.2.1,b.2.2.2.2.1,b.2.2.2.2.2⟩:nD))) Tryz.underlying92 (by kernel_rfl) (fun _=>rfl) (iQ rfl (by kernel_rfl) (mh (k:= .i64) Tryz.underlying3) (iQ rfl (by kernel_rfl) (mh (k:= .i64) Tryz.underlying3) (iQ rfl (by kernel_rfl) (mh (k:= .i64) Tryz.underlying3) (iQ rfl (by kernel_rfl) (np Tryz.underlying39 (by kernel_rfl) (mh (k:= .u8) Tryz.underlying5)) (iQ rfl (by kernel_rfl) (np Tryz.underlying89 (by kernel_rfl) abh) (nn rfl (by kernel_rfl) (np Tryz.underlying90 (by kernel_rfl) abi)))))))) (fun _ h=>h)
def g24 (x:S24):Prop:=(fun l:List (nD)=>l.length≤maxLen∧∀x∈l,g92 x) x.f0∧(fun n:Int=>(Lit.int .i64 n).wf=true) x.f1
theorem abN:Opens Tryz.prog 24 k24 g24:=
  Opens.imp (mc (f:=(fun x:S24=>(x.f0,x.f1))) (inv:=(fun b=>(⟨b.1,b.2⟩:S24))) Tryz.underlying24 (by kernel_rfl) (fun _=>rfl) (iQ rfl (by kernel_rfl) (np Tryz.underlying22 (by kernel_rfl) ach) (nn rfl (by kernel_rfl) (mh (k:= .i64) Tryz.underlying3)))) (fun _ h=>h)
end Go.Proofs.YtlecajlnjmbilaaGreatDoor.Kinds
