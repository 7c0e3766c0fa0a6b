/- The kinds of this seat's laws' arguments: what reads as data of their types is of them. No condition. -/
import Derived.Test.YtlecajlnjmbilaaGreatDoorOp
import Derived.Test.YtlecajlnjmbilaaGreatDoorPx0
namespace Go.Proofs.YtlecajlnjmbilaaGreatDoor.Kinds
open Go.RowKit Go.Proofs.YtlecajlnjmbilaaGreatDoor.P Go.Proofs.YtlecajlnjmbilaaGreatDoor.Op Go.Proofs.ab.ar Go.Proofs.ab.aH Go.Proofs.ab.aN Go.Proofs.Tryz
def ad5 (x:ky):Prop:=(fun s:ByteArray=>s.size≤maxLen) x.f0∧(fun n:Int=>(Lit.int .i64 n).wf=true) x.f1
theorem abc:Opens Tryz.prog 131 rI ad5:=
  Opens.imp (mn (f:=(fun x:ky=>(x.f0,x.f1))) (inv:=(fun b=>(⟨b.1,b.2⟩:ky))) underlying131 (by kernel_rfl) (fun _=>rfl) (iV rfl (by kernel_rfl) (og underlying9) (nA rfl (by kernel_rfl) (mv (k:= .i64) underlying3)))) (fun _ h=>h)
def ad6 (x:kz):Prop:=(fun s:ByteArray=>s.size≤maxLen) x.f0∧(fun s:ByteArray=>s.size≤maxLen) x.f1
theorem abd:Opens Tryz.prog 133 rJ ad6:=
  Opens.imp (mn (f:=(fun x:kz=>(x.f0,x.f1))) (inv:=(fun b=>(⟨b.1,b.2⟩:kz))) underlying133 (by kernel_rfl) (fun _=>rfl) (iV rfl (by kernel_rfl) (og underlying9) (nA rfl (by kernel_rfl) (og underlying9)))) (fun _ h=>h)
def g92 (x:nL):Prop:=(fun n:Int=>(Lit.int .i64 n).wf=true) x.f0∧(fun n:Int=>(Lit.int .i64 n).wf=true) x.f1∧(fun n:Int=>(Lit.int .i64 n).wf=true) x.f2∧(fun l:List Int=>l.length≤maxLen∧∀x∈l,(fun n:Int=>(Lit.int .u8 n).wf=true) x) x.f3∧(fun l:List (ky)=>l.length≤maxLen∧∀x∈l,ad5 x) x.f4∧(fun l:List (kz)=>l.length≤maxLen∧∀x∈l,ad6 x) x.f5
theorem ace:Opens Tryz.prog 92 k92 g92:=
  Opens.imp (mn (f:=(fun x:nL=>(x.f0,x.f1,x.f2,x.f3,x.f4,x.f5))) (inv:=(fun b=>(⟨b.1,b.2.1,b.2.2.1,b.2.2.2.1,b.2.2.2.2.1,b.2.2.2.2.2⟩:nL))) underlying92 (by kernel_rfl) (fun _=>rfl) (iV rfl (by kernel_rfl) (mv (k:= .i64) underlying3) (iV rfl (by kernel_rfl) (mv (k:= .i64) underlying3) (iV rfl (by kernel_rfl) (mv (k:= .i64) underlying3) (iV rfl (by kernel_rfl) (nB underlying39 (by kernel_rfl) (mv (k:= .u8) underlying5)) (iV rfl (by kernel_rfl) (nB underlying89 (by kernel_rfl) abc) (nA rfl (by kernel_rfl) (nB underlying90 (by kernel_rfl) abd)))))))) (fun _ h=>h)
def g24 (x:S24):Prop:=(fun l:List (nL)=>l.length≤maxLen∧∀x∈l,g92 x) x.f0∧(fun n:Int=>(Lit.int .i64 n).wf=true) x.f1
theorem abI:Opens Tryz.prog 24 k24 g24:=
  Opens.imp (mn (f:=(fun x:S24=>(x.f0,x.f1))) (inv:=(fun b=>(⟨b.1,b.2⟩:S24))) underlying24 (by kernel_rfl) (fun _=>rfl) (iV rfl (by kernel_rfl) (nB underlying22 (by kernel_rfl) ace) (nA rfl (by kernel_rfl) (mv (k:= .i64) underlying3)))) (fun _ h=>h)
end Go.Proofs.YtlecajlnjmbilaaGreatDoor.Kinds
