/- The kinds of this seat's laws' arguments: what reads as data of their types is of them. No condition. -/
import Derived.Test.YtlecajlnjmbilaaGreatDoorOp
import Derived.Test.YtlecajlnjmbilaaGreatDoorPx0
namespace Go.Proofs.YtlecajlnjmbilaaGreatDoor.Kinds
open Go.RowKit Go.Proofs.YtlecajlnjmbilaaGreatDoor.P Go.Proofs.YtlecajlnjmbilaaGreatDoor.Op Go.Proofs.ab.ar Go.Proofs.ab.aV Go.Proofs.ab.aZ
def adW (x:jv):Prop:=(fun s:ByteArray=>s.size≤maxLen) x.f0∧(fun n:Int=>(Lit.int .i64 n).wf=true) x.f1
theorem abd:Opens Tryz.prog 131 qj adW:=
  Opens.imp (lr (f:=(fun x:jv=>(x.f0,x.f1))) (inv:=(fun b=>(⟨b.1,b.2⟩:jv))) Tryz.underlying131 (by kernel_rfl) (fun _=>rfl) (ia rfl (by kernel_rfl) (mv Tryz.underlying9) (lR rfl (by kernel_rfl) (ly (k:= .i64) Tryz.underlying3)))) (fun _ h=>h)
def adX (x:jw):Prop:=(fun s:ByteArray=>s.size≤maxLen) x.f0∧(fun s:ByteArray=>s.size≤maxLen) x.f1
theorem abe:Opens Tryz.prog 133 qk adX:=
  Opens.imp (lr (f:=(fun x:jw=>(x.f0,x.f1))) (inv:=(fun b=>(⟨b.1,b.2⟩:jw))) Tryz.underlying133 (by kernel_rfl) (fun _=>rfl) (ia rfl (by kernel_rfl) (mv Tryz.underlying9) (lR rfl (by kernel_rfl) (mv Tryz.underlying9)))) (fun _ h=>h)
def g92 (x:ma):Prop:=(fun n:Int=>(Lit.int .i64 n).wf=true) x.f0∧(fun n:Int=>(Lit.int .i64 n).wf=true) x.f1∧(fun n:Int=>(Lit.int .i64 n).wf=true) x.f2∧(fun l:List Int=>l.length≤maxLen∧∀x∈l,(fun n:Int=>(Lit.int .u8 n).wf=true) x) x.f3∧(fun l:List (jv)=>l.length≤maxLen∧∀x∈l,adW x) x.f4∧(fun l:List (jw)=>l.length≤maxLen∧∀x∈l,adX x) x.f5
theorem ab_:Opens Tryz.prog 92 k92 g92:=
  Opens.imp (lr (f:=(fun x:ma=>(x.f0,x.f1,x.f2,x.f3,x.f4,x.f5))) (inv:=(fun b=>(⟨b.1,b.2.1,b.2.2.1,b.2.2.2.1,b.2.2.2.2.1,b.2.2.2.2.2⟩:ma))) Tryz.underlying92 (by kernel_rfl) (fun _=>rfl) (ia rfl (by kernel_rfl) (ly (k:= .i64) Tryz.underlying3) (ia rfl (by kernel_rfl) (ly (k:= .i64) Tryz.underlying3) (ia rfl (by kernel_rfl) (ly (k:= .i64) Tryz.underlying3) (ia rfl (by kernel_rfl) (lS Tryz.underlying39 (by kernel_rfl) (ly (k:= .u8) Tryz.underlying5)) (ia rfl (by kernel_rfl) (lS Tryz.underlying89 (by kernel_rfl) abd) (lR rfl (by kernel_rfl) (lS Tryz.underlying90 (by kernel_rfl) abe)))))))) (fun _ h=>h)
def g24 (x:S24):Prop:=(fun l:List (ma)=>l.length≤maxLen∧∀x∈l,g92 x) x.f0∧(fun n:Int=>(Lit.int .i64 n).wf=true) x.f1
theorem abJ:Opens Tryz.prog 24 k24 g24:=
  Opens.imp (lr (f:=(fun x:S24=>(x.f0,x.f1))) (inv:=(fun b=>(⟨b.1,b.2⟩:S24))) Tryz.underlying24 (by kernel_rfl) (fun _=>rfl) (ia rfl (by kernel_rfl) (lS Tryz.underlying22 (by kernel_rfl) ab_) (lR rfl (by kernel_rfl) (ly (k:= .i64) Tryz.underlying3)))) (fun _ h=>h)
end Go.Proofs.YtlecajlnjmbilaaGreatDoor.Kinds
