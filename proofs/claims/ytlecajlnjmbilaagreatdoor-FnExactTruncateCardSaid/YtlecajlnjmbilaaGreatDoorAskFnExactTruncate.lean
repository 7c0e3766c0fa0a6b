/- What is to be proved in plain words of FnExactTruncate. -/
import Derived.Test.YtlecajlnjmbilaaGreatDoorKinds
import Derived.Test.YtlecajlnjmbilaaGreatDoorPx17
namespace Go.Proofs.YtlecajlnjmbilaaGreatDoor.AskFnExactTruncate
open Go.RowKit Go.Proofs.YtlecajlnjmbilaaGreatDoor.P Go.Proofs.YtlecajlnjmbilaaGreatDoor.Op Go.Proofs.ab.ar Go.Proofs.ab.aV Go.Proofs.ab.aZ Go.Proofs.YtlecajlnjmbilaaGreatDoor.Kinds
def Pure:Prop:=∀(x0:S24) (x1:ByteArray) (x2:Int),g24 x0→(fun s:ByteArray=>s.size≤maxLen) x1→(fun n:Int=>(Lit.int .i64 n).wf=true) x2→∃k,cp.f k x0.f0 x0.f1 x1 x2=some true
end Go.Proofs.YtlecajlnjmbilaaGreatDoor.AskFnExactTruncate
