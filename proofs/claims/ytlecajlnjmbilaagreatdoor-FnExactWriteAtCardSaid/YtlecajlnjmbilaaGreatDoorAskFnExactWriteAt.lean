/- What is to be proved in plain words of FnExactWriteAt. -/
import Derived.Test.YtlecajlnjmbilaaGreatDoorKinds
import Derived.Test.YtlecajlnjmbilaaGreatDoorPx14
namespace Go.Proofs.YtlecajlnjmbilaaGreatDoor.AskFnExactWriteAt
open Go.RowKit Go.Proofs.YtlecajlnjmbilaaGreatDoor.P Go.Proofs.YtlecajlnjmbilaaGreatDoor.Op Go.Proofs.ae.au Go.Proofs.ae.ba Go.Proofs.ae.bg Go.Proofs.YtlecajlnjmbilaaGreatDoor.Kinds
def Pure:Prop:=∀(x0:S24) (x1:ByteArray) (x2:Int) (x3:List Int),g24 x0→(fun s:ByteArray=>s.size≤maxLen) x1→(fun n:Int=>(Lit.int .i64 n).wf=true) x2→(fun l:List Int=>l.length≤maxLen∧∀x∈l,(fun n:Int=>(Lit.int .u8 n).wf=true) x) x3→∃k,cA.f k x0.f0 x0.f1 x1 x2 x3=some true
end Go.Proofs.YtlecajlnjmbilaaGreatDoor.AskFnExactWriteAt
