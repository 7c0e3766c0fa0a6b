/- What is to be proved in plain words of FnExactRemoveDir. -/
import Derived.Test.YtlecajlnjmbilaaGreatDoorKinds
import Derived.Test.YtlecajlnjmbilaaGreatDoorPx17
namespace Go.Proofs.YtlecajlnjmbilaaGreatDoor.AskFnExactRemoveDir
open Go.RowKit Go.Proofs.YtlecajlnjmbilaaGreatDoor.P Go.Proofs.YtlecajlnjmbilaaGreatDoor.Op Go.Proofs.ab.ao Go.Proofs.ab.aE Go.Proofs.ab.aI Go.Proofs.YtlecajlnjmbilaaGreatDoor.Kinds
def Pure:Prop:=∀(x0:S24) (x1:ByteArray),g24 x0→(fun s:ByteArray=>s.size≤maxLen) x1→∃k,cp.f k x0.f0 x0.f1 x1=some true
end Go.Proofs.YtlecajlnjmbilaaGreatDoor.AskFnExactRemoveDir
