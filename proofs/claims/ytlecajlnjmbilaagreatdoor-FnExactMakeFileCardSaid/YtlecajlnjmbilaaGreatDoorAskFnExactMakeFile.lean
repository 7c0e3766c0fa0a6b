/- What is to be proved in plain words of FnExactMakeFile. -/
import Derived.Test.YtlecajlnjmbilaaGreatDoorKinds
import Derived.Test.YtlecajlnjmbilaaGreatDoorPx15
namespace Go.Proofs.YtlecajlnjmbilaaGreatDoor.AskFnExactMakeFile
open Go.RowKit Go.Proofs.YtlecajlnjmbilaaGreatDoor.P Go.Proofs.YtlecajlnjmbilaaGreatDoor.Op Go.Proofs.ab.aq Go.Proofs.ab.aH Go.Proofs.ab.aK Go.Proofs.YtlecajlnjmbilaaGreatDoor.Kinds
def Pure:Prop:=∀(x0:S24) (x1:ByteArray),g24 x0→(fun s:ByteArray=>s.size≤maxLen) x1→∃k,cw.f k x0.f0 x0.f1 x1=some true
end Go.Proofs.YtlecajlnjmbilaaGreatDoor.AskFnExactMakeFile
