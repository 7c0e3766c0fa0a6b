/- What is to be proved in plain words of FnExactSetAttr. -/
import Derived.Test.YtlecajlnjmbilaaGreatDoorKinds
import Derived.Test.YtlecajlnjmbilaaGreatDoorPx15
namespace Go.Proofs.YtlecajlnjmbilaaGreatDoor.AskFnExactSetAttr
open Go.RowKit Go.Proofs.YtlecajlnjmbilaaGreatDoor.P Go.Proofs.YtlecajlnjmbilaaGreatDoor.Op Go.Proofs.ab.aq Go.Proofs.ab.aM Go.Proofs.ab.aT Go.Proofs.YtlecajlnjmbilaaGreatDoor.Kinds
def Pure:Prop:=∀(x0:S24) (x1:ByteArray) (x2:ByteArray) (x3:ByteArray),g24 x0→(fun s:ByteArray=>s.size≤maxLen) x1→(fun s:ByteArray=>s.size≤maxLen) x2→(fun s:ByteArray=>s.size≤maxLen) x3→∃k,cD.f k x0.f0 x0.f1 x1 x2 x3=some true
end Go.Proofs.YtlecajlnjmbilaaGreatDoor.AskFnExactSetAttr
