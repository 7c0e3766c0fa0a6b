/- What is to be proved in plain words of FnExactHardLink. -/
import Derived.Test.YtlecajlnjmbilaaGreatDoorKinds
import Derived.Test.YtlecajlnjmbilaaGreatDoorPx15
namespace Go.Proofs.YtlecajlnjmbilaaGreatDoor.AskFnExactHardLink
open Go.RowKit Go.Proofs.YtlecajlnjmbilaaGreatDoor.P Go.Proofs.YtlecajlnjmbilaaGreatDoor.Op Go.Proofs.ab.ar Go.Proofs.ab.aH Go.Proofs.ab.aN Go.Proofs.YtlecajlnjmbilaaGreatDoor.Kinds
def Pure:Prop:=∀(x0:S24) (x1:ByteArray) (x2:ByteArray),g24 x0→(fun s:ByteArray=>s.size≤maxLen) x1→(fun s:ByteArray=>s.size≤maxLen) x2→∃k,cy.f k x0.f0 x0.f1 x1 x2=some true
end Go.Proofs.YtlecajlnjmbilaaGreatDoor.AskFnExactHardLink
