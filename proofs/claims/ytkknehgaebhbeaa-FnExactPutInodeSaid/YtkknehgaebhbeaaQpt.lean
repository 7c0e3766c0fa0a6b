/- PutText: what the program's and the reference's functions answer. No condition. -/
import Derived.Test.YtkknehgaebhbeaaQf
import Derived.Test.YtkknehgaebhbeaaPx8
import Derived.Test.YtkknehgaebhbeaaPx9
namespace Go.Proofs.Ytkknehgaebhbeaa.Q
open Go.RowKit Go.Proofs.Ytkknehgaebhbeaa.P Go.Proofs.YtkknehgaebhbeaaW.PrintWords Go.Proofs.YtkknehgaebhbeaaW.PrintLast Go.Proofs.YtkknehgaebhbeaaW.PrintMore

def putText (b : List Int) (s : ByteArray) : List Int := putNum b (s.size : Int) ++ bytesOf s
theorem spec_putText (b : List Int) (hl : b.length ≤ 4611686018426) (s : ByteArray) (hs : s.size ≤ 4611686018426) : Ev (fun k => spec_PutText.f k b s) (putText b s) := by
  unfold spec_PutText.f
  have := putNum_length b (s.size : Int)
  exact Ev.bind (spec_putNum b (by omega) _) (evP (by omega) (Ev.now _))
theorem impl_putText (b : List Int) (hl : b.length ≤ 4611686018426) (s : ByteArray) (hs : s.size ≤ 4611686018426) : Ev (fun k => impl_PutText.f k b s) (putText b s) := by
  unfold impl_PutText.f
  have := putNum_length b (s.size : Int)
  exact Ev.bind (impl_putNum b (by omega) _) (evP (by omega) (Ev.now _))
theorem putText_length (b : List Int) (s : ByteArray) : (putText b s).length ≤ b.length + s.size + 4 := by
  have := putNum_length b (s.size : Int)
  simp [putText, bytesOf_length]; omega
theorem byt_putText {b : List Int} (hb : Byt b) (s : ByteArray) : Byt (putText b s) := byt_app (byt_putNum hb _) (byt_bytesOf s)

end Go.Proofs.Ytkknehgaebhbeaa.Q
