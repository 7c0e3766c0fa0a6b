/- FnExactRemoveDir returns true for every table and string: the program's RemoveDir and the reference's answer alike, the table is left as it was, and the answer is new memory. No condition. -/
import Derived.Test.YtlecajlnjmbilaaGreatDoorAskFnExactRemoveDir
import Derived.Test.YtlecajlnjmbilaaGreatDoorQ
set_option linter.all false
namespace Go.Proofs.YtlecajlnjmbilaaGreatDoor.Pure
open Go.RowKit Go.Proofs.YtlecajlnjmbilaaGreatDoor.P Go.Proofs.YtlecajlnjmbilaaGreatDoor.Q Go.Proofs.YtlecajlnjmbilaaGreatDoor.Kinds Go.Proofs.ab.ao Go.Proofs.ab.aE Go.Proofs.ab.aI

theorem ace (T:List aZ) (nx:Int) (p:ByteArray) (hT:T.length≤1048576) (hA:∀x∈T,gu x) (hw:cQ T≤1000000000000):Bd (tV T nx p).1:=by
  have hb:=Bd.of T hT hA hw;unfold tV
  split
  · unfold aa9
    split
    · split
      · split
        · exact hb
        · have hx:=mv T p hA;exact Bd.filter (Bd.set1 T (oo (il T p).1 (delN (il T p).2.1 (il T p).1.f4)) hT hA hw ⟨hx.d,Nat.le_trans (List.length_filter_le ..) hx.e,hx.t⟩) _
      · exact hb
    · exact hb
  · exact hb
theorem FnExactRemoveDir:AskFnExactRemoveDir.Pure:=by
  rintro⟨l,nx⟩ s ⟨⟨hl,hg⟩,hn⟩ _;have hM:maxLen=9223372036854775807:=rfl;simp only[hM]at hl
  apply Ev.rounds
  unfold cp.f;refine wO (fun _=>Ev.now _) (fun hsz=> ?_);obtain⟨R,hR,hz,_⟩:=aa_ l nx 1048576 (by omega) (by omega) hl (aba l hg);refine Ev.bind hR (wO (fun _=>Ev.now _) (fun h=> ?_));have hz:=hz (by omega);obtain⟨h1,h2⟩:=yx l (by omega);have ht:=abb l nx h1 (acf l h2);have hs:=abc l h2
  have hlen:(l.map kp).length≤1048576:=by simpa using h1
  have hA:∀x∈l.map kp,gu x:=fun x hx=>(hs x hx).a
  have hw:=abd l
  have hw2:cQ (l.map kp)≤1000000000000:=by omega
  have g1:=abe (l.map kp) nx s hlen hs (by omega);have g2:=yy (l.map kp) nx s hlen hs (by omega);have hb:=ace (l.map kp) nx s hlen hA hw2;generalize tV (l.map kp) nx s=X at g1 g2 hb;exact Ev.bind ht (Ev.bind g1 (Ev.bind g2 (acg (l.map kp) nx X.1 X.2.1 X.2.2 hlen hA hw2 hb)))
end Go.Proofs.YtlecajlnjmbilaaGreatDoor.Pure
