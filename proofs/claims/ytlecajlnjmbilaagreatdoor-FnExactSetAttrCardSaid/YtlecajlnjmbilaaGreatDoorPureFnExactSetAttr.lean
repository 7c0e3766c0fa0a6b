/- FnExactSetAttr returns true for every table and strings: the program's SetAttr and the reference's answer alike, the table is left as it was, and the answer is new memory. No condition. -/
import Derived.Test.YtlecajlnjmbilaaGreatDoorAskFnExactSetAttr
import Derived.Test.YtlecajlnjmbilaaGreatDoorQ
set_option linter.all false
namespace Go.Proofs.YtlecajlnjmbilaaGreatDoor.Pure
open Go.RowKit Go.Proofs.YtlecajlnjmbilaaGreatDoor.P Go.Proofs.YtlecajlnjmbilaaGreatDoor.Q Go.Proofs.YtlecajlnjmbilaaGreatDoor.Kinds Go.Proofs.ab.aq Go.Proofs.ab.aM Go.Proofs.ab.aT

theorem abc (T:List bm) (nx:Int) (p nm v:ByteArray) (hT:T.length≤1048576) (hA:∀x∈T,hJ x) (hw:cU T≤1000000000000):Bd (nZ T nx p nm v).1:=by
  have hb:=Bd.of T hT hA hw;have hf:=ob T p hA;unfold nZ
  split
  · rename_i c
    have h4:=(pr T nx p ((ready_one T nx p).1 c.1).1).2;have hr:(oc nm (ka T p).1.f5).length≤4:=Nat.le_trans (List.length_filter_le ..) h4
    split
    · unfold pM
      split
      · exact Bd.set1 T _ hT hA hw ⟨hf.d,hf.e,by show(oc nm (ka T p).1.f5).length≤1048576;omega⟩
      · split
        · exact hb
        · refine Bd.set1 T _ hT hA hw ⟨hf.d,hf.e,?_⟩
          show(pN _ _ _ _).length≤1048576
          unfold pN;simp only[List.length_append,List.length_take,List.length_drop,List.length_singleton]
          omega
    · exact hb
  · exact hb
theorem FnExactSetAttr:AskFnExactSetAttr.Pure:=by
  rintro⟨l,nx⟩ s u v ⟨⟨hl,hg⟩,hn⟩ _ _ _;have hM:maxLen=9223372036854775807:=rfl;simp only[hM]at hl
  apply Ev.rounds
  unfold cD.f;refine tM (fun _=>Ev.now _) (fun hsz=> ?_);refine tM (fun _=>Ev.now _) (fun hsu=> ?_);refine tM (fun _=>Ev.now _) (fun hsv=> ?_);obtain⟨R,hR,hz,_⟩:=abd l nx 1048576 (by omega) (by omega) hl (abe l hg);refine Ev.bind hR (tM (fun _=>Ev.now _) (fun h=> ?_));have hz:=hz (by omega);obtain⟨h1,h2⟩:=yd l (by omega);have ht:=abf l nx h1 (aco l h2);have hs:=abg l h2
  have hlen:(l.map ju).length≤1048576:=by simpa using h1
  have hA:∀x∈l.map ju,hJ x:=fun x hx=>(hs x hx).a
  have hw:=abh l
  have hw2:cU (l.map ju)≤1000000000000:=by omega
  have g1:=ye (l.map ju) nx s u v hlen hs (by omega) (by omega);have g2:=yf (l.map ju) nx s u v hlen hs (by omega) (by omega);have hb:=abc (l.map ju) nx s u v hlen hA hw2;generalize nZ (l.map ju) nx s u v=X at g1 g2 hb;exact Ev.bind ht (Ev.bind g1 (Ev.bind g2 (acp (l.map ju) nx X.1 X.2.1 X.2.2 hlen hA hw2 hb)))
end Go.Proofs.YtlecajlnjmbilaaGreatDoor.Pure
