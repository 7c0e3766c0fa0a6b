/- FnExactHardLink returns true for every table and strings: the program's HardLink and the reference's answer alike, the table is left as it was, and the answer is new memory. No condition. -/
import Derived.Test.YtlecajlnjmbilaaGreatDoorAskFnExactHardLink
import Derived.Test.YtlecajlnjmbilaaGreatDoorQ
set_option linter.all false
namespace Go.Proofs.YtlecajlnjmbilaaGreatDoor.Pure
open Go.RowKit Go.Proofs.YtlecajlnjmbilaaGreatDoor.P Go.Proofs.YtlecajlnjmbilaaGreatDoor.Q Go.Proofs.YtlecajlnjmbilaaGreatDoor.Kinds Go.Proofs.ab.ar Go.Proofs.ab.aH Go.Proofs.ab.aN

theorem aa7 (T:List aX) (nx:Int) (p q:ByteArray) (hT:T.length≤1048576) (hA:∀x∈T,gu x) (hw:cX T≤1000000000000):Bd (qx T nx p q).1:=by
  have hb:=Bd.of T hT hA hw;unfold qx
  by_cases c:mc T nx [p,q]=true∧q.toList≠([47]:List UInt8)
  · rw[if_pos c];have h30:=qV T nx [p,q] c.1;unfold v_
    split
    · split
      · rename_i c1
        split
        · split
          · exact hb
          · have hx:=pe T q hA;have hf:=pf T p hA;have t:=lQ T nx ((mu T nx p q).1 c.1).1;have h10:=(nP _ (t.ok _ (sH T q c1).1)).1;have hl:=nz (fl T q).2.1 (iv T p).1.f0 (fl T q).1.f4;exact Bd.set2 T (qy (fl T q).1 (oN (fl T q).2.1 (iv T p).1.f0 (fl T q).1.f4)) (ry (iv T p).1 ((iv T p).1.f2+1)) (by omega) hA hw ⟨hx.d,by show(oN _ _ _).length≤1048576;omega,hx.t⟩ ⟨hf.d,hf.e,hf.t⟩
        · exact hb
      · exact hb
    · exact hb
  · rw[if_neg c];exact hb
theorem FnExactHardLink:AskFnExactHardLink.Pure:=by
  rintro⟨l,nx⟩ s u ⟨⟨hl,hg⟩,hn⟩ _ _;have hM:maxLen=9223372036854775807:=rfl;simp only[hM]at hl
  apply Ev.rounds
  unfold cy.f;refine wa (fun _=>Ev.now _) (fun hsz=> ?_);refine wa (fun _=>Ev.now _) (fun hsu=> ?_);obtain⟨R,hR,hz,_⟩:=aa8 l nx 1048576 (by omega) (by omega) hl (aa9 l hg);refine Ev.bind hR (wa (fun _=>Ev.now _) (fun h=> ?_));have hz:=hz (by omega);obtain⟨h1,h2⟩:=zm l (by omega);have ht:=aa_ l nx h1 (acb l h2);have hs:=aba l h2
  have hlen:(l.map ks).length≤1048576:=by simpa using h1
  have hA:∀x∈l.map ks,gu x:=fun x hx=>(hs x hx).a
  have hw:=abb l
  have hw2:cX (l.map ks)≤1000000000000:=by omega
  have g1:=xA (l.map ks) nx s u hlen hs (by omega) (by omega);have g2:=xB (l.map ks) nx s u hlen hs (by omega) (by omega);have hb:=aa7 (l.map ks) nx s u hlen hA hw2;generalize qx (l.map ks) nx s u=X at g1 g2 hb;exact Ev.bind ht (Ev.bind g1 (Ev.bind g2 (acd (l.map ks) nx X.1 X.2.1 X.2.2 hlen hA hw2 hb)))
end Go.Proofs.YtlecajlnjmbilaaGreatDoor.Pure
