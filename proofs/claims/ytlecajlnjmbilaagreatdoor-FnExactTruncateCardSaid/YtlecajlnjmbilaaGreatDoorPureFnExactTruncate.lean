/- FnExactTruncate returns true for every table, string and number: the program's Truncate and the reference's answer alike, the table is left as it was, and the answer is new memory. No condition. -/
import Derived.Test.YtlecajlnjmbilaaGreatDoorAskFnExactTruncate
import Derived.Test.YtlecajlnjmbilaaGreatDoorQ
set_option linter.all false
namespace Go.Proofs.YtlecajlnjmbilaaGreatDoor.Pure
open Go.RowKit Go.Proofs.YtlecajlnjmbilaaGreatDoor.P Go.Proofs.YtlecajlnjmbilaaGreatDoor.Q Go.Proofs.YtlecajlnjmbilaaGreatDoor.Kinds Go.Proofs.ab.ar Go.Proofs.ab.aV Go.Proofs.ab.aZ

theorem wW (T:List bg) (nx:Int) (p:ByteArray) (n:Int) (hT:T.length≤1048576) (hA:∀x∈T,hO x) (hw:cM T≤1000000000000):Bd (mu T nx p n).1:=by
  have hf:=nD T p hA;unfold mu
  by_cases c:nE T nx [p]=true∧(0≤n∧n≤100)
  · rw[if_pos c]
    by_cases d:(kx T p).2=0
    · rw[if_pos d];refine Bd.set1 T _ hT hA hw ⟨?_,hf.e,hf.t⟩
      show(oh _ _).length≤1048576
      rw[pg];have:=c.2
      omega
    · rw[if_neg d];exact Bd.of T hT hA hw
  · rw[if_neg c];exact Bd.of T hT hA hw
theorem FnExactTruncate:AskFnExactTruncate.Pure:=by
  rintro⟨l,nx⟩ s n ⟨⟨hl,hg⟩,hn⟩ _ _;have hM:maxLen=9223372036854775807:=rfl;simp only[hM]at hl
  apply Ev.rounds
  unfold cp.f;refine vl (fun _=>Ev.now _) (fun hsz=> ?_);obtain⟨R,hR,hz,_⟩:=aa9 l nx 1048576 (by omega) (by omega) hl (aa_ l hg);refine Ev.bind hR (vl (fun _=>Ev.now _) (fun h=> ?_));have hz:=hz (by omega);obtain⟨h1,h2⟩:=wX l (by omega);have ht:=aba l nx h1 (ab8 l h2);have hs:=abb l h2
  have hlen:(l.map jm).length≤1048576:=by simpa using h1
  have hA:∀x∈l.map jm,hO x:=fun x hx=>(hs x hx).a
  have hw:=abc l
  have hw2:cM (l.map jm)≤1000000000000:=by omega
  have g1:=vm (l.map jm) nx s n hlen hs (by omega);have g2:=vn (l.map jm) nx s n hlen hs (by omega);have hb:=wW (l.map jm) nx s n hlen hA hw2;generalize mu (l.map jm) nx s n=X at g1 g2 hb;exact Ev.bind ht (Ev.bind g1 (Ev.bind g2 (ab9 (l.map jm) nx X.1 X.2.1 X.2.2 hlen hA hw2 hb)))
end Go.Proofs.YtlecajlnjmbilaaGreatDoor.Pure
