/- FnLooked returns true for all bytes: on a drawn table, bent or not, Stat and List of the program and of the reference answer the same plain words. No condition. -/
import Derived.Test.YtkfoopcpihmbmaaGreatDoorQ
import Derived.Test.YtkfoopcpihmbmaaGreatDoorPx16
set_option linter.all false
namespace Go.Proofs.YtkfoopcpihmbmaaGreatDoor.Pure
open Go.RowKit Go.Proofs.YtkfoopcpihmbmaaGreatDoor.P Go.Proofs.YtkfoopcpihmbmaaGreatDoor.Q Go.Proofs.ab.av Go.Proofs.ab.aQ Go.Proofs.ab.aT

theorem uz (l:List Int) (hb:Byt l) (hl:l.length≤4611686018427387904):∃(T:List aW) (nx:Int) (s:ByteArray),Ev (fun k=>ic.f k l) (T,nx,s)∧Gb T∧s.size≤100:=by
  obtain⟨h1,e1,c1⟩:=aaT l hb hl;obtain⟨T,nx,i2,h2,e2,g,c2⟩:=aaU c1 h1;obtain⟨s,i3,h3,e3,hs,c3⟩:=uA c2 h2;unfold ic.f;exact⟨T,nx,s,Ev.bind e1 (Ev.bind e2 (Ev.bind e3 (Ev.now _))),g,hs⟩
theorem uB (l:List Int) (hb:Byt l) (hl:l.length≤4611686018427387904):∃(T:List aW) (nx:Int) (s:ByteArray),Ev (fun k=>ie.f k l) (T,nx,s)∧Gb T∧s.size≤100:=by
  obtain⟨T,nx,s,e,g,hs⟩:=uz l hb hl;unfold ie.f;exact⟨T,nx,s,Ev.bind e (Ev.now _),g,hs⟩
theorem xD (T:List aW) (s:ByteArray) (h:(cp T s).2≠0):(cp T s).1.f0=0:=by
  unfold cp at h⊢
  split
  · split
    · rename_i c d
      rw[if_pos c,if_pos d]at h;exact absurd rfl h
    · rfl
  · rfl
theorem FnLooked:fg.Pure:=by
  intro l hl hm hw
  have hb:Byt l:=fun x hx=>wf8 (hw x hx)
  apply Ev.rounds
  unfold fg.f mr.f;simp only[Option.bind_some];refine vO (fun _=>Ev.now _) (fun hbig=> ?_)
  have hsm:l.length≤1048576:=by simp at hbig;omega
  obtain⟨T,nx,s,eT,g,hs⟩:=uB l hb (by omega)
  have hT:T.length≤1048576:=by have:=g.n;omega
  have hA:∀x∈T,fJ x:=fun x hx=>(g.s x hx).a
  refine Ev.bind eT (Ev.bind (sw T nx s hT hA (by omega)) (Ev.bind (jk T nx s hT hA (by omega)) (Ev.bind (xE T nx s hT hA (by omega)) (Ev.bind (xF T nx s hT hA (by omega)) (bx rfl (bx rfl ?_))))));simp only[sg]
  by_cases c:(cp T s).2=0
  · refine bx c ?_
    by_cases d:(cp T s).1.f1=2
    · exact bx (by simp only[pN,if_pos c,if_pos d]) (Ev.now _)
    · have e:pN T s=([],3):=by simp only[pN,if_pos c,if_neg d]
      rw[e];refine cH (by decide) (bx rfl (cH (by rw[c];decide) (bx rfl (vO (fun _=>Ev.now _) (fun _=>eZ (Ev.now _) ?_)))));simp only[bne_iff_ne,ne_eq,d,not_false_eq_true]
  · have e:pN T s=([],(cp T s).2):=by simp only[pN,if_neg c]
    rw[e];exact cH c (bx (xD T s c) (bx rfl (cH c (bx rfl (Ev.now _)))))
end Go.Proofs.YtkfoopcpihmbmaaGreatDoor.Pure
