-- Printed walks.
import Derived.Test.YtlecajlnjmbilaaGreatDoorPx14
set_option linter.all false
namespace Go.Proofs.YtlecajlnjmbilaaGreatDoor.P
open Go.RowKit Go.Proofs.ab.aq Go.Proofs.ab.aM Go.Proofs.ab.aT Go.Proofs.Tryz
attribute [local go_sem] gn gp iF iG fC fD gq gr

def cD.T16:Bool×List (List Nat×List Nat):=(true,[([],[]),([],[]),([1],[1]),([0,2,2],[0,2]),([3],[3])])
def cD.B16:List Nat:=[0,0,2,7,15]
theorem cD.adL:g_ .any (opsOf Tryz.f8 16)=cD.T16:=by kernel_rfl
theorem cD.acR:eX cD.T16.2 cD.B16=true:=by kernel_rfl
section
variable {α:Type}{d:Kd α}{e base n:Nat}{ok:Nat→Prop}{w w1:World}{A:Option Addr}{c:Nat}{v:Value}{xs:List α}
theorem nS (_:ae (Kd.N d e w base ok (.slice A n c) xs)) (hd:Kd.N d e w1 base ok (.slice A n c) xs:=by(with_reducible repeat(first|apply Kd.dx|apply Kd.dy|apply Kd.eo));exact ae.out (by first|(with_reducible assumption)|assumption)):Kd.C d w1 A xs.length xs:=(Kd.jn hd).2.2
theorem nl (h:ae (Kd.N d e w base ok (.slice A n c) xs)):xs.length≤c:=by have:=(Kd.jn h.out).1;have:=(Kd.jn h.out).2.1;omega
theorem nb (h:ae (Kd.N d e w base ok v xs)) (hb:Below w.heap.size w w1):ae (Kd.N d e w1 base ok v xs):=⟨Kd.kY h.out hb⟩
theorem nk {S:Nat→Prop}(h:ae (Kd.N d e w base ok v xs)) (hk:Kept w w1 S) (hn:∀k,ok k→¬S k):ae (Kd.N d e w1 base ok v xs):=⟨Kd.acS h.out hk hn⟩
theorem adM (h:ae (Kd.N d e w base ok v xs)):ae (Kd.N d e w.drew base ok v xs):=⟨Kd.eo h.out⟩
theorem aek (h:Kd.N d e w base (fun k=>base≤k) v xs) (lo B:Nat) (hl:lo≤base) (hB:B≤base):ae (Kd.N d e w B (fun k=>lo≤k∧k<w.heap.size) v xs):=⟨Kd.kZ (Kd.dm (Kd.pz h) (fun _ hk=>⟨Nat.le_trans hl hk.1,hk.2⟩)) hB⟩
end
def cD.f (k:Nat) (ag:List nc) (aj:Int) (a1:ByteArray) (a2:ByteArray) (a3:ByteArray):Option Bool:=
 if(a1.size:Int)>1048576 then some true else if(a2.size:Int)>1048576 then some true else if(a3.size:Int)>1048576 then some true else(jo.f k ag aj 1048576).bind fun R=>if R<0 then some true else
 (iA.f k ag aj).bind fun t=>(ch.f k t.1 t.2 a1 a2 a3).bind fun p=>(aZ.f k t.1 t.2 a1 a2 a3).bind fun s=>
 (fL.f k s.1 s.2.1 p.1 p.2.1).bind fun e1=>(fL.f k t.1 t.2 t.1 t.2).bind fun e2=>(eB.f k t.1 1).bind fun mt=>
 (eB.f k s.1 1).bind fun m=>(fi.f k m.2 s.2.1 1).bind fun q=>
 if s.2.2=p.2.2∧e1=true∧e2=true∧¬mt.1<0∧¬q<0∧q=m.1∧m.2.length=s.1.length then some true else none
set_option maxHeartbeats 8000000 in
set_option maxRecDepth 100000 in
theorem cD.calls (k:Nat) (bo:Option Addr) (bg:Nat) (ag:List nc) (aj:Int) (a1:ByteArray) (a2:ByteArray) (a3:ByteArray) (r:Bool) (w:World) (cv:Kd.C k92 w bo ag.length ag) (cA:ag.length≤bg) (h:cD.f k ag aj a1 a2 a3=some r) (hG:GOk w:=by exact gk_ oB (by first|(with_reducible assumption)|assumption)):
  Calls Tryz.prog 8 #[.agg #[.slice bo ag.length bg,.int .i64 aj],.string a1,.string a2,.string a3] w fun e w'=>e= .returned (.bool r)∧Below w.heap.size w w':=by
 have HG:=ae.mk hG;clear hG;have sB:=ae.mk cv;have sC:=ae.mk cA;clear cv cA;have HB:=am (Below.refl w.heap.size w);unfold cD.f at h
 split at h
 case isTrue hg=>
  have cg0:decide ((a1.size:Int)>1048576)=true:=decide_eq_true hg;have dg0:decide (1048576<(a1.size:Int))=true:=decide_eq_true (by omega);obtain rfl:=Option.some.inj h;clear h hg
  go_enter func8,ntmps8
  go_wp2
  go_ret
  exact⟨rfl,oB⟩
 case isFalse hg=>
 have cg0:decide ((a1.size:Int)>1048576)=false:=decide_eq_false hg;have dg0:decide (1048576<(a1.size:Int))=false:=decide_eq_false (by omega);clear hg
 split at h
 case isTrue hg=>
  have cg1:decide ((a2.size:Int)>1048576)=true:=decide_eq_true hg;have dg1:decide (1048576<(a2.size:Int))=true:=decide_eq_true (by omega);obtain rfl:=Option.some.inj h;clear h hg
  go_enter func8,ntmps8
  go_wp2
  go_ret
  exact⟨rfl,oB⟩
 case isFalse hg=>
 have cg1:decide ((a2.size:Int)>1048576)=false:=decide_eq_false hg;have dg1:decide (1048576<(a2.size:Int))=false:=decide_eq_false (by omega);clear hg
 split at h
 case isTrue hg=>
  have cg2:decide ((a3.size:Int)>1048576)=true:=decide_eq_true hg;have dg2:decide (1048576<(a3.size:Int))=true:=decide_eq_true (by omega);obtain rfl:=Option.some.inj h;clear h hg
  go_enter func8,ntmps8
  go_wp2
  go_ret
  exact⟨rfl,oB⟩
 case isFalse hg=>
 have cg2:decide ((a3.size:Int)>1048576)=false:=decide_eq_false hg;have dg2:decide (1048576<(a3.size:Int))=false:=decide_eq_false (by omega);clear hg;replace h:=bA h;obtain⟨R,H1,h⟩:=h
 split at h
 case isTrue hR=>
  have cR:decide (R<0)=true:=decide_eq_true hR;obtain rfl:=Option.some.inj h;clear h hR
  go_enter func8,ntmps8
  go_wp2_with fail
  refine(jo.calls k _ _ ag aj 1048576 R _ (kC sB) sC.out H1.out).mono ?_;rintro e w1 ⟨rfl,hb⟩;replace HB:=hB HB hb
  go_wp2
  go_ret
  exact⟨rfl,oB⟩
 case isFalse hR=>
 have cR:decide (R<0)=false:=decide_eq_false hR;clear hR;replace h:=bA h;obtain⟨⟨tl,tn⟩,H2,h⟩:=h;replace h:=bA h;obtain⟨⟨p1,p2,p3⟩,H3,h⟩:=h;replace h:=bA h;obtain⟨⟨s1,s2,s3⟩,H4,h⟩:=h;replace h:=bA h;obtain⟨e1,H5,h⟩:=h;replace h:=bA h;obtain⟨e2,H6,h⟩:=h;replace h:=bA h;obtain⟨⟨mt,ml⟩,H7,h⟩:=h;replace h:=bA h;obtain⟨⟨mk,mg⟩,H8,h⟩:=h;replace h:=bA h;obtain⟨q,H9,h⟩:=h
 split at h
 case isFalse=>cases h
 case isTrue hh=>
 try dsimp only at hh
 obtain⟨rfl,rfl,rfl,hmt,hq,rfl,l4⟩:=hh;obtain rfl:=Option.some.inj h;clear h;have cm:decide (mt<0)=false:=decide_eq_false hmt;have cq:decide (q<0)=false:=decide_eq_false hq;clear hmt hq;have L4:=ae.mk l4;clear l4
 try dsimp only at H3 H4 H5 H6 H7 H8 H9 L4
 go_enter func8,ntmps8
 go_wp2_with fail
 refine(jo.calls k _ _ ag aj 1048576 R _ (kC sB) sC.out H1.out).mono ?_;rintro e w1 ⟨rfl,hb⟩
 have n1:w.heap.size+1≤w1.heap.size:=by have:=hb.size;simpa using this
 have fk:=aab hb;replace hb:=bold hb;replace HB:=hB HB hb;clear hb;have ph:=z2 fk;have pj:=na fk
 go_wp2_with fail
 refine(iA.calls k _ _ ag aj tl tn _ (kC sB) sC.out H2.out).mono ?_;rintro e w2 ⟨v_t0,rfl,acT,hb⟩;obtain⟨A_t0,c_t0,rfl⟩:=Kd.eM acT;have aac:=vH acT (w1.heap.size) w.heap.size (by simp) (ah oB);clear acT
 have n2:w1.heap.size≤w2.heap.size:=by have:=hb.size;simpa using this
 replace fk:=fV fk hb;replace HB:=hB HB hb;clear hb;replace ph:=z2 fk;replace pj:=na fk
 go_wp2_with fail
 refine(ch.calls k _ _ tl tn a1 a2 a3 p1 p2 s3 _ (rS aac) (rl aac) H3.out).mono ?_;rintro e w3 ⟨v_w0,rfl,acU,hb⟩;obtain⟨A_w0,c_w0,rfl⟩:=Kd.kJ acU;have jq:=aek acU (w2.heap.size) w.heap.size (by simp) (ah oB);clear acU
 have n3:w2.heap.size≤w3.heap.size:=by have:=hb.size;simpa using this
 replace fk:=fV fk hb;replace aac:=sb aac hb;replace HB:=hB HB hb;clear hb;replace ph:=z2 fk;replace pj:=na fk;clear aac
 go_wp2_with fail
 refine(iA.calls k _ _ ag aj tl tn _ (kC sB) sC.out H2.out).mono ?_;rintro e w4 ⟨v_x0,rfl,aad,hb⟩;obtain⟨ael,aem,rfl⟩:=Kd.eM aad;have nN:=vH aad (w3.heap.size+1) w.heap.size (by simp) (ah oB);clear aad
 have n4:w3.heap.size+1≤w4.heap.size:=by have:=hb.size;simpa using this
 have gi:=aab hb;replace hb:=bold hb;replace fk:=fV fk hb;replace jq:=nb jq hb;replace HB:=hB HB hb;clear hb;replace ph:=z2 fk;replace pj:=na fk;have qF:=z2 gi;have qG:=na gi
 go_wp2_with fail
 refine(aZ.calls k _ _ tl tn a1 a2 a3 s1 s2 s3 _ (rS nN) (rl nN) H4.out).mono ?_;rintro e w5 ⟨v_g0,rfl,xw,hb⟩;obtain⟨A_g0,c_g0,rfl⟩:=Kd.eM xw;have kb:=vH xw (w4.heap.size+1) w.heap.size (by simp) (ah oB);clear xw
 have n5:w4.heap.size+1≤w5.heap.size:=by have:=hb.size;simpa using this
 have oO:=aab hb;replace hb:=bold hb;replace fk:=fV fk hb;replace gi:=fV gi hb;replace jq:=nb jq hb;replace nN:=sb nN hb;replace HB:=hB HB hb;clear hb;replace ph:=z2 fk;replace pj:=na fk;replace qF:=z2 gi;replace qG:=na gi;have abV:=z2 oO;have abW:=na oO
 go_wp2_with fail
 refine(fL.calls k _ _ s1 s2 _ _ p1 p2 true _ (rS kb) (rl kb) (nS jq) (nl jq) H5.out).mono ?_;rintro e w6 ⟨rfl,hb⟩
 have n6:w5.heap.size+1≤w6.heap.size:=by have:=hb.size;simpa using this
 have iB:=aab hb;replace hb:=bold hb;replace fk:=fV fk hb;replace gi:=fV gi hb;replace oO:=fV oO hb;replace jq:=nb jq hb;replace nN:=sb nN hb;replace kb:=sb kb hb;replace HB:=hB HB hb;clear hb;replace ph:=z2 fk;replace pj:=na fk;replace qF:=z2 gi;replace qG:=na gi;replace abV:=z2 oO;replace abW:=na oO;have sf:=z2 iB;have sg:=na iB
 go_wp2_with fail
 replace fk:=wZ fk;replace gi:=wZ gi;replace oO:=wZ oO;replace iB:=wZ iB;replace jq:=adM jq;replace nN:=acB nN;replace kb:=acB kb;replace HB:=am (au HB.out);have n7:w6.heap.size≤w6.drew.heap.size:=Nat.le_refl _;clear ph pj qF qG abV abW sf sg;refine mb 5 (fun w'=>w'.cell? ⟨w4.heap.size,0,none⟩=some (.slice ael tl.length aem)∧w'.cell? ⟨w4.heap.size,1,none⟩=some (.int .i64 tn)∧w'.cell? ⟨w.heap.size,0,none⟩=some (.slice bo ag.length bg)∧w'.cell? ⟨w.heap.size,1,none⟩=some (.int .i64 aj)) cD.adL cD.acR oH (fun hHeld av eH=> ?_);generalize w6.drew=w7 at HB hHeld n7 fk gi oO iB jq nN kb⊢;refine fO 0 62 av eH hHeld ?_;refine fO 1 63 av eH hHeld ?_;refine kQ 2 64 av (fun K hK=> ?_);refine l_ 64 func12 (iA.calls k _ _ ag aj tl tn _ (kC sB) sC.out H2.out) ?_;rintro e w8 ⟨v_y0,rfl,acV,hb⟩;obtain⟨A_y0,c_y0,rfl⟩:=Kd.eM acV;have aae:=vH acV (w7.heap.size) w.heap.size (by simp) (ah oB);clear acV;refine⟨_,rfl,?_⟩
 have n8:w7.heap.size≤w8.heap.size:=by have:=hb.size;simpa using this
 replace fk:=fV fk hb;replace gi:=fV gi hb;replace oO:=fV oO hb;replace iB:=fV iB hb;replace jq:=nb jq hb;replace nN:=sb nN hb;replace kb:=sb kb hb;replace HB:=hB HB hb;clear hb hHeld;refine eP hK 64 oH (fun hHeld=> ?_);clear hK K;refine kQ 3 65 av (fun K hK=> ?_);refine l_ 65 func14 (fL.calls k _ _ tl tn _ _ tl tn true _ (rS nN) (rl nN) (rS aae) (rl aae) H6.out) ?_;rintro e w9 ⟨rfl,hb⟩;refine⟨_,rfl,?_⟩
 have n9:w8.heap.size≤w9.heap.size:=by have:=hb.size;simpa using this
 replace fk:=fV fk hb;replace gi:=fV gi hb;replace oO:=fV oO hb;replace iB:=fV iB hb;replace jq:=nb jq hb;replace nN:=sb nN hb;replace kb:=sb kb hb;replace aae:=sb aae hb;replace HB:=hB HB hb;clear hb hHeld;refine eP hK 65 oH (fun hHeld=> ?_);clear hK K;refine bx 4 66 av ?_;refine lZ av ?_;clear hHeld av eH;have ph:=z2 fk;have pj:=na fk;have qF:=z2 gi;have qG:=na gi;have abV:=z2 oO;have abW:=na oO;have sf:=z2 iB;have sg:=na iB;clear aae
 go_wp2_with fail
 refine(pA.calls k _ _ tl tn 1 mt ml w _ HB.out nN.out H7.out).mono ?_;rintro e w10 ⟨rfl,aad,hb,hk⟩;have n10:w9.heap.size≤w10.heap.size:=hk.1;replace jq:=nk jq hk (fun q h h'=>by omega);replace kb:=sk kb hk (fun q h h'=>by omega);replace fk:=sD fk hk (fun h=>by omega);replace gi:=sD gi hk (fun h=>by omega);clear oO abV abW;replace iB:=sD iB hk (fun h=>by omega);clear nN;clear aad;replace HB:=ae.mk hb;clear hb hk;replace ph:=z2 fk;replace pj:=na fk;replace qF:=z2 gi;replace qG:=na gi;replace sf:=z2 iB;replace sg:=na iB
 go_wp2_with fail
 refine(fL.calls k _ _ s1 s2 _ _ p1 p2 true _ (rS kb) (rl kb) (nS jq) (nl jq) H5.out).mono ?_;rintro e w11 ⟨rfl,hb⟩
 have n11:w10.heap.size≤w11.heap.size:=by have:=hb.size;simpa using this
 replace fk:=fV fk hb;replace gi:=fV gi hb;replace iB:=fV iB hb;replace jq:=nb jq hb;replace kb:=sb kb hb;replace HB:=hB HB hb;clear hb;replace ph:=z2 fk;replace pj:=na fk;replace qF:=z2 gi;replace qG:=na gi;replace sf:=z2 iB;replace sg:=na iB
 go_wp2_with fail
 refine(pA.calls k _ _ s1 s2 1 q mg w _ HB.out kb.out H8.out).mono ?_;rintro e w12 ⟨rfl,xw,hb,hk⟩;have n12:w11.heap.size≤w12.heap.size:=hk.1;replace jq:=nk jq hk (fun q h h'=>by omega);replace fk:=sD fk hk (fun h=>by omega);replace gi:=sD gi hk (fun h=>by omega);replace iB:=sD iB hk (fun h=>by omega);replace kb:=ae.mk xw;clear xw;replace HB:=ae.mk hb;clear hb hk;replace ph:=z2 fk;replace pj:=na fk;replace qF:=z2 gi;replace qG:=na gi;replace sf:=z2 iB;replace sg:=na iB
 go_wp2_with fail
 refine(fi.calls' k _ _ _ mg s2 1 q _ L4.out (rS kb) (rl kb) H9.out).mono ?_;rintro e w13 ⟨rfl,hb⟩
 have n13:w12.heap.size≤w13.heap.size:=by have:=hb.size;simpa using this
 replace fk:=fV fk hb;replace gi:=fV gi hb;replace iB:=fV iB hb;replace jq:=nb jq hb;replace kb:=sb kb hb;replace HB:=hB HB hb;clear hb;replace ph:=z2 fk;replace pj:=na fk;replace qF:=z2 gi;replace qG:=na gi;replace sf:=z2 iB;replace sg:=na iB
 go_wp2_with fail
 refine(iA.calls k _ _ ag aj tl tn _ (kC sB) sC.out H2.out).mono ?_;rintro e w14 ⟨v_z0,rfl,acW,hb⟩;obtain⟨A_z0,c_z0,rfl⟩:=Kd.eM acW;have uq:=vH acW (w13.heap.size) w.heap.size (by simp) (ah oB);clear acW
 have n14:w13.heap.size≤w14.heap.size:=by have:=hb.size;simpa using this
 replace fk:=fV fk hb;replace gi:=fV gi hb;replace iB:=fV iB hb;replace jq:=nb jq hb;replace kb:=sb kb hb;replace HB:=hB HB hb;clear hb;replace ph:=z2 fk;replace pj:=na fk;replace qF:=z2 gi;replace qG:=na gi;replace sf:=z2 iB;replace sg:=na iB
 go_wp2_with fail
 refine(aZ.calls k _ _ tl tn a1 a2 a3 s1 s2 s3 _ (rS uq) (rl uq) H4.out).mono ?_;rintro e w15 ⟨v_h0,rfl,acX,hb⟩;obtain⟨A_h0,c_h0,rfl⟩:=Kd.eM acX;have xx:=vH acX (w14.heap.size) w.heap.size (by simp) (ah oB);clear acX
 have n15:w14.heap.size≤w15.heap.size:=by have:=hb.size;simpa using this
 replace fk:=fV fk hb;replace gi:=fV gi hb;replace iB:=fV iB hb;replace jq:=nb jq hb;replace kb:=sb kb hb;replace uq:=sb uq hb;replace HB:=hB HB hb;clear hb;replace ph:=z2 fk;replace pj:=na fk;replace qF:=z2 gi;replace qG:=na gi;replace sf:=z2 iB;replace sg:=na iB
 go_wp2_with fail
 refine(fL.calls k _ _ s1 s2 _ _ p1 p2 true _ (rS xx) (rl xx) (nS jq) (nl jq) H5.out).mono ?_;rintro e w16 ⟨rfl,hb⟩
 have n16:w15.heap.size+1≤w16.heap.size:=by have:=hb.size;simpa using this
 have xy:=aab hb;replace hb:=bold hb;replace fk:=fV fk hb;replace gi:=fV gi hb;replace iB:=fV iB hb;replace jq:=nb jq hb;replace kb:=sb kb hb;replace uq:=sb uq hb;replace xx:=sb xx hb;replace HB:=hB HB hb;clear hb;replace ph:=z2 fk;replace pj:=na fk;replace qF:=z2 gi;replace qG:=na gi;replace sf:=z2 iB;replace sg:=na iB;have aen:=z2 xy;have aeo:=na xy
 go_wp2_with fail
 refine(fi.calls' k _ _ _ mg s2 1 q _ L4.out (rS kb) (rl kb) H9.out).mono ?_;rintro e w17 ⟨rfl,hb⟩
 have n17:w16.heap.size≤w17.heap.size:=by have:=hb.size;simpa using this
 replace fk:=fV fk hb;replace gi:=fV gi hb;replace iB:=fV iB hb;replace xy:=fV xy hb;replace jq:=nb jq hb;replace kb:=sb kb hb;replace uq:=sb uq hb;replace xx:=sb xx hb;replace HB:=hB HB hb;clear hb;replace ph:=z2 fk;replace pj:=na fk;replace qF:=z2 gi;replace qG:=na gi;replace sf:=z2 iB;replace sg:=na iB;replace aen:=z2 xy;replace aeo:=na xy
 go_wp2_with fail
 go_ret
 exact⟨rfl,oB⟩
end Go.Proofs.YtlecajlnjmbilaaGreatDoor.P
