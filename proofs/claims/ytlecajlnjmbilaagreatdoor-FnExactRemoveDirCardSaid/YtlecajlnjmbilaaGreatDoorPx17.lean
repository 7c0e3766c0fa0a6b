-- Printed walks.
import Derived.Test.YtlecajlnjmbilaaGreatDoorPx16
set_option linter.all false
namespace Go.Proofs.YtlecajlnjmbilaaGreatDoor.P
open Go.RowKit Go.Proofs.ab.ao Go.Proofs.ab.aE Go.Proofs.ab.aI
attribute [local go_sem] fV fW im iq fh fi fX fY

def cp.T12:Bool×List (List Nat×List Nat):=(true,[([],[]),([],[]),([1],[1]),([0,2,2],[0,2]),([3],[3])])
def cp.B12:List Nat:=[0,0,2,7,15]
theorem cp.sL:gy .any (opsOf Tryz.f4 12)=cp.T12:=by kernel_rfl
theorem cp.qc:eR cp.T12.2 cp.B12=true:=by kernel_rfl
section
variable {α:Type}{d:Kd α}{e base n:Nat}{ok:Nat→Prop}{w w1:World}{A:Option Addr}{c:Nat}{v:Value}{xs:List α}
theorem nS (_:ae (Kd.N d e w base ok (.slice A n c) xs)) (hd:Kd.N d e w1 base ok (.slice A n c) xs:=by(with_reducible repeat(first|apply Kd.dk|apply Kd.dm|apply Kd.dw));exact ae.out (by first|(with_reducible assumption)|assumption)):Kd.C d w1 A xs.length xs:=(Kd.jc hd).2.2
theorem nl (h:ae (Kd.N d e w base ok (.slice A n c) xs)):xs.length≤c:=by have:=(Kd.jc h.out).1;have:=(Kd.jc h.out).2.1;omega
theorem nb (h:ae (Kd.N d e w base ok v xs)) (hb:Below w.heap.size w w1):ae (Kd.N d e w1 base ok v xs):=⟨Kd.ly h.out hb⟩
theorem nk {S:Nat→Prop}(h:ae (Kd.N d e w base ok v xs)) (hk:Kept w w1 S) (hn:∀k,ok k→¬S k):ae (Kd.N d e w1 base ok v xs):=⟨Kd.acH h.out hk hn⟩
theorem adF (h:ae (Kd.N d e w base ok v xs)):ae (Kd.N d e w.drew base ok v xs):=⟨Kd.dw h.out⟩
theorem aeh (h:Kd.N d e w base (fun k=>base≤k) v xs) (lo B:Nat) (hl:lo≤base) (hB:B≤base):ae (Kd.N d e w B (fun k=>lo≤k∧k<w.heap.size) v xs):=⟨Kd.kL (Kd.cS (Kd.pD h) (fun _ hk=>⟨Nat.le_trans hl hk.1,hk.2⟩)) hB⟩
end
def cp.f (k:Nat) (ag:List nq) (ak:Int) (a1:ByteArray):Option Bool:=
 if(a1.size:Int)>1048576 then some true else(kc.f k ag ak 1048576).bind fun R=>if R<0 then some true else
 (iS.f k ag ak).bind fun t=>(cj.f k t.1 t.2 a1).bind fun p=>(bu.f k t.1 t.2 a1).bind fun s=>
 (f_.f k s.1 s.2.1 p.1 p.2.1).bind fun e1=>(f_.f k t.1 t.2 t.1 t.2).bind fun e2=>(eB.f k t.1 1).bind fun mt=>
 (eB.f k s.1 1).bind fun m=>(fm.f k m.2 s.2.1 1).bind fun q=>
 if s.2.2=p.2.2∧e1=true∧e2=true∧¬mt.1<0∧¬q<0∧q=m.1∧m.2.length=s.1.length then some true else none
set_option maxHeartbeats 8000000 in
set_option maxRecDepth 100000 in
theorem cp.calls (k:Nat) (bl:Option Addr) (aW:Nat) (ag:List nq) (ak:Int) (a1:ByteArray) (r:Bool) (w:World) (cg:Kd.C k92 w bl ag.length ag) (ch:ag.length≤aW) (h:cp.f k ag ak a1=some r) (hG:zc w:=by exact gk_ oB (by first|(with_reducible assumption)|assumption)):
  Calls Tryz.prog 4 #[.agg #[.slice bl ag.length aW,.int .i64 ak],.string a1] w fun e w'=>e= .returned (.bool r)∧Below w.heap.size w w':=by
 have HG:=ae.mk hG;clear hG;have sM:=ae.mk cg;have sN:=ae.mk ch;clear cg ch;have HB:=am (Below.refl w.heap.size w);unfold cp.f at h
 split at h
 case isTrue hg=>
  have cg0:decide ((a1.size:Int)>1048576)=true:=decide_eq_true hg;have dg0:decide (1048576<(a1.size:Int))=true:=decide_eq_true (by omega);obtain rfl:=Option.some.inj h;clear h hg
  go_enter Tryz.func4,Tryz.ntmps4
  go_wp2
  go_ret
  exact⟨rfl,oB⟩
 case isFalse hg=>
 have cg0:decide ((a1.size:Int)>1048576)=false:=decide_eq_false hg;have dg0:decide (1048576<(a1.size:Int))=false:=decide_eq_false (by omega);clear hg;replace h:=bA h;obtain⟨R,H1,h⟩:=h
 split at h
 case isTrue hR=>
  have cR:decide (R<0)=true:=decide_eq_true hR;obtain rfl:=Option.some.inj h;clear h hR
  go_enter Tryz.func4,Tryz.ntmps4
  go_wp2_with fail
  refine(kc.calls k _ _ ag ak 1048576 R _ (kC sM) sN.out H1.out).mono ?_;rintro e w1 ⟨rfl,hb⟩;replace HB:=hB HB hb
  go_wp2
  go_ret
  exact⟨rfl,oB⟩
 case isFalse hR=>
 have cR:decide (R<0)=false:=decide_eq_false hR;clear hR;replace h:=bA h;obtain⟨⟨tl,tn⟩,H2,h⟩:=h;replace h:=bA h;obtain⟨⟨p1,p2,p3⟩,H3,h⟩:=h;replace h:=bA h;obtain⟨⟨s1,s2,s3⟩,H4,h⟩:=h;replace h:=bA h;obtain⟨e1,H5,h⟩:=h;replace h:=bA h;obtain⟨e2,H6,h⟩:=h;replace h:=bA h;obtain⟨⟨mt,ml⟩,H7,h⟩:=h;replace h:=bA h;obtain⟨⟨mk,mg⟩,H8,h⟩:=h;replace h:=bA h;obtain⟨q,H9,h⟩:=h
 split at h
 case isFalse=>cases h
 case isTrue hh=>
 try dsimp only at hh
 obtain⟨rfl,rfl,rfl,hmt,hq,rfl,l4⟩:=hh;obtain rfl:=Option.some.inj h;clear h;have cm:decide (mt<0)=false:=decide_eq_false hmt;have cq:decide (q<0)=false:=decide_eq_false hq;clear hmt hq;have L4:=ae.mk l4;clear l4
 try dsimp only at H3 H4 H5 H6 H7 H8 H9 L4
 go_enter Tryz.func4,Tryz.ntmps4
 go_wp2_with fail
 refine(kc.calls k _ _ ag ak 1048576 R _ (kC sM) sN.out H1.out).mono ?_;rintro e w1 ⟨rfl,hb⟩
 have n1:w.heap.size+1≤w1.heap.size:=by have:=hb.size;simpa using this
 have fq:=vQ hb;replace hb:=bold hb;replace HB:=hB HB hb;clear hb;have pn:=z2 fq;have po:=nj fq
 go_wp2_with fail
 refine(iS.calls k _ _ ag ak tl tn _ (kC sM) sN.out H2.out).mono ?_;rintro e w2 ⟨v_t0,rfl,acI,hb⟩;obtain⟨A_t0,c_t0,rfl⟩:=Kd.gf acI;have aab:=tt acI (w1.heap.size) w.heap.size (by simp) (ah oB);clear acI
 have n2:w1.heap.size≤w2.heap.size:=by have:=hb.size;simpa using this
 replace fq:=gp fq hb;replace HB:=hB HB hb;clear hb;replace pn:=z2 fq;replace po:=nj fq
 go_wp2_with fail
 refine(cj.calls k _ _ tl tn a1 p1 p2 s3 _ (rS aab) (rl aab) H3.out).mono ?_;rintro e w3 ⟨v_w0,rfl,acJ,hb⟩;obtain⟨A_w0,c_w0,rfl⟩:=Kd.kr acJ;have kd:=aeh acJ (w2.heap.size) w.heap.size (by simp) (ah oB);clear acJ
 have n3:w2.heap.size≤w3.heap.size:=by have:=hb.size;simpa using this
 replace fq:=gp fq hb;replace aab:=sb aab hb;replace HB:=hB HB hb;clear hb;replace pn:=z2 fq;replace po:=nj fq;clear aab
 go_wp2_with fail
 refine(iS.calls k _ _ ag ak tl tn _ (kC sM) sN.out H2.out).mono ?_;rintro e w4 ⟨v_x0,rfl,aac,hb⟩;obtain⟨aei,aej,rfl⟩:=Kd.gf aac;have nV:=tt aac (w3.heap.size+1) w.heap.size (by simp) (ah oB);clear aac
 have n4:w3.heap.size+1≤w4.heap.size:=by have:=hb.size;simpa using this
 have gz:=vQ hb;replace hb:=bold hb;replace fq:=gp fq hb;replace kd:=nb kd hb;replace HB:=hB HB hb;clear hb;replace pn:=z2 fq;replace po:=nj fq;have qK:=z2 gz;have qL:=nj gz
 go_wp2_with fail
 refine(bu.calls k _ _ tl tn a1 s1 s2 s3 _ (rS nV) (rl nV) H4.out).mono ?_;rintro e w5 ⟨v_g0,rfl,xW,hb⟩;obtain⟨A_g0,c_g0,rfl⟩:=Kd.gf xW;have kx:=tt xW (w4.heap.size+1) w.heap.size (by simp) (ah oB);clear xW
 have n5:w4.heap.size+1≤w5.heap.size:=by have:=hb.size;simpa using this
 have oW:=vQ hb;replace hb:=bold hb;replace fq:=gp fq hb;replace gz:=gp gz hb;replace kd:=nb kd hb;replace nV:=sb nV hb;replace HB:=hB HB hb;clear hb;replace pn:=z2 fq;replace po:=nj fq;replace qK:=z2 gz;replace qL:=nj gz;have abO:=z2 oW;have abP:=nj oW
 go_wp2_with fail
 refine(f_.calls k _ _ s1 s2 _ _ p1 p2 true _ (rS kx) (rl kx) (nS kd) (nl kd) H5.out).mono ?_;rintro e w6 ⟨rfl,hb⟩
 have n6:w5.heap.size+1≤w6.heap.size:=by have:=hb.size;simpa using this
 have iT:=vQ hb;replace hb:=bold hb;replace fq:=gp fq hb;replace gz:=gp gz hb;replace oW:=gp oW hb;replace kd:=nb kd hb;replace nV:=sb nV hb;replace kx:=sb kx hb;replace HB:=hB HB hb;clear hb;replace pn:=z2 fq;replace po:=nj fq;replace qK:=z2 gz;replace qL:=nj gz;replace abO:=z2 oW;replace abP:=nj oW;have sx:=z2 iT;have sy:=nj iT
 go_wp2_with fail
 replace fq:=xx fq;replace gz:=xx gz;replace oW:=xx oW;replace iT:=xx iT;replace kd:=adF kd;replace nV:=acq nV;replace kx:=acq kx;replace HB:=am (au HB.out);have n7:w6.heap.size≤w6.drew.heap.size:=Nat.le_refl _;clear pn po qK qL abO abP sx sy;refine mn 5 (fun w'=>w'.cell? ⟨w4.heap.size,0,none⟩=some (.slice aei tl.length aej)∧w'.cell? ⟨w4.heap.size,1,none⟩=some (.int .i64 tn)∧w'.cell? ⟨w.heap.size,0,none⟩=some (.slice bl ag.length aW)∧w'.cell? ⟨w.heap.size,1,none⟩=some (.int .i64 ak)) cp.sL cp.qc oH (fun hHeld ax eF=> ?_);generalize w6.drew=w7 at HB hHeld n7 fq gz oW iT kd nV kx⊢;refine fS 0 48 ax eF hHeld ?_;refine fS 1 49 ax eF hHeld ?_;refine kM 2 50 ax (fun K hK=> ?_);refine lG 50 Tryz.func12 (iS.calls k _ _ ag ak tl tn _ (kC sM) sN.out H2.out) ?_;rintro e w8 ⟨v_y0,rfl,acK,hb⟩;obtain⟨A_y0,c_y0,rfl⟩:=Kd.gf acK;have aad:=tt acK (w7.heap.size) w.heap.size (by simp) (ah oB);clear acK;refine⟨_,rfl,?_⟩
 have n8:w7.heap.size≤w8.heap.size:=by have:=hb.size;simpa using this
 replace fq:=gp fq hb;replace gz:=gp gz hb;replace oW:=gp oW hb;replace iT:=gp iT hb;replace kd:=nb kd hb;replace nV:=sb nV hb;replace kx:=sb kx hb;replace HB:=hB HB hb;clear hb hHeld;refine eY hK 50 oH (fun hHeld=> ?_);clear hK K;refine kM 3 51 ax (fun K hK=> ?_);refine lG 51 Tryz.func14 (f_.calls k _ _ tl tn _ _ tl tn true _ (rS nV) (rl nV) (rS aad) (rl aad) H6.out) ?_;rintro e w9 ⟨rfl,hb⟩;refine⟨_,rfl,?_⟩
 have n9:w8.heap.size≤w9.heap.size:=by have:=hb.size;simpa using this
 replace fq:=gp fq hb;replace gz:=gp gz hb;replace oW:=gp oW hb;replace iT:=gp iT hb;replace kd:=nb kd hb;replace nV:=sb nV hb;replace kx:=sb kx hb;replace aad:=sb aad hb;replace HB:=hB HB hb;clear hb hHeld;refine eY hK 51 oH (fun hHeld=> ?_);clear hK K;refine bx 4 52 ax ?_;refine lY ax ?_;clear hHeld ax eF;have pn:=z2 fq;have po:=nj fq;have qK:=z2 gz;have qL:=nj gz;have abO:=z2 oW;have abP:=nj oW;have sx:=z2 iT;have sy:=nj iT;clear aad
 go_wp2_with fail
 refine(pE.calls k _ _ tl tn 1 mt ml w _ HB.out nV.out H7.out).mono ?_;rintro e w10 ⟨rfl,aac,hb,hk⟩;have n10:w9.heap.size≤w10.heap.size:=hk.1;replace kd:=nk kd hk (fun q h h'=>by omega);replace kx:=sk kx hk (fun q h h'=>by omega);replace fq:=nW fq hk (fun h=>by omega);replace gz:=nW gz hk (fun h=>by omega);clear oW abO abP;replace iT:=nW iT hk (fun h=>by omega);clear nV;clear aac;replace HB:=ae.mk hb;clear hb hk;replace pn:=z2 fq;replace po:=nj fq;replace qK:=z2 gz;replace qL:=nj gz;replace sx:=z2 iT;replace sy:=nj iT
 go_wp2_with fail
 refine(f_.calls k _ _ s1 s2 _ _ p1 p2 true _ (rS kx) (rl kx) (nS kd) (nl kd) H5.out).mono ?_;rintro e w11 ⟨rfl,hb⟩
 have n11:w10.heap.size≤w11.heap.size:=by have:=hb.size;simpa using this
 replace fq:=gp fq hb;replace gz:=gp gz hb;replace iT:=gp iT hb;replace kd:=nb kd hb;replace kx:=sb kx hb;replace HB:=hB HB hb;clear hb;replace pn:=z2 fq;replace po:=nj fq;replace qK:=z2 gz;replace qL:=nj gz;replace sx:=z2 iT;replace sy:=nj iT
 go_wp2_with fail
 refine(pE.calls k _ _ s1 s2 1 q mg w _ HB.out kx.out H8.out).mono ?_;rintro e w12 ⟨rfl,xW,hb,hk⟩;have n12:w11.heap.size≤w12.heap.size:=hk.1;replace kd:=nk kd hk (fun q h h'=>by omega);replace fq:=nW fq hk (fun h=>by omega);replace gz:=nW gz hk (fun h=>by omega);replace iT:=nW iT hk (fun h=>by omega);replace kx:=ae.mk xW;clear xW;replace HB:=ae.mk hb;clear hb hk;replace pn:=z2 fq;replace po:=nj fq;replace qK:=z2 gz;replace qL:=nj gz;replace sx:=z2 iT;replace sy:=nj iT
 go_wp2_with fail
 refine(fm.calls' k _ _ _ mg s2 1 q _ L4.out (rS kx) (rl kx) H9.out).mono ?_;rintro e w13 ⟨rfl,hb⟩
 have n13:w12.heap.size≤w13.heap.size:=by have:=hb.size;simpa using this
 replace fq:=gp fq hb;replace gz:=gp gz hb;replace iT:=gp iT hb;replace kd:=nb kd hb;replace kx:=sb kx hb;replace HB:=hB HB hb;clear hb;replace pn:=z2 fq;replace po:=nj fq;replace qK:=z2 gz;replace qL:=nj gz;replace sx:=z2 iT;replace sy:=nj iT
 go_wp2_with fail
 refine(iS.calls k _ _ ag ak tl tn _ (kC sM) sN.out H2.out).mono ?_;rintro e w14 ⟨v_z0,rfl,acL,hb⟩;obtain⟨A_z0,c_z0,rfl⟩:=Kd.gf acL;have uB:=tt acL (w13.heap.size) w.heap.size (by simp) (ah oB);clear acL
 have n14:w13.heap.size≤w14.heap.size:=by have:=hb.size;simpa using this
 replace fq:=gp fq hb;replace gz:=gp gz hb;replace iT:=gp iT hb;replace kd:=nb kd hb;replace kx:=sb kx hb;replace HB:=hB HB hb;clear hb;replace pn:=z2 fq;replace po:=nj fq;replace qK:=z2 gz;replace qL:=nj gz;replace sx:=z2 iT;replace sy:=nj iT
 go_wp2_with fail
 refine(bu.calls k _ _ tl tn a1 s1 s2 s3 _ (rS uB) (rl uB) H4.out).mono ?_;rintro e w15 ⟨v_h0,rfl,acM,hb⟩;obtain⟨A_h0,c_h0,rfl⟩:=Kd.gf acM;have xX:=tt acM (w14.heap.size) w.heap.size (by simp) (ah oB);clear acM
 have n15:w14.heap.size≤w15.heap.size:=by have:=hb.size;simpa using this
 replace fq:=gp fq hb;replace gz:=gp gz hb;replace iT:=gp iT hb;replace kd:=nb kd hb;replace kx:=sb kx hb;replace uB:=sb uB hb;replace HB:=hB HB hb;clear hb;replace pn:=z2 fq;replace po:=nj fq;replace qK:=z2 gz;replace qL:=nj gz;replace sx:=z2 iT;replace sy:=nj iT
 go_wp2_with fail
 refine(f_.calls k _ _ s1 s2 _ _ p1 p2 true _ (rS xX) (rl xX) (nS kd) (nl kd) H5.out).mono ?_;rintro e w16 ⟨rfl,hb⟩
 have n16:w15.heap.size+1≤w16.heap.size:=by have:=hb.size;simpa using this
 have xY:=vQ hb;replace hb:=bold hb;replace fq:=gp fq hb;replace gz:=gp gz hb;replace iT:=gp iT hb;replace kd:=nb kd hb;replace kx:=sb kx hb;replace uB:=sb uB hb;replace xX:=sb xX hb;replace HB:=hB HB hb;clear hb;replace pn:=z2 fq;replace po:=nj fq;replace qK:=z2 gz;replace qL:=nj gz;replace sx:=z2 iT;replace sy:=nj iT;have aek:=z2 xY;have ael:=nj xY
 go_wp2_with fail
 refine(fm.calls' k _ _ _ mg s2 1 q _ L4.out (rS kx) (rl kx) H9.out).mono ?_;rintro e w17 ⟨rfl,hb⟩
 have n17:w16.heap.size≤w17.heap.size:=by have:=hb.size;simpa using this
 replace fq:=gp fq hb;replace gz:=gp gz hb;replace iT:=gp iT hb;replace xY:=gp xY hb;replace kd:=nb kd hb;replace kx:=sb kx hb;replace uB:=sb uB hb;replace xX:=sb xX hb;replace HB:=hB HB hb;clear hb;replace pn:=z2 fq;replace po:=nj fq;replace qK:=z2 gz;replace qL:=nj gz;replace sx:=z2 iT;replace sy:=nj iT;replace aek:=z2 xY;replace ael:=nj xY
 go_wp2_with fail
 go_ret
 exact⟨rfl,oB⟩
end Go.Proofs.YtlecajlnjmbilaaGreatDoor.P
