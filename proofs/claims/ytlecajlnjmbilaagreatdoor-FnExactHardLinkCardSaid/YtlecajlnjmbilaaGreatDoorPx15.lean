-- Printed walks.
import Derived.Test.YtlecajlnjmbilaaGreatDoorPx14
set_option linter.all false
namespace Go.Proofs.YtlecajlnjmbilaaGreatDoor.P
open Go.RowKit Go.Proofs.ab.ar Go.Proofs.ab.aH Go.Proofs.ab.aN Go.Proofs.Tryz
attribute [local go_sem] ib ic jc jd fU fV ie ig

def cy.T14:Bool×List (List Nat×List Nat):=(true,[([],[]),([],[]),([1],[1]),([0,2,2],[0,2]),([3],[3])])
def cy.B14:List Nat:=[0,0,2,7,15]
theorem cy.adC:ij .any (opsOf Tryz.f5 14)=cy.T14:=by kernel_rfl
theorem cy.acE:fa cy.T14.2 cy.B14=true:=by kernel_rfl
section
variable {α:Type}{d:Kd α}{e base n:Nat}{ok:Nat→Prop}{w w1:World}{A:Option Addr}{c:Nat}{v:Value}{xs:List α}
theorem nS (_:ae (Kd.N d e w base ok (.slice A n c) xs)) (hd:Kd.N d e w1 base ok (.slice A n c) xs:=by(with_reducible repeat(first|apply Kd.dx|apply Kd.dy|apply Kd.eo));exact ae.out (by first|(with_reducible assumption)|assumption)):Kd.C d w1 A xs.length xs:=(Kd.jk hd).2.2
theorem nl (h:ae (Kd.N d e w base ok (.slice A n c) xs)):xs.length≤c:=by have:=(Kd.jk h.out).1;have:=(Kd.jk h.out).2.1;omega
theorem nb (h:ae (Kd.N d e w base ok v xs)) (hb:Below w.heap.size w w1):ae (Kd.N d e w1 base ok v xs):=⟨Kd.lK h.out hb⟩
theorem nk {S:Nat→Prop}(h:ae (Kd.N d e w base ok v xs)) (hk:Kept w w1 S) (hn:∀k,ok k→¬S k):ae (Kd.N d e w1 base ok v xs):=⟨Kd.acF h.out hk hn⟩
theorem adD (h:ae (Kd.N d e w base ok v xs)):ae (Kd.N d e w.drew base ok v xs):=⟨Kd.eo h.out⟩
theorem aea (h:Kd.N d e w base (fun k=>base≤k) v xs) (lo B:Nat) (hl:lo≤base) (hB:B≤base):ae (Kd.N d e w B (fun k=>lo≤k∧k<w.heap.size) v xs):=⟨Kd.lL (Kd.dw (Kd.qf h) (fun _ hk=>⟨Nat.le_trans hl hk.1,hk.2⟩)) hB⟩
end
def cy.f (k:Nat) (ag:List nL) (ak:Int) (a1:ByteArray) (a2:ByteArray):Option Bool:=
 if(a1.size:Int)>1048576 then some true else if(a2.size:Int)>1048576 then some true else(kf.f k ag ak 1048576).bind fun R=>if R<0 then some true else
 (iX.f k ag ak).bind fun t=>(du.f k t.1 t.2 a1 a2).bind fun p=>(ca.f k t.1 t.2 a1 a2).bind fun s=>
 (gl.f k s.1 s.2.1 p.1 p.2.1).bind fun e1=>(gl.f k t.1 t.2 t.1 t.2).bind fun e2=>(eI.f k t.1 1).bind fun mt=>
 (eI.f k s.1 1).bind fun m=>(fz.f k m.2 s.2.1 1).bind fun q=>
 if s.2.2=p.2.2∧e1=true∧e2=true∧¬mt.1<0∧¬q<0∧q=m.1∧m.2.length=s.1.length then some true else none
set_option maxHeartbeats 8000000 in
set_option maxRecDepth 100000 in
theorem cy.calls (k:Nat) (bh:Option Addr) (aT:Nat) (ag:List nL) (ak:Int) (a1:ByteArray) (a2:ByteArray) (r:Bool) (w:World) (cj:Kd.C k92 w bh ag.length ag) (ck:ag.length≤aT) (h:cy.f k ag ak a1 a2=some r) (hG:yL w:=by exact gk_ oB (by first|(with_reducible assumption)|assumption)):
  Calls Tryz.prog 5 #[.agg #[.slice bh ag.length aT,.int .i64 ak],.string a1,.string a2] w fun e w'=>e= .returned (.bool r)∧Below w.heap.size w w':=by
 have HG:=ae.mk hG;clear hG;have tC:=ae.mk cj;have tD:=ae.mk ck;clear cj ck;have HB:=am (Below.refl w.heap.size w);unfold cy.f at h
 split at h
 case isTrue hg=>
  have cg0:decide ((a1.size:Int)>1048576)=true:=decide_eq_true hg;have dg0:decide (1048576<(a1.size:Int))=true:=decide_eq_true (by omega);obtain rfl:=Option.some.inj h;clear h hg
  go_enter func5,ntmps5
  go_wp2
  go_ret
  exact⟨rfl,oB⟩
 case isFalse hg=>
 have cg0:decide ((a1.size:Int)>1048576)=false:=decide_eq_false hg;have dg0:decide (1048576<(a1.size:Int))=false:=decide_eq_false (by omega);clear hg
 split at h
 case isTrue hg=>
  have cg1:decide ((a2.size:Int)>1048576)=true:=decide_eq_true hg;have dg1:decide (1048576<(a2.size:Int))=true:=decide_eq_true (by omega);obtain rfl:=Option.some.inj h;clear h hg
  go_enter func5,ntmps5
  go_wp2
  go_ret
  exact⟨rfl,oB⟩
 case isFalse hg=>
 have cg1:decide ((a2.size:Int)>1048576)=false:=decide_eq_false hg;have dg1:decide (1048576<(a2.size:Int))=false:=decide_eq_false (by omega);clear hg;replace h:=bA h;obtain⟨R,H1,h⟩:=h
 split at h
 case isTrue hR=>
  have cR:decide (R<0)=true:=decide_eq_true hR;obtain rfl:=Option.some.inj h;clear h hR
  go_enter func5,ntmps5
  go_wp2_with fail
  refine(kf.calls k _ _ ag ak 1048576 R _ (kC tC) tD.out H1.out).mono ?_;rintro e w1 ⟨rfl,hb⟩;replace HB:=hB HB hb
  go_wp2
  go_ret
  exact⟨rfl,oB⟩
 case isFalse hR=>
 have cR:decide (R<0)=false:=decide_eq_false hR;clear hR;replace h:=bA h;obtain⟨⟨tl,tn⟩,H2,h⟩:=h;replace h:=bA h;obtain⟨⟨p1,p2,p3⟩,H3,h⟩:=h;replace h:=bA h;obtain⟨⟨s1,s2,s3⟩,H4,h⟩:=h;replace h:=bA h;obtain⟨e1,H5,h⟩:=h;replace h:=bA h;obtain⟨e2,H6,h⟩:=h;replace h:=bA h;obtain⟨⟨mt,ml⟩,H7,h⟩:=h;replace h:=bA h;obtain⟨⟨mk,mg⟩,H8,h⟩:=h;replace h:=bA h;obtain⟨q,H9,h⟩:=h
 split at h
 case isFalse=>cases h
 case isTrue hh=>
 try dsimp only at hh
 obtain⟨rfl,rfl,rfl,hmt,hq,rfl,l4⟩:=hh;obtain rfl:=Option.some.inj h;clear h;have cm:decide (mt<0)=false:=decide_eq_false hmt;have cq:decide (q<0)=false:=decide_eq_false hq;clear hmt hq;have L4:=ae.mk l4;clear l4
 try dsimp only at H3 H4 H5 H6 H7 H8 H9 L4
 go_enter func5,ntmps5
 go_wp2_with fail
 refine(kf.calls k _ _ ag ak 1048576 R _ (kC tC) tD.out H1.out).mono ?_;rintro e w1 ⟨rfl,hb⟩
 have n1:w.heap.size+1≤w1.heap.size:=by have:=hb.size;simpa using this
 have fD:=aab hb;replace hb:=bold hb;replace HB:=hB HB hb;clear hb;have pT:=z2 fD;have pU:=nK fD
 go_wp2_with fail
 refine(iX.calls k _ _ ag ak tl tn _ (kC tC) tD.out H2.out).mono ?_;rintro e w2 ⟨v_t0,rfl,acG,hb⟩;obtain⟨A_t0,c_t0,rfl⟩:=Kd.iA acG;have aac:=vr acG (w1.heap.size) w.heap.size (by simp) (ah oB);clear acG
 have n2:w1.heap.size≤w2.heap.size:=by have:=hb.size;simpa using this
 replace fD:=gw fD hb;replace HB:=hB HB hb;clear hb;replace pT:=z2 fD;replace pU:=nK fD
 go_wp2_with fail
 refine(du.calls k _ _ tl tn a1 a2 p1 p2 s3 _ (rS aac) (rl aac) H3.out).mono ?_;rintro e w3 ⟨v_w0,rfl,acH,hb⟩;obtain⟨A_w0,c_w0,rfl⟩:=Kd.lf acH;have kg:=aea acH (w2.heap.size) w.heap.size (by simp) (ah oB);clear acH
 have n3:w2.heap.size≤w3.heap.size:=by have:=hb.size;simpa using this
 replace fD:=gw fD hb;replace aac:=sb aac hb;replace HB:=hB HB hb;clear hb;replace pT:=z2 fD;replace pU:=nK fD;clear aac
 go_wp2_with fail
 refine(iX.calls k _ _ ag ak tl tn _ (kC tC) tD.out H2.out).mono ?_;rintro e w4 ⟨v_x0,rfl,aad,hb⟩;obtain⟨aeb,aec,rfl⟩:=Kd.iA aad;have oU:=vr aad (w3.heap.size+1) w.heap.size (by simp) (ah oB);clear aad
 have n4:w3.heap.size+1≤w4.heap.size:=by have:=hb.size;simpa using this
 have hJ:=aab hb;replace hb:=bold hb;replace fD:=gw fD hb;replace kg:=nb kg hb;replace HB:=hB HB hb;clear hb;replace pT:=z2 fD;replace pU:=nK fD;have rE:=z2 hJ;have rF:=nK hJ
 go_wp2_with fail
 refine(ca.calls k _ _ tl tn a1 a2 s1 s2 s3 _ (rS oU) (rl oU) H4.out).mono ?_;rintro e w5 ⟨v_g0,rfl,yM,hb⟩;obtain⟨A_g0,c_g0,rfl⟩:=Kd.iA yM;have kx:=vr yM (w4.heap.size+1) w.heap.size (by simp) (ah oB);clear yM
 have n5:w4.heap.size+1≤w5.heap.size:=by have:=hb.size;simpa using this
 have pA:=aab hb;replace hb:=bold hb;replace fD:=gw fD hb;replace hJ:=gw hJ hb;replace kg:=nb kg hb;replace oU:=sb oU hb;replace HB:=hB HB hb;clear hb;replace pT:=z2 fD;replace pU:=nK fD;replace rE:=z2 hJ;replace rF:=nK hJ;have abJ:=z2 pA;have abK:=nK pA
 go_wp2_with fail
 refine(gl.calls k _ _ s1 s2 _ _ p1 p2 true _ (rS kx) (rl kx) (nS kg) (nl kg) H5.out).mono ?_;rintro e w6 ⟨rfl,hb⟩
 have n6:w5.heap.size+1≤w6.heap.size:=by have:=hb.size;simpa using this
 have iY:=aab hb;replace hb:=bold hb;replace fD:=gw fD hb;replace hJ:=gw hJ hb;replace pA:=gw pA hb;replace kg:=nb kg hb;replace oU:=sb oU hb;replace kx:=sb kx hb;replace HB:=hB HB hb;clear hb;replace pT:=z2 fD;replace pU:=nK fD;replace rE:=z2 hJ;replace rF:=nK hJ;replace abJ:=z2 pA;replace abK:=nK pA;have tp:=z2 iY;have tq:=nK iY
 go_wp2_with fail
 replace fD:=yj fD;replace hJ:=yj hJ;replace pA:=yj pA;replace iY:=yj iY;replace kg:=adD kg;replace oU:=acp oU;replace kx:=acp kx;replace HB:=am (av HB.out);have n7:w6.heap.size≤w6.drew.heap.size:=Nat.le_refl _;clear pT pU rE rF abJ abK tp tq;refine np 5 (fun w'=>w'.cell? ⟨w4.heap.size,0,none⟩=some (.slice aeb tl.length aec)∧w'.cell? ⟨w4.heap.size,1,none⟩=some (.int .i64 tn)∧w'.cell? ⟨w.heap.size,0,none⟩=some (.slice bh ag.length aT)∧w'.cell? ⟨w.heap.size,1,none⟩=some (.int .i64 ak)) cy.adC cy.acE oH (fun hHeld ax eN=> ?_);generalize w6.drew=w7 at HB hHeld n7 fD hJ pA iY kg oU kx⊢;refine gj 0 55 ax eN hHeld ?_;refine gj 1 56 ax eN hHeld ?_;refine lg 2 57 ax (fun K hK=> ?_);refine lO 57 func12 (iX.calls k _ _ ag ak tl tn _ (kC tC) tD.out H2.out) ?_;rintro e w8 ⟨v_y0,rfl,acI,hb⟩;obtain⟨A_y0,c_y0,rfl⟩:=Kd.iA acI;have aae:=vr acI (w7.heap.size) w.heap.size (by simp) (ah oB);clear acI;refine⟨_,rfl,?_⟩
 have n8:w7.heap.size≤w8.heap.size:=by have:=hb.size;simpa using this
 replace fD:=gw fD hb;replace hJ:=gw hJ hb;replace pA:=gw pA hb;replace iY:=gw iY hb;replace kg:=nb kg hb;replace oU:=sb oU hb;replace kx:=sb kx hb;replace HB:=hB HB hb;clear hb hHeld;refine eW hK 57 oH (fun hHeld=> ?_);clear hK K;refine lg 3 58 ax (fun K hK=> ?_);refine lO 58 func14 (gl.calls k _ _ tl tn _ _ tl tn true _ (rS oU) (rl oU) (rS aae) (rl aae) H6.out) ?_;rintro e w9 ⟨rfl,hb⟩;refine⟨_,rfl,?_⟩
 have n9:w8.heap.size≤w9.heap.size:=by have:=hb.size;simpa using this
 replace fD:=gw fD hb;replace hJ:=gw hJ hb;replace pA:=gw pA hb;replace iY:=gw iY hb;replace kg:=nb kg hb;replace oU:=sb oU hb;replace kx:=sb kx hb;replace aae:=sb aae hb;replace HB:=hB HB hb;clear hb hHeld;refine eW hK 58 oH (fun hHeld=> ?_);clear hK K;refine bz 4 59 ax ?_;refine mo ax ?_;clear hHeld ax eN;have pT:=z2 fD;have pU:=nK fD;have rE:=z2 hJ;have rF:=nK hJ;have abJ:=z2 pA;have abK:=nK pA;have tp:=z2 iY;have tq:=nK iY;clear aae
 go_wp2_with fail
 refine(qg.calls k _ _ tl tn 1 mt ml w _ HB.out oU.out H7.out).mono ?_;rintro e w10 ⟨rfl,aad,hb,hk⟩;have n10:w9.heap.size≤w10.heap.size:=hk.1;replace kg:=nk kg hk (fun q h h'=>by omega);replace kx:=sk kx hk (fun q h h'=>by omega);replace fD:=tE fD hk (fun h=>by omega);replace hJ:=tE hJ hk (fun h=>by omega);clear pA abJ abK;replace iY:=tE iY hk (fun h=>by omega);clear oU;clear aad;replace HB:=ae.mk hb;clear hb hk;replace pT:=z2 fD;replace pU:=nK fD;replace rE:=z2 hJ;replace rF:=nK hJ;replace tp:=z2 iY;replace tq:=nK iY
 go_wp2_with fail
 refine(gl.calls k _ _ s1 s2 _ _ p1 p2 true _ (rS kx) (rl kx) (nS kg) (nl kg) H5.out).mono ?_;rintro e w11 ⟨rfl,hb⟩
 have n11:w10.heap.size≤w11.heap.size:=by have:=hb.size;simpa using this
 replace fD:=gw fD hb;replace hJ:=gw hJ hb;replace iY:=gw iY hb;replace kg:=nb kg hb;replace kx:=sb kx hb;replace HB:=hB HB hb;clear hb;replace pT:=z2 fD;replace pU:=nK fD;replace rE:=z2 hJ;replace rF:=nK hJ;replace tp:=z2 iY;replace tq:=nK iY
 go_wp2_with fail
 refine(qg.calls k _ _ s1 s2 1 q mg w _ HB.out kx.out H8.out).mono ?_;rintro e w12 ⟨rfl,yM,hb,hk⟩;have n12:w11.heap.size≤w12.heap.size:=hk.1;replace kg:=nk kg hk (fun q h h'=>by omega);replace fD:=tE fD hk (fun h=>by omega);replace hJ:=tE hJ hk (fun h=>by omega);replace iY:=tE iY hk (fun h=>by omega);replace kx:=ae.mk yM;clear yM;replace HB:=ae.mk hb;clear hb hk;replace pT:=z2 fD;replace pU:=nK fD;replace rE:=z2 hJ;replace rF:=nK hJ;replace tp:=z2 iY;replace tq:=nK iY
 go_wp2_with fail
 refine(fz.calls' k _ _ _ mg s2 1 q _ L4.out (rS kx) (rl kx) H9.out).mono ?_;rintro e w13 ⟨rfl,hb⟩
 have n13:w12.heap.size≤w13.heap.size:=by have:=hb.size;simpa using this
 replace fD:=gw fD hb;replace hJ:=gw hJ hb;replace iY:=gw iY hb;replace kg:=nb kg hb;replace kx:=sb kx hb;replace HB:=hB HB hb;clear hb;replace pT:=z2 fD;replace pU:=nK fD;replace rE:=z2 hJ;replace rF:=nK hJ;replace tp:=z2 iY;replace tq:=nK iY
 go_wp2_with fail
 refine(iX.calls k _ _ ag ak tl tn _ (kC tC) tD.out H2.out).mono ?_;rintro e w14 ⟨v_z0,rfl,acJ,hb⟩;obtain⟨A_z0,c_z0,rfl⟩:=Kd.iA acJ;have vt:=vr acJ (w13.heap.size) w.heap.size (by simp) (ah oB);clear acJ
 have n14:w13.heap.size≤w14.heap.size:=by have:=hb.size;simpa using this
 replace fD:=gw fD hb;replace hJ:=gw hJ hb;replace iY:=gw iY hb;replace kg:=nb kg hb;replace kx:=sb kx hb;replace HB:=hB HB hb;clear hb;replace pT:=z2 fD;replace pU:=nK fD;replace rE:=z2 hJ;replace rF:=nK hJ;replace tp:=z2 iY;replace tq:=nK iY
 go_wp2_with fail
 refine(ca.calls k _ _ tl tn a1 a2 s1 s2 s3 _ (rS vt) (rl vt) H4.out).mono ?_;rintro e w15 ⟨v_h0,rfl,acK,hb⟩;obtain⟨A_h0,c_h0,rfl⟩:=Kd.iA acK;have yN:=vr acK (w14.heap.size) w.heap.size (by simp) (ah oB);clear acK
 have n15:w14.heap.size≤w15.heap.size:=by have:=hb.size;simpa using this
 replace fD:=gw fD hb;replace hJ:=gw hJ hb;replace iY:=gw iY hb;replace kg:=nb kg hb;replace kx:=sb kx hb;replace vt:=sb vt hb;replace HB:=hB HB hb;clear hb;replace pT:=z2 fD;replace pU:=nK fD;replace rE:=z2 hJ;replace rF:=nK hJ;replace tp:=z2 iY;replace tq:=nK iY
 go_wp2_with fail
 refine(gl.calls k _ _ s1 s2 _ _ p1 p2 true _ (rS yN) (rl yN) (nS kg) (nl kg) H5.out).mono ?_;rintro e w16 ⟨rfl,hb⟩
 have n16:w15.heap.size+1≤w16.heap.size:=by have:=hb.size;simpa using this
 have yO:=aab hb;replace hb:=bold hb;replace fD:=gw fD hb;replace hJ:=gw hJ hb;replace iY:=gw iY hb;replace kg:=nb kg hb;replace kx:=sb kx hb;replace vt:=sb vt hb;replace yN:=sb yN hb;replace HB:=hB HB hb;clear hb;replace pT:=z2 fD;replace pU:=nK fD;replace rE:=z2 hJ;replace rF:=nK hJ;replace tp:=z2 iY;replace tq:=nK iY;have aed:=z2 yO;have aee:=nK yO
 go_wp2_with fail
 refine(fz.calls' k _ _ _ mg s2 1 q _ L4.out (rS kx) (rl kx) H9.out).mono ?_;rintro e w17 ⟨rfl,hb⟩
 have n17:w16.heap.size≤w17.heap.size:=by have:=hb.size;simpa using this
 replace fD:=gw fD hb;replace hJ:=gw hJ hb;replace iY:=gw iY hb;replace yO:=gw yO hb;replace kg:=nb kg hb;replace kx:=sb kx hb;replace vt:=sb vt hb;replace yN:=sb yN hb;replace HB:=hB HB hb;clear hb;replace pT:=z2 fD;replace pU:=nK fD;replace rE:=z2 hJ;replace rF:=nK hJ;replace tp:=z2 iY;replace tq:=nK iY;replace aed:=z2 yO;replace aee:=nK yO
 go_wp2_with fail
 go_ret
 exact⟨rfl,oB⟩
end Go.Proofs.YtlecajlnjmbilaaGreatDoor.P
