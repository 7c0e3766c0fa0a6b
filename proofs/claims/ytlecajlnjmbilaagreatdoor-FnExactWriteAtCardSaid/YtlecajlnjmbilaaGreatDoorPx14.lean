-- Printed walks.
import Derived.Test.YtlecajlnjmbilaaGreatDoorPx13
set_option linter.all false
namespace Go.Proofs.YtlecajlnjmbilaaGreatDoor.P
open Go.RowKit Go.Proofs.ae.au Go.Proofs.ae.ba Go.Proofs.ae.bg
attribute [local go_sem] gh gi iR iS ft fu gj gl

def cA.T15:Bool×List (List Nat×List Nat):=(true,[([],[]),([],[]),([1],[1]),([0,2,2],[0,2]),([3],[3])])
def cA.B15:List Nat:=[0,0,2,7,15]
theorem cA.adz:gf .any (opsOf Tryz.f7 15)=cA.T15:=by kernel_rfl
theorem cA.acE:eL cA.T15.2 cA.B15=true:=by kernel_rfl
section
variable {α:Type}{d:Kd α}{e base n:Nat}{ok:Nat→Prop}{w w1:World}{A:Option Addr}{c:Nat}{v:Value}{xs:List α}
theorem nS (_:ab (Kd.N d e w base ok (.slice A n c) xs)) (hd:Kd.N d e w1 base ok (.slice A n c) xs:=by(with_reducible repeat(first|apply Kd.dy|apply Kd.dz|apply Kd.ei));exact ab.out (by first|(with_reducible assumption)|assumption)):Kd.C d w1 A xs.length xs:=(Kd.jg hd).2.2
theorem nl (h:ab (Kd.N d e w base ok (.slice A n c) xs)):xs.length≤c:=by have:=(Kd.jg h.out).1;have:=(Kd.jg h.out).2.1;omega
theorem nb (h:ab (Kd.N d e w base ok v xs)) (hb:Below w.heap.size w w1):ab (Kd.N d e w1 base ok v xs):=⟨Kd.kU h.out hb⟩
theorem nk {S:Nat→Prop}(h:ab (Kd.N d e w base ok v xs)) (hk:Kept w w1 S) (hn:∀k,ok k→¬S k):ab (Kd.N d e w1 base ok v xs):=⟨Kd.acF h.out hk hn⟩
theorem adA (h:ab (Kd.N d e w base ok v xs)):ab (Kd.N d e w.drew base ok v xs):=⟨Kd.ei h.out⟩
theorem aeb (h:Kd.N d e w base (fun k=>base≤k) v xs) (lo B:Nat) (hl:lo≤base) (hB:B≤base):ab (Kd.N d e w B (fun k=>lo≤k∧k<w.heap.size) v xs):=⟨Kd.lW (Kd.d_ (Kd.pa h) (fun _ hk=>⟨Nat.le_trans hl hk.1,hk.2⟩)) hB⟩
end
def cA.f (k:Nat) (ag:List mo) (ak:Int) (a1:ByteArray) (a2:Int) (l3:List Int):Option Bool:=
 if(a1.size:Int)>1048576 then some true else if(l3.length:Int)>1048576 then some true else(jh.f k ag ak 1048576).bind fun R=>if R<0 then some true else
 (ig.f k ag ak).bind fun t=>(cM.f k l3).bind fun u=>(aw.f k t.1 t.2 a1 a2 u).bind fun p=>(gx.f k t.1 t.2 a1 a2 u).bind fun s=>
 (fv.f k s.1 s.2.1 p.1 p.2.1).bind fun e1=>(fv.f k t.1 t.2 t.1 t.2).bind fun e2=>(cO.f k u u).bind fun e3=>(eo.f k t.1 1).bind fun mt=>
 (cI.f k u mt.1).bind fun mb=>(eo.f k s.1 1).bind fun m=>(eS.f k m.2 s.2.1 1).bind fun q=>
 if s.2.2=p.2.2∧e1=true∧e2=true∧e3=true∧¬mb.1<0∧¬q<0∧q=m.1∧m.2.length=s.1.length then some true else none
set_option maxHeartbeats 8000000 in
set_option maxRecDepth 100000 in
theorem cA.calls (k:Nat) (bj:Option Addr) (aW:Nat) (ag:List mo) (ak:Int) (a1:ByteArray) (a2:Int) (A3:Option Addr) (c3:Nat) (l3:List Int) (r:Bool) (w:World) (ch:Kd.C k92 w bj ag.length ag) (ck:ag.length≤aW) (hr3:Kd.C (Kd.int .u8) w A3 l3.length l3) (hc3:l3.length≤c3) (h:cA.f k ag ak a1 a2 l3=some r) (hG:GOk w:=by exact gk_ oB (by first|(with_reducible assumption)|assumption)):
  Calls Tryz.prog 7 #[.agg #[.slice bj ag.length aW,.int .i64 ak],.string a1,.int .i64 a2,.slice A3 l3.length c3] w fun e w'=>e= .returned (.bool r)∧Below w.heap.size w w':=by
 have HG:=ab.mk hG;clear hG;have rZ:=ab.mk ch;have r_:=ab.mk ck;clear ch ck;have HB:=am (Below.refl w.heap.size w);unfold cA.f at h;have HR3:=ab.mk hr3;have HC3:=ab.mk hc3;clear hr3 hc3
 split at h
 case isTrue hg=>
  have cg0:decide ((a1.size:Int)>1048576)=true:=decide_eq_true hg;have dg0:decide (1048576<(a1.size:Int))=true:=decide_eq_true (by omega);obtain rfl:=Option.some.inj h;clear h hg
  go_enter Tryz.func7,Tryz.ntmps7
  go_wp2
  go_ret
  exact⟨rfl,oB⟩
 case isFalse hg=>
 have cg0:decide ((a1.size:Int)>1048576)=false:=decide_eq_false hg;have dg0:decide (1048576<(a1.size:Int))=false:=decide_eq_false (by omega);clear hg
 split at h
 case isTrue hg=>
  have cg1:decide ((l3.length:Int)>1048576)=true:=decide_eq_true hg;have dg1:decide (1048576<(l3.length:Int))=true:=decide_eq_true (by omega);obtain rfl:=Option.some.inj h;clear h hg
  go_enter Tryz.func7,Tryz.ntmps7
  go_wp2
  go_ret
  exact⟨rfl,oB⟩
 case isFalse hg=>
 have cg1:decide ((l3.length:Int)>1048576)=false:=decide_eq_false hg;have dg1:decide (1048576<(l3.length:Int))=false:=decide_eq_false (by omega);clear hg;replace h:=bA h;obtain⟨R,H1,h⟩:=h
 split at h
 case isTrue hR=>
  have cR:decide (R<0)=true:=decide_eq_true hR;obtain rfl:=Option.some.inj h;clear h hR
  go_enter Tryz.func7,Tryz.ntmps7
  go_wp2_with fail
  refine(jh.calls k _ _ ag ak 1048576 R _ (kC rZ) r_.out H1.out).mono ?_;rintro e w1 ⟨rfl,hb⟩;replace HB:=hB HB hb
  go_wp2
  go_ret
  exact⟨rfl,oB⟩
 case isFalse hR=>
 have cR:decide (R<0)=false:=decide_eq_false hR;clear hR;replace h:=bA h;obtain⟨⟨tl,tn⟩,H2,h⟩:=h;replace h:=bA h;obtain⟨u,HU,h⟩:=h;replace h:=bA h;obtain⟨⟨p1,p2,p3⟩,H3,h⟩:=h;replace h:=bA h;obtain⟨⟨s1,s2,s3⟩,H4,h⟩:=h;replace h:=bA h;obtain⟨e1,H5,h⟩:=h;replace h:=bA h;obtain⟨e2,H6,h⟩:=h;replace h:=bA h;obtain⟨e3,H6b,h⟩:=h;replace h:=bA h;obtain⟨⟨mt,ml⟩,H7,h⟩:=h;replace h:=bA h;obtain⟨⟨mb,m3⟩,H7b,h⟩:=h;replace h:=bA h;obtain⟨⟨mk,mg⟩,H8,h⟩:=h;replace h:=bA h;obtain⟨q,H9,h⟩:=h
 split at h
 case isFalse=>cases h
 case isTrue hh=>
 try dsimp only at hh
 obtain⟨rfl,rfl,rfl,rfl,hmt,hq,rfl,l4⟩:=hh;obtain rfl:=Option.some.inj h;clear h;have cm:decide (mb<0)=false:=decide_eq_false hmt;have cq:decide (q<0)=false:=decide_eq_false hq;clear hmt hq;have L4:=ab.mk l4;clear l4
 try dsimp only at H3 H4 H5 H6 H7 H8 H9 HU H6b H7b L4
 go_enter Tryz.func7,Tryz.ntmps7
 go_wp2_with fail
 refine(jh.calls k _ _ ag ak 1048576 R _ (kC rZ) r_.out H1.out).mono ?_;rintro e w1 ⟨rfl,hb⟩
 have n1:w.heap.size+1≤w1.heap.size:=by have:=hb.size;simpa using this
 have ef:=aab hb;replace hb:=bold hb;replace HB:=hB HB hb;clear hb;have me:=z2 ef;have mf:=kx ef
 go_wp2_with fail
 refine(ig.calls k _ _ ag ak tl tn _ (kC rZ) r_.out H2.out).mono ?_;rintro e w2 ⟨v_t0,rfl,acG,hb⟩;obtain⟨A_t0,c_t0,rfl⟩:=Kd.im acG;have uI:=sD acG (w1.heap.size) w.heap.size (by simp) (ah oB);clear acG
 have n2:w1.heap.size≤w2.heap.size:=by have:=hb.size;simpa using this
 replace ef:=ew ef hb;replace HB:=hB HB hb;clear hb;replace me:=z2 ef;replace mf:=kx ef
 go_wp2_with fail
 refine(cM.calls k _ _ l3 u _ (kC HR3) HC3.out HU.out).mono ?_;rintro e w3 ⟨v_ut0,rfl,aac,hb⟩;obtain⟨A_ut0,c_ut0,rfl⟩:=Kd.ax aac;have tC:=uJ aac (w2.heap.size) w.heap.size (by simp) (ah oB);clear aac
 have n3:w2.heap.size≤w3.heap.size:=by have:=hb.size;simpa using this
 replace ef:=ew ef hb;replace uI:=sb uI hb;replace HB:=hB HB hb;clear hb;replace me:=z2 ef;replace mf:=kx ef
 go_wp2_with fail
 refine(aw.calls k _ _ tl tn a1 a2 _ _ u p1 p2 s3 _ (rS uI) (rl uI) (kO tC) (rlR tC) H3.out).mono ?_;rintro e w4 ⟨v_w0,rfl,acH,hb⟩;obtain⟨A_w0,c_w0,rfl⟩:=Kd.lB acH;have gu:=aeb acH (w3.heap.size) w.heap.size (by simp) (ah oB);clear acH
 have n4:w3.heap.size≤w4.heap.size:=by have:=hb.size;simpa using this
 replace ef:=ew ef hb;replace uI:=sb uI hb;replace tC:=rb tC hb;replace HB:=hB HB hb;clear hb;replace me:=z2 ef;replace mf:=kx ef;clear uI;clear tC
 go_wp2_with fail
 refine(ig.calls k _ _ ag ak tl tn _ (kC rZ) r_.out H2.out).mono ?_;rintro e w5 ⟨v_x0,rfl,aad,hb⟩;obtain⟨aec,aed,rfl⟩:=Kd.im aad;have lL:=sD aad (w4.heap.size+1) w.heap.size (by simp) (ah oB);clear aad
 have n5:w4.heap.size+1≤w5.heap.size:=by have:=hb.size;simpa using this
 have eE:=aab hb;replace hb:=bold hb;replace ef:=ew ef hb;replace gu:=nb gu hb;replace HB:=hB HB hb;clear hb;replace me:=z2 ef;replace mf:=kx ef;have nI:=z2 eE;have nJ:=kx eE
 go_wp2_with fail
 refine(cM.calls k _ _ l3 u _ (kC HR3) HC3.out HU.out).mono ?_;rintro e w6 ⟨v_ux0,rfl,tD,hb⟩;obtain⟨A_ux0,c_ux0,rfl⟩:=Kd.ax tD;have jj:=uJ tD (w5.heap.size+1) w.heap.size (by simp) (ah oB);clear tD
 have n6:w5.heap.size+1≤w6.heap.size:=by have:=hb.size;simpa using this
 have kA:=aab hb;replace hb:=bold hb;replace ef:=ew ef hb;replace eE:=ew eE hb;replace gu:=nb gu hb;replace lL:=sb lL hb;replace HB:=hB HB hb;clear hb;replace me:=z2 ef;replace mf:=kx ef;replace nI:=z2 eE;replace nJ:=kx eE;have uK:=z2 kA;have uL:=kx kA
 go_wp2_with fail
 refine(gx.calls k _ _ tl tn a1 a2 _ _ u s1 s2 s3 _ (rS lL) (rl lL) (kO jj) (rlR jj) H4.out).mono ?_;rintro e w7 ⟨v_g0,rfl,wM,hb⟩;obtain⟨A_g0,c_g0,rfl⟩:=Kd.im wM;have iz:=sD wM (w6.heap.size) w.heap.size (by simp) (ah oB);clear wM
 have n7:w6.heap.size≤w7.heap.size:=by have:=hb.size;simpa using this
 replace ef:=ew ef hb;replace eE:=ew eE hb;replace kA:=ew kA hb;replace gu:=nb gu hb;replace lL:=sb lL hb;replace jj:=rb jj hb;replace HB:=hB HB hb;clear hb;replace me:=z2 ef;replace mf:=kx ef;replace nI:=z2 eE;replace nJ:=kx eE;replace uK:=z2 kA;replace uL:=kx kA
 go_wp2_with fail
 refine(fv.calls k _ _ s1 s2 _ _ p1 p2 true _ (rS iz) (rl iz) (nS gu) (nl gu) H5.out).mono ?_;rintro e w8 ⟨rfl,hb⟩
 have n8:w7.heap.size+1≤w8.heap.size:=by have:=hb.size;simpa using this
 have fb:=aab hb;replace hb:=bold hb;replace ef:=ew ef hb;replace eE:=ew eE hb;replace kA:=ew kA hb;replace gu:=nb gu hb;replace lL:=sb lL hb;replace jj:=rb jj hb;replace iz:=sb iz hb;replace HB:=hB HB hb;clear hb;replace me:=z2 ef;replace mf:=kx ef;replace nI:=z2 eE;replace nJ:=kx eE;replace uK:=z2 kA;replace uL:=kx kA;have pb:=z2 fb;have pc:=kx fb
 go_wp2_with fail
 replace ef:=wh ef;replace eE:=wh eE;replace kA:=wh kA;replace fb:=wh fb;replace gu:=adA gu;replace lL:=acj lL;replace jj:=adB jj;replace iz:=acj iz;replace HB:=am (ar HB.out);have n9:w8.heap.size≤w8.drew.heap.size:=Nat.le_refl _;clear me mf nI nJ uK uL pb pc;refine mq 5 (fun w'=>w'.cell? ⟨w5.heap.size,0,none⟩=some (.slice aec tl.length aed)∧w'.cell? ⟨w5.heap.size,1,none⟩=some (.int .i64 tn)∧w'.cell? ⟨w.heap.size,0,none⟩=some (.slice bj ag.length aW)∧w'.cell? ⟨w.heap.size,1,none⟩=some (.int .i64 ak)) cA.adz cA.acE oH (fun hHeld av ey=> ?_);generalize w8.drew=w9 at HB hHeld n9 ef eE kA fb gu lL jj iz⊢;refine fJ 0 63 av ey hHeld ?_;refine fJ 1 64 av ey hHeld ?_;refine kF 2 65 av (fun K hK=> ?_);refine lU 65 Tryz.func12 (ig.calls k _ _ ag ak tl tn _ (kC rZ) r_.out H2.out) ?_;rintro e w10 ⟨v_y0,rfl,acI,hb⟩;obtain⟨A_y0,c_y0,rfl⟩:=Kd.im acI;have aae:=sD acI (w9.heap.size) w.heap.size (by simp) (ah oB);clear acI;refine⟨_,rfl,?_⟩
 have n10:w9.heap.size≤w10.heap.size:=by have:=hb.size;simpa using this
 replace ef:=ew ef hb;replace eE:=ew eE hb;replace kA:=ew kA hb;replace fb:=ew fb hb;replace gu:=nb gu hb;replace lL:=sb lL hb;replace jj:=rb jj hb;replace iz:=sb iz hb;replace HB:=hB HB hb;clear hb hHeld;refine fV hK 65 oH (fun hHeld=> ?_);clear hK K;refine kF 3 66 av (fun K hK=> ?_);refine lU 66 Tryz.func14 (fv.calls k _ _ tl tn _ _ tl tn true _ (rS lL) (rl lL) (rS aae) (rl aae) H6.out) ?_;rintro e w11 ⟨rfl,hb⟩;refine⟨_,rfl,?_⟩
 have n11:w10.heap.size≤w11.heap.size:=by have:=hb.size;simpa using this
 replace ef:=ew ef hb;replace eE:=ew eE hb;replace kA:=ew kA hb;replace fb:=ew fb hb;replace gu:=nb gu hb;replace lL:=sb lL hb;replace jj:=rb jj hb;replace iz:=sb iz hb;replace aae:=sb aae hb;replace HB:=hB HB hb;clear hb hHeld;refine fV hK 66 oH (fun hHeld=> ?_);clear hK K;refine b_ 4 67 av ?_;refine lX av ?_;clear hHeld av ey;have me:=z2 ef;have mf:=kx ef;have nI:=z2 eE;have nJ:=kx eE;have uK:=z2 kA;have uL:=kx kA;have pb:=z2 fb;have pc:=kx fb;clear aae
 go_wp2_with fail
 refine(cM.calls k _ _ l3 u _ (kC HR3) HC3.out HU.out).mono ?_;rintro e w12 ⟨v_uy0,rfl,aaf,hb⟩;obtain⟨A_uy0,c_uy0,rfl⟩:=Kd.ax aaf;have tE:=uJ aaf (w11.heap.size) w.heap.size (by simp) (ah oB);clear aaf
 have n12:w11.heap.size≤w12.heap.size:=by have:=hb.size;simpa using this
 replace ef:=ew ef hb;replace eE:=ew eE hb;replace kA:=ew kA hb;replace fb:=ew fb hb;replace gu:=nb gu hb;replace lL:=sb lL hb;replace jj:=rb jj hb;replace iz:=sb iz hb;replace HB:=hB HB hb;clear hb;replace me:=z2 ef;replace mf:=kx ef;replace nI:=z2 eE;replace nJ:=kx eE;replace uK:=z2 kA;replace uL:=kx kA;replace pb:=z2 fb;replace pc:=kx fb
 go_wp2_with fail
 refine(cO.calls k _ _ u _ _ u true _ (kO jj) (rlR jj) (kO tE) (rlR tE) H6b.out).mono ?_;rintro e w13 ⟨rfl,hb⟩;replace hb:=eX.below hb
 have n13:w12.heap.size≤w13.heap.size:=by have:=hb.size;simpa using this
 replace ef:=ew ef hb;replace eE:=ew eE hb;replace kA:=ew kA hb;replace fb:=ew fb hb;replace gu:=nb gu hb;replace lL:=sb lL hb;replace jj:=rb jj hb;replace iz:=sb iz hb;replace tE:=rb tE hb;replace HB:=hB HB hb;clear hb;replace me:=z2 ef;replace mf:=kx ef;replace nI:=z2 eE;replace nJ:=kx eE;replace uK:=z2 kA;replace uL:=kx kA;replace pb:=z2 fb;replace pc:=kx fb;clear tE
 go_wp2_with fail
 refine(pd.calls k _ _ tl tn 1 mt ml w _ HB.out lL.out H7.out).mono ?_;rintro e w14 ⟨rfl,aad,hb,hk⟩;have n14:w13.heap.size≤w14.heap.size:=hk.1;replace gu:=nk gu hk (fun q h h'=>by omega);replace jj:=rk jj hk (fun q h h'=>by omega);replace iz:=sk iz hk (fun q h h'=>by omega);replace ef:=pe ef hk (fun h=>by omega);replace eE:=pe eE hk (fun h=>by omega);clear kA uK uL;replace fb:=pe fb hk (fun h=>by omega);clear lL;clear aad;replace HB:=ab.mk hb;clear hb hk;replace me:=z2 ef;replace mf:=kx ef;replace nI:=z2 eE;replace nJ:=kx eE;replace pb:=z2 fb;replace pc:=kx fb
 go_wp2_with fail
 refine(cI.calls k _ _ u mt mb m3 w _ HB.out jj.out H7b.out).mono ?_;rintro e w15 ⟨rfl,tD,hb,hk⟩;have n15:w14.heap.size≤w15.heap.size:=hk.1;replace gu:=nk gu hk (fun q h h'=>by omega);replace iz:=sk iz hk (fun q h h'=>by omega);replace ef:=pe ef hk (fun h=>by omega);replace eE:=pe eE hk (fun h=>by omega);replace fb:=pe fb hk (fun h=>by omega);clear jj;clear tD;replace HB:=ab.mk hb;clear hb hk;replace me:=z2 ef;replace mf:=kx ef;replace nI:=z2 eE;replace nJ:=kx eE;replace pb:=z2 fb;replace pc:=kx fb
 go_wp2_with fail
 refine(fv.calls k _ _ s1 s2 _ _ p1 p2 true _ (rS iz) (rl iz) (nS gu) (nl gu) H5.out).mono ?_;rintro e w16 ⟨rfl,hb⟩
 have n16:w15.heap.size≤w16.heap.size:=by have:=hb.size;simpa using this
 replace ef:=ew ef hb;replace eE:=ew eE hb;replace fb:=ew fb hb;replace gu:=nb gu hb;replace iz:=sb iz hb;replace HB:=hB HB hb;clear hb;replace me:=z2 ef;replace mf:=kx ef;replace nI:=z2 eE;replace nJ:=kx eE;replace pb:=z2 fb;replace pc:=kx fb
 go_wp2_with fail
 refine(pd.calls k _ _ s1 s2 1 q mg w _ HB.out iz.out H8.out).mono ?_;rintro e w17 ⟨rfl,wM,hb,hk⟩;have n17:w16.heap.size≤w17.heap.size:=hk.1;replace gu:=nk gu hk (fun q h h'=>by omega);replace ef:=pe ef hk (fun h=>by omega);replace eE:=pe eE hk (fun h=>by omega);replace fb:=pe fb hk (fun h=>by omega);replace iz:=ab.mk wM;clear wM;replace HB:=ab.mk hb;clear hb hk;replace me:=z2 ef;replace mf:=kx ef;replace nI:=z2 eE;replace nJ:=kx eE;replace pb:=z2 fb;replace pc:=kx fb
 go_wp2_with fail
 refine(eS.calls' k _ _ _ mg s2 1 q _ L4.out (rS iz) (rl iz) H9.out).mono ?_;rintro e w18 ⟨rfl,hb⟩
 have n18:w17.heap.size≤w18.heap.size:=by have:=hb.size;simpa using this
 replace ef:=ew ef hb;replace eE:=ew eE hb;replace fb:=ew fb hb;replace gu:=nb gu hb;replace iz:=sb iz hb;replace HB:=hB HB hb;clear hb;replace me:=z2 ef;replace mf:=kx ef;replace nI:=z2 eE;replace nJ:=kx eE;replace pb:=z2 fb;replace pc:=kx fb
 go_wp2_with fail
 refine(ig.calls k _ _ ag ak tl tn _ (kC rZ) r_.out H2.out).mono ?_;rintro e w19 ⟨v_z0,rfl,acJ,hb⟩;obtain⟨A_z0,c_z0,rfl⟩:=Kd.im acJ;have rO:=sD acJ (w18.heap.size) w.heap.size (by simp) (ah oB);clear acJ
 have n19:w18.heap.size≤w19.heap.size:=by have:=hb.size;simpa using this
 replace ef:=ew ef hb;replace eE:=ew eE hb;replace fb:=ew fb hb;replace gu:=nb gu hb;replace iz:=sb iz hb;replace HB:=hB HB hb;clear hb;replace me:=z2 ef;replace mf:=kx ef;replace nI:=z2 eE;replace nJ:=kx eE;replace pb:=z2 fb;replace pc:=kx fb
 go_wp2_with fail
 refine(cM.calls k _ _ l3 u _ (kC HR3) HC3.out HU.out).mono ?_;rintro e w20 ⟨v_uz0,rfl,aag,hb⟩;obtain⟨A_uz0,c_uz0,rfl⟩:=Kd.ax aag;have pZ:=uJ aag (w19.heap.size) w.heap.size (by simp) (ah oB);clear aag
 have n20:w19.heap.size≤w20.heap.size:=by have:=hb.size;simpa using this
 replace ef:=ew ef hb;replace eE:=ew eE hb;replace fb:=ew fb hb;replace gu:=nb gu hb;replace iz:=sb iz hb;replace rO:=sb rO hb;replace HB:=hB HB hb;clear hb;replace me:=z2 ef;replace mf:=kx ef;replace nI:=z2 eE;replace nJ:=kx eE;replace pb:=z2 fb;replace pc:=kx fb
 go_wp2_with fail
 refine(gx.calls k _ _ tl tn a1 a2 _ _ u s1 s2 s3 _ (rS rO) (rl rO) (kO pZ) (rlR pZ) H4.out).mono ?_;rintro e w21 ⟨v_h0,rfl,acK,hb⟩;obtain⟨A_h0,c_h0,rfl⟩:=Kd.im acK;have wN:=sD acK (w20.heap.size) w.heap.size (by simp) (ah oB);clear acK
 have n21:w20.heap.size≤w21.heap.size:=by have:=hb.size;simpa using this
 replace ef:=ew ef hb;replace eE:=ew eE hb;replace fb:=ew fb hb;replace gu:=nb gu hb;replace iz:=sb iz hb;replace rO:=sb rO hb;replace pZ:=rb pZ hb;replace HB:=hB HB hb;clear hb;replace me:=z2 ef;replace mf:=kx ef;replace nI:=z2 eE;replace nJ:=kx eE;replace pb:=z2 fb;replace pc:=kx fb
 go_wp2_with fail
 refine(fv.calls k _ _ s1 s2 _ _ p1 p2 true _ (rS wN) (rl wN) (nS gu) (nl gu) H5.out).mono ?_;rintro e w22 ⟨rfl,hb⟩
 have n22:w21.heap.size+1≤w22.heap.size:=by have:=hb.size;simpa using this
 have wO:=aab hb;replace hb:=bold hb;replace ef:=ew ef hb;replace eE:=ew eE hb;replace fb:=ew fb hb;replace gu:=nb gu hb;replace iz:=sb iz hb;replace rO:=sb rO hb;replace pZ:=rb pZ hb;replace wN:=sb wN hb;replace HB:=hB HB hb;clear hb;replace me:=z2 ef;replace mf:=kx ef;replace nI:=z2 eE;replace nJ:=kx eE;replace pb:=z2 fb;replace pc:=kx fb;have aee:=z2 wO;have aef:=kx wO
 go_wp2_with fail
 refine(eS.calls' k _ _ _ mg s2 1 q _ L4.out (rS iz) (rl iz) H9.out).mono ?_;rintro e w23 ⟨rfl,hb⟩
 have n23:w22.heap.size≤w23.heap.size:=by have:=hb.size;simpa using this
 replace ef:=ew ef hb;replace eE:=ew eE hb;replace fb:=ew fb hb;replace wO:=ew wO hb;replace gu:=nb gu hb;replace iz:=sb iz hb;replace rO:=sb rO hb;replace pZ:=rb pZ hb;replace wN:=sb wN hb;replace HB:=hB HB hb;clear hb;replace me:=z2 ef;replace mf:=kx ef;replace nI:=z2 eE;replace nJ:=kx eE;replace pb:=z2 fb;replace pc:=kx fb;replace aee:=z2 wO;replace aef:=kx wO
 go_wp2_with fail
 go_ret
 exact⟨rfl,oB⟩
end Go.Proofs.YtlecajlnjmbilaaGreatDoor.P
