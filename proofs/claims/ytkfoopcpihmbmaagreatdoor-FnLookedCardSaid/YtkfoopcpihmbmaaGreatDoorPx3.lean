-- Printed walks.
import Derived.Test.YtkfoopcpihmbmaaGreatDoorPx2
set_option linter.all false
set_option maxHeartbeats 8000000
set_option maxRecDepth 100000
namespace Go.Proofs.YtkfoopcpihmbmaaGreatDoor.P
open Go.RowKit Go.Proofs.ab.av Go.Proofs.ab.aQ Go.Proofs.ab.aT Go.Proofs.Tryz
attribute [local go_sem] fP fQ hJ hO fm fo fR fS

def dh.f (eX:Int) (al:Int) (fc:Int) (eO:List Int) (eh:List (cD)) (eM:List (bj)):Option (Int×Int×Int×List Int×(List (cD))×(List (bj))):=(some (([]:List Int):List Int)).bind fun b1=>(if b1.length+eO.length<140737488355328 then((some (([]:List (cD)):List (cD))).bind fun b2=>(if b2.length+eh.length<5864062014805 then((some (([]:List (bj)):List (bj))).bind fun b3=>(if b3.length+eM.length<4398046511104 then(some (eX,al,fc,(b1++eO),(b2++eh),(b3++eM)))else(none)))else(none)))else(none))
theorem dh.calls (eX:Int) (al:Int) (fc:Int) (lD:Option Addr) (lE:Nat) (eO:List Int) (ld:Option Addr) (lf:Nat) (eh:List (cD)) (kB:Option Addr) (kE:Nat) (eM:List (bj)) (r1:Int) (r2:Int) (r3:Int) (r4:List Int) (r5:List (cD)) (r6:List (bj)) (w:World) (lP:Kd.C (Kd.int .u8) w lD eO.length eO) (lQ:eO.length≤lE) (lR:Kd.C fL w ld eh.length eh) (lS:eh.length≤lf) (lT:Kd.C dn w kB eM.length eM) (lU:eM.length≤kE) (h:dh.f eX al fc eO eh eM=some (r1,r2,r3,r4,r5,r6)):
  Calls Tryz.prog 100 #[.agg #[.int .i64 eX,.int .i64 al,.int .i64 fc,.slice lD eO.length lE,.slice ld eh.length lf,.slice kB eM.length kE]] w fun e w'=>∃pJ pK pL:Value,e= .returned (.agg #[.int .i64 r1,.int .i64 r2,.int .i64 r3,pJ,pK,pL])∧Kd.R (Kd.int .u8) 5 w' w.heap.size (fun _=>True) pJ r4∧Kd.R fL 74 w' w.heap.size (fun _=>True) pK r5∧Kd.R dn 101 w' w.heap.size (fun _=>True) pL r6∧Below w.heap.size w w':=by
 have dS:=underlying32;have bX:=ae.mk lP;have dG:=ae.mk lQ;clear lP lQ;have bY:=ae.mk lR;have dH:=ae.mk lS;clear lR lS;have bZ:=ae.mk lT;have dI:=ae.mk lU;clear lT lU;have HB:=am (Below.refl w.heap.size w);unfold dh.f at h;have H:=h;clear h;obtain⟨bH,cx⟩:∃y_:List Int,y_=(([]:List Int)):=⟨_,rfl⟩;replace H:(if bH.length+eO.length<140737488355328 then((some (([]:List (cD)):List (cD))).bind fun b6=>(if b6.length+eh.length<5864062014805 then((some (([]:List (bj)):List (bj))).bind fun b4=>(if b4.length+eM.length<4398046511104 then(some (eX,al,fc,(bH++eO),(b6++eh),(b4++eM)))else(none)))else(none)))else(none))=some (r1,r2,r3,r4,r5,r6):=oY;have bQ:=ae.mk cx;clear cx;obtain⟨c2,H⟩:=jm H;have d5:=ae.mk c2;clear c2;obtain⟨b8,cx⟩:∃y_:List Int,y_=(bH++eO):=⟨_,rfl⟩;replace H:((some (([]:List (cD)):List (cD))).bind fun b6=>(if b6.length+eh.length<5864062014805 then((some (([]:List (bj)):List (bj))).bind fun b4=>(if b4.length+eM.length<4398046511104 then(some (eX,al,fc,b8,(b6++eh),(b4++eM)))else(none)))else(none)))=some (r1,r2,r3,r4,r5,r6):=oY;have d1:=ae.mk cx;clear cx;obtain⟨b6,cx⟩:∃y_:List (cD),y_=(([]:List (cD))):=⟨_,rfl⟩;replace H:(if b6.length+eh.length<5864062014805 then((some (([]:List (bj)):List (bj))).bind fun b4=>(if b4.length+eM.length<4398046511104 then(some (eX,al,fc,b8,(b6++eh),(b4++eM)))else(none)))else(none))=some (r1,r2,r3,r4,r5,r6):=oY;have bR:=ae.mk cx;clear cx;obtain⟨c3,H⟩:=jm H;have d6:=ae.mk c3;clear c3;obtain⟨bD,cx⟩:∃y_:List (cD),y_=(b6++eh):=⟨_,rfl⟩;replace H:((some (([]:List (bj)):List (bj))).bind fun b4=>(if b4.length+eM.length<4398046511104 then(some (eX,al,fc,b8,bD,(b4++eM)))else(none)))=some (r1,r2,r3,r4,r5,r6):=oY;have d2:=ae.mk cx;clear cx;obtain⟨b4,cx⟩:∃y_:List (bj),y_=(([]:List (bj))):=⟨_,rfl⟩;replace H:(if b4.length+eM.length<4398046511104 then(some (eX,al,fc,b8,bD,(b4++eM)))else(none))=some (r1,r2,r3,r4,r5,r6):=oY;have bS:=ae.mk cx;clear cx;obtain⟨c4,H⟩:=jm H;have d7:=ae.mk c4;clear c4;obtain⟨bU,cx⟩:∃y_:List (bj),y_=(b4++eM):=⟨_,rfl⟩;replace H:(some (eX,al,fc,b8,bD,bU))=some (r1,r2,r3,r4,r5,r6):=oY;have d3:=ae.mk cx;clear cx;simp only[Option.some.injEq,Prod.mk.injEq]at H;obtain⟨rfl,rfl,rfl,rfl,rfl,rfl⟩:=H
 go_enter func100,ntmps100
 go_wp2_with (first|((with_reducible refine au (N:=1) rfl ?_);refine fz 1 #[.int .i64 eX,.int .i64 al,.int .i64 fc,.slice lD eO.length lE,.slice ld eh.length lf,.slice kB eM.length kE] 32 ?_;intro dJ hg w5 hbox hb;have b1:=am (hbox);have dK:=fO hg;replace HB:=hB HB hb;clear hb hbox hg)|((with_reducible refine au (N:=2) rfl ?_);refine fz 2 #[.int .i64 0,.int .i64 0,.int .i64 0,.slice none 0 0,.slice none 0 0,.slice none 0 0] 32 ?_;intro d4 hg w6 hbox hb;have b3:=am (hbox);have dL:=fO hg;have bI:=fX hg b1;have bJ:=fY hg b1;replace b1:=ba b1 hb;replace HB:=hB HB hb;clear hb hbox hg;have dT:=bI.out;have dU:=bJ.out;obtain⟨⟨_,_,_,_,_,_⟩,_,_,_,_,_,_⟩:=z6 b1)|((with_reducible refine au (N:=3) rfl ?_);refine fz 3 #[.int .i64 0,.int .i64 0,.int .i64 0,.slice none 0 0,.slice none 0 0,.slice none 0 0] 32 ?_;intro dM hg w9 hbox hb;have b2:=am (hbox);have dN:=fO hg;have bK:=fX hg b1;have bL:=fY hg b1;have bM:=fX hg b3;have bN:=fY hg b3;replace b1:=ba b1 hb;replace b3:=ba b3 hb;replace HB:=hB HB hb;clear hb hbox hg;have dO:=bL.out;have dP:=bK.out;have dQ:=bN.out;have dR:=bM.out;obtain⟨⟨_,_,_,_,_,_⟩,_,_,_,_,_,_⟩:=z6 b2)|((with_reducible refine au (N:=5) rfl ?_);refine Kd.gu (Kd.int .u8) _ 5 ?hg (N:=5) ?hd (xs:=([]:List Int)) (inner:=[]) (ok:=fun _=>True) (fw:=fun _=>True) ?hr ?hp (fun _ hk=>hk) trivial (Below.refl _ _) (Nat.le_refl _) (by simp) ?_;(case hd=>rfl);(case hg=>rfl);(case hr=>(go_simp;done));(case hp=>exact(bp.none _ _));intro d8 dY bE hb fN cj;clear fN cj;(rw[←bQ.out]at bE);have bC:=am (Kd.aq bE (af oB));replace b1:=ba b1 hb;replace b3:=ba b3 hb;replace b2:=mc #[.int .i64 eX,.int .i64 al,.int .i64 fc,.slice lD eO.length lE,.slice ld eh.length lf,.slice kB eM.length kE] b2 hb;replace HB:=hB HB hb;clear hb bE;obtain⟨⟨_,_,_,_,_,_⟩,_,_,_,_,_,_⟩:=z6 b1)|((with_reducible refine cX (b:= .append) (xs:= #[.tmp 5,.tmp 7]) rfl ?_);at_builtin;refine Kd.fM (Kd.int .u8) (w0:=w) w.heap.size rfl (.tmp 5) (.tmp 7) 22 5 (.int .u8 0) 1 rfl underlying22 info5 rfl (by decide) (by omega) d8 bH eO _ _ _ (fun _=>True) (fun _=>False) rfl rfl ?aO ?aR (fun _ _ h=>h) (fun _ h=>h.elim) ?aF ?aB ?aS ?aL ?_;(case aR=>repeat(exact(Kd.cR bX.out HB.out)));(case aB=>exact oB);(case aF=>exact(fun _ _=>trivial));(case aO=>exact(oR bC));(case aS=>exact(af oB));(case aL=>have:=d5.out;omega);intro dV dZ ho hb hg hat;rw[←d1.out]at ho;have b5:=am (ho);replace b1:=iF b1 hg (Kd.ig bC.out b1.out (by decide));replace b3:=iF b3 hg (Kd.ig bC.out b3.out (by decide));replace b2:=iF b2 hg (Kd.ig bC.out b2.out (by decide));replace HB:=am (hb);clear bC;clear ho hb hg hat;obtain⟨bO,bP,d9⟩:=Kd.ao b5.out;subst d9;obtain⟨⟨_,_,_,_,_,_⟩,_,_,_,_,_,_⟩:=z6 b2)|((with_reducible refine au (N:=10) rfl ?_);refine Kd.gu fL _ 74 ?hg (N:=10) ?hd (xs:=([]:List (cD))) (inner:=[]) (ok:=fun _=>True) (fw:=fun _=>True) ?hr ?hp (fun _ hk=>hk) trivial (Below.refl _ _) (Nat.le_refl _) (by simp) ?_;(case hd=>rfl);(case hg=>rfl);(case hr=>(go_simp;done));(case hp=>exact(bp.none _ _));intro dA gA bF hb fN cj;clear fN cj;(rw[←bR.out]at bF);have b9:=am (Kd.aq bF (af oB));replace b5:=du b5 b2 hb;replace b1:=ba b1 hb;replace b3:=ba b3 hb;replace b2:=mc #[.int .i64 eX,.int .i64 al,.int .i64 fc,.slice bO b8.length bP,.slice ld eh.length lf,.slice kB eM.length kE] b2 hb;replace HB:=hB HB hb;clear hb bF;obtain⟨⟨_,_,_,_,_,_⟩,_,_,_,_,_,_⟩:=z6 b1)|((with_reducible refine cX (b:= .append) (xs:= #[.tmp 10,.tmp 12]) rfl ?_);at_builtin;refine Kd.fM fL (w0:=w) w.heap.size rfl (.tmp 10) (.tmp 12) 29 74 (.agg #[(.string ⟨#[]⟩),(.int .i64 0)]) 24 rfl underlying29 nj rfl (by decide) (by omega) dA b6 eh _ _ _ (fun _=>True) (fun _=>False) rfl rfl ?aO ?aR (fun _ _ h=>h) (fun _ h=>h.elim) ?aF ?aB ?aS ?aL ?_;(case aR=>repeat(exact(Kd.cR bY.out HB.out)));(case aB=>exact oB);(case aF=>exact(fun _ _=>trivial));(case aO=>exact(oR b9));(case aS=>exact(af oB));(case aL=>have:=d6.out;omega);intro dW gB ho hb hg hat;rw[←d2.out]at ho;have bB:=am (ho);replace b1:=iF b1 hg (Kd.ig b9.out b1.out (by decide));replace b3:=iF b3 hg (Kd.ig b9.out b3.out (by decide));replace b2:=iF b2 hg (Kd.ig b9.out b2.out (by decide));replace b5:=am (Kd.ev (oR b5) (Kd.ee (oR b9)) (by decide) hg);replace HB:=am (hb);clear b9;clear ho hb hg hat;obtain⟨bV,bW,dB⟩:=Kd.ao bB.out;subst dB;obtain⟨⟨_,_,_,_,_,_⟩,_,_,_,_,_,_⟩:=z6 b2)|((with_reducible refine au (N:=15) rfl ?_);refine Kd.gu dn _ 101 ?hg (N:=15) ?hd (xs:=([]:List (bj))) (inner:=[]) (ok:=fun _=>True) (fw:=fun _=>True) ?hr ?hp (fun _ hk=>hk) trivial (Below.refl _ _) (Nat.le_refl _) (by simp) ?_;(case hd=>rfl);(case hg=>rfl);(case hr=>(go_simp;done));(case hp=>exact(bp.none _ _));intro dC gC bG hb fN cj;clear fN cj;(rw[←bS.out]at bG);have b7:=am (Kd.aq bG (af oB));replace b5:=du b5 b2 hb;replace bB:=du bB b2 hb;replace b1:=ba b1 hb;replace b3:=ba b3 hb;replace b2:=mc #[.int .i64 eX,.int .i64 al,.int .i64 fc,.slice bO b8.length bP,.slice bV bD.length bW,.slice kB eM.length kE] b2 hb;replace HB:=hB HB hb;clear hb bG;obtain⟨⟨_,_,_,_,_,_⟩,_,_,_,_,_,_⟩:=z6 b1)|((with_reducible refine cX (b:= .append) (xs:= #[.tmp 15,.tmp 17]) rfl ?_);at_builtin;refine Kd.fM dn (w0:=w) w.heap.size rfl (.tmp 15) (.tmp 17) 30 101 (.agg #[(.string ⟨#[]⟩),(.string ⟨#[]⟩)]) 32 rfl underlying30 lh rfl (by decide) (by omega) dC b4 eM _ _ _ (fun _=>True) (fun _=>False) rfl rfl ?aO ?aR (fun _ _ h=>h) (fun _ h=>h.elim) ?aF ?aB ?aS ?aL ?_;(case aR=>repeat(exact(Kd.cR bZ.out HB.out)));(case aB=>exact oB);(case aF=>exact(fun _ _=>trivial));(case aO=>exact(oR b7));(case aS=>exact(af oB));(case aL=>have:=d7.out;omega);intro dX gD ho hb hg hat;rw[←d3.out]at ho;have bT:=am (ho);replace b1:=iF b1 hg (Kd.ig b7.out b1.out (by decide));replace b3:=iF b3 hg (Kd.ig b7.out b3.out (by decide));replace b2:=iF b2 hg (Kd.ig b7.out b2.out (by decide));replace b5:=am (Kd.ev (oR b5) (Kd.ee (oR b7)) (by decide) hg);replace bB:=am (Kd.ev (oR bB) (Kd.ee (oR b7)) (by decide) hg);replace HB:=am (hb);clear b7;clear ho hb hg hat;obtain⟨dD,dE,dF⟩:=Kd.ao bT.out;subst dF;obtain⟨⟨_,_,_,_,_,_⟩,_,_,_,_,_,_⟩:=z6 b2;obtain⟨⟨_,_,_,_,_,_⟩,_,_,_,_,_,_⟩:=z6 b3))
 refine bodyPost_ret (results_cell_row rfl _ _ d4 32 #[.int .i64 eX,.int .i64 al,.int .i64 fc,.slice bO b8.length bP,.slice bV bD.length bW,.slice dD bU.length dE] (0,0) _ rfl (oP b3) underlying32 rfl (by kernel_rfl)) rfl ?_;exact⟨_,_,_,oE,nO b5 b2 b3,nO bB b2 b3,nO bT b2 b3,oB⟩

def cU.f (l0:List Int):Option (List Int):=(some (([]:List Int):List Int)).bind fun b1=>(if b1.length+l0.length<140737488355328 then(some (b1++l0))else(none))
theorem cU.lF (a0_:Addr) (c0:Nat) (l0:List Int) (r:List Int) (w:World) (hr0:Kd.C (Kd.int .u8) w (some a0_) l0.length l0) (hc0:l0.length≤c0) (h:cU.f l0=some r):
  Calls Tryz.prog 54 #[.slice (some a0_) l0.length c0] w fun e w'=>∃fy:Value,e= .returned (fy)∧Kd.R (Kd.int .u8) 5 w' w.heap.size (fun _=>True) fy r∧Below w.heap.size w w':=by
 have bB:=ae.mk hr0;have bD:=ae.mk hc0;clear hr0 hc0;have HB:=am (Below.refl w.heap.size w);unfold cU.f at h;have H:=h;clear h;obtain⟨b1,cx⟩:∃y_:List Int,y_=(([]:List Int)):=⟨_,rfl⟩;replace H:(if b1.length+l0.length<140737488355328 then(some (b1++l0))else(none))=some r:=oY;have b2:=ae.mk cx;clear cx
 by_cases c2:b1.length+l0.length<140737488355328
 rotate_left
 ·rw[if_neg c2]at H;exact absurd H (by simp)
 rw[if_pos c2]at H;have b9:=ae.mk c2;clear c2;obtain⟨b7,cx⟩:∃y_:List Int,y_=(b1++l0):=⟨_,rfl⟩;replace H:(some b7)=some r:=oY;have b5:=ae.mk cx;clear cx;obtain rfl:=Option.some.inj H;have hq_:=Lib.run_eql_slice_nil (P:=Tryz.prog) w 22 5 (some a0_) l0.length c0 0 0 (by kernel_rfl)
 go_enter func54,ntmps54
 go_wp2_with (first|((with_reducible refine au (N:=5) rfl ?_);refine Kd.gu (Kd.int .u8) _ 5 ?hg (N:=5) ?hd (xs:=([]:List Int)) (inner:=[]) (ok:=fun _=>True) (fw:=fun _=>True) ?hr ?hp (fun _ hk=>hk) trivial (Below.refl _ _) (Nat.le_refl _) (by simp) ?_;(case hd=>rfl);(case hg=>rfl);(case hr=>(go_simp;done));(case hp=>exact(bp.none _ _));intro b8 w3 b3 hb fN cj;clear fN cj;(rw[←b2.out]at b3);have b4:=am (Kd.aq b3 (af oB));replace HB:=hB HB hb;clear hb b3)|((with_reducible refine cX (b:= .append) (xs:= #[.tmp 5,.tmp 6]) rfl ?_);at_builtin;refine Kd.fM (Kd.int .u8) (w0:=w) w.heap.size rfl (.tmp 5) (.tmp 6) 22 5 (.int .u8 0) 1 rfl underlying22 info5 rfl (by decide) (by omega) b8 b1 l0 _ _ _ (fun _=>True) (fun _=>False) rfl rfl ?aO ?aR (fun _ _ h=>h) (fun _ h=>h.elim) ?aF ?aB ?aS ?aL ?_;(case aR=>repeat(exact(Kd.cR bB.out HB.out)));(case aB=>exact oB);(case aF=>exact(fun _ _=>trivial));(case aO=>exact(oR b4));(case aS=>exact(af oB));(case aL=>have:=b9.out;omega);intro bC w5 ho hb hg hat;rw[←b5.out]at ho;have b6:=am (ho);replace HB:=am (hb);clear b4;clear ho hb hg hat))
 go_ret
 exact⟨_,oE,oR b6,oB⟩
theorem cU.calls (A0:Option Addr) (c0:Nat) (l0:List Int) (r:List Int) (w:World) (hr0:Kd.C (Kd.int .u8) w A0 l0.length l0) (hc0:l0.length≤c0) (h:cU.f l0=some r):
  Calls Tryz.prog 54 #[.slice A0 l0.length c0] w fun e w'=>∃fy:Value,e= .returned (fy)∧Kd.R (Kd.int .u8) 5 w' w.heap.size (fun _=>True) fy r∧Below w.heap.size w w':=by
 rcases A0 with _|b1
 ·have hl_:l0=[]:=by
   rcases Nat.eq_zero_or_pos l0.length with hz_|hz_
   ·exact List.eq_nil_of_length_eq_zero hz_
   ·obtain⟨ad_,he_,_⟩:=hr0.2.2 hz_
    cases he_
  subst hl_
  obtain rfl:r=[]:=by
   simp[cU.f]at h;exact h
  have hq_:=Lib.run_eql_slice_nil (P:=Tryz.prog) w 22 5 none 0 c0 0 0 (by kernel_rfl)
  go_enter func54,ntmps54
  go_wp2
  go_ret
  exact⟨_,rfl,Kd.er _ _ _ _ _,Below.refl _ _⟩
 ·exact cU.lF b1 c0 l0 r w hr0 hc0 h

def et.f (l0:List (cD)):Option ((List (cD))):=(some (([]:List (cD)):List (cD))).bind fun b1=>(if b1.length+l0.length<5864062014805 then(some (b1++l0))else(none))
theorem et.lF (a0_:Addr) (c0:Nat) (l0:List (cD)) (r:List (cD)) (w:World) (hr0:Kd.C fL w (some a0_) l0.length l0) (hc0:l0.length≤c0) (h:et.f l0=some r):
  Calls Tryz.prog 135 #[.slice (some a0_) l0.length c0] w fun e w'=>∃fy:Value,e= .returned (fy)∧Kd.R fL 74 w' w.heap.size (fun _=>True) fy r∧Below w.heap.size w w':=by
 have bB:=ae.mk hr0;have bD:=ae.mk hc0;clear hr0 hc0;have HB:=am (Below.refl w.heap.size w);unfold et.f at h;have H:=h;clear h;obtain⟨b1,cx⟩:∃y_:List (cD),y_=(([]:List (cD))):=⟨_,rfl⟩;replace H:(if b1.length+l0.length<5864062014805 then(some (b1++l0))else(none))=some r:=oY;have b2:=ae.mk cx;clear cx
 by_cases c2:b1.length+l0.length<5864062014805
 rotate_left
 ·rw[if_neg c2]at H;exact absurd H (by simp)
 rw[if_pos c2]at H;have b9:=ae.mk c2;clear c2;obtain⟨b7,cx⟩:∃y_:List (cD),y_=(b1++l0):=⟨_,rfl⟩;replace H:(some b7)=some r:=oY;have b5:=ae.mk cx;clear cx;obtain rfl:=Option.some.inj H;have hq_:=Lib.run_eql_slice_nil (P:=Tryz.prog) w 29 74 (some a0_) l0.length c0 0 0 (by kernel_rfl)
 go_enter func135,ntmps135
 go_wp2_with (first|((with_reducible refine au (N:=5) rfl ?_);refine Kd.gu fL _ 74 ?hg (N:=5) ?hd (xs:=([]:List (cD))) (inner:=[]) (ok:=fun _=>True) (fw:=fun _=>True) ?hr ?hp (fun _ hk=>hk) trivial (Below.refl _ _) (Nat.le_refl _) (by simp) ?_;(case hd=>rfl);(case hg=>rfl);(case hr=>(go_simp;done));(case hp=>exact(bp.none _ _));intro b8 w3 b3 hb fN cj;clear fN cj;(rw[←b2.out]at b3);have b4:=am (Kd.aq b3 (af oB));replace HB:=hB HB hb;clear hb b3)|((with_reducible refine cX (b:= .append) (xs:= #[.tmp 5,.tmp 6]) rfl ?_);at_builtin;refine Kd.fM fL (w0:=w) w.heap.size rfl (.tmp 5) (.tmp 6) 29 74 (.agg #[(.string ⟨#[]⟩),(.int .i64 0)]) 24 rfl underlying29 nj rfl (by decide) (by omega) b8 b1 l0 _ _ _ (fun _=>True) (fun _=>False) rfl rfl ?aO ?aR (fun _ _ h=>h) (fun _ h=>h.elim) ?aF ?aB ?aS ?aL ?_;(case aR=>repeat(exact(Kd.cR bB.out HB.out)));(case aB=>exact oB);(case aF=>exact(fun _ _=>trivial));(case aO=>exact(oR b4));(case aS=>exact(af oB));(case aL=>have:=b9.out;omega);intro bC w5 ho hb hg hat;rw[←b5.out]at ho;have b6:=am (ho);replace HB:=am (hb);clear b4;clear ho hb hg hat))
 go_ret
 exact⟨_,oE,oR b6,oB⟩
theorem et.calls (A0:Option Addr) (c0:Nat) (l0:List (cD)) (r:List (cD)) (w:World) (hr0:Kd.C fL w A0 l0.length l0) (hc0:l0.length≤c0) (h:et.f l0=some r):
  Calls Tryz.prog 135 #[.slice A0 l0.length c0] w fun e w'=>∃fy:Value,e= .returned (fy)∧Kd.R fL 74 w' w.heap.size (fun _=>True) fy r∧Below w.heap.size w w':=by
 rcases A0 with _|b1
 ·have hl_:l0=[]:=by
   rcases Nat.eq_zero_or_pos l0.length with hz_|hz_
   ·exact List.eq_nil_of_length_eq_zero hz_
   ·obtain⟨ad_,he_,_⟩:=hr0.2.2 hz_
    cases he_
  subst hl_
  obtain rfl:r=[]:=by
   simp[et.f]at h;exact h
  have hq_:=Lib.run_eql_slice_nil (P:=Tryz.prog) w 29 74 none 0 c0 0 0 (by kernel_rfl)
  go_enter func135,ntmps135
  go_wp2
  go_ret
  exact⟨_,rfl,Kd.er _ _ _ _ _,Below.refl _ _⟩
 ·exact et.lF b1 c0 l0 r w hr0 hc0 h

def ef.f (l0:List (bj)):Option ((List (bj))):=(some (([]:List (bj)):List (bj))).bind fun b1=>(if b1.length+l0.length<4398046511104 then(some (b1++l0))else(none))
theorem ef.lF (a0_:Addr) (c0:Nat) (l0:List (bj)) (r:List (bj)) (w:World) (hr0:Kd.C dn w (some a0_) l0.length l0) (hc0:l0.length≤c0) (h:ef.f l0=some r):
  Calls Tryz.prog 136 #[.slice (some a0_) l0.length c0] w fun e w'=>∃fy:Value,e= .returned (fy)∧Kd.R dn 101 w' w.heap.size (fun _=>True) fy r∧Below w.heap.size w w':=by
 have bB:=ae.mk hr0;have bD:=ae.mk hc0;clear hr0 hc0;have HB:=am (Below.refl w.heap.size w);unfold ef.f at h;have H:=h;clear h;obtain⟨b1,cx⟩:∃y_:List (bj),y_=(([]:List (bj))):=⟨_,rfl⟩;replace H:(if b1.length+l0.length<4398046511104 then(some (b1++l0))else(none))=some r:=oY;have b2:=ae.mk cx;clear cx
 by_cases c2:b1.length+l0.length<4398046511104
 rotate_left
 ·rw[if_neg c2]at H;exact absurd H (by simp)
 rw[if_pos c2]at H;have b9:=ae.mk c2;clear c2;obtain⟨b7,cx⟩:∃y_:List (bj),y_=(b1++l0):=⟨_,rfl⟩;replace H:(some b7)=some r:=oY;have b5:=ae.mk cx;clear cx;obtain rfl:=Option.some.inj H;have hq_:=Lib.run_eql_slice_nil (P:=Tryz.prog) w 30 101 (some a0_) l0.length c0 0 0 (by kernel_rfl)
 go_enter func136,ntmps136
 go_wp2_with (first|((with_reducible refine au (N:=5) rfl ?_);refine Kd.gu dn _ 101 ?hg (N:=5) ?hd (xs:=([]:List (bj))) (inner:=[]) (ok:=fun _=>True) (fw:=fun _=>True) ?hr ?hp (fun _ hk=>hk) trivial (Below.refl _ _) (Nat.le_refl _) (by simp) ?_;(case hd=>rfl);(case hg=>rfl);(case hr=>(go_simp;done));(case hp=>exact(bp.none _ _));intro b8 w3 b3 hb fN cj;clear fN cj;(rw[←b2.out]at b3);have b4:=am (Kd.aq b3 (af oB));replace HB:=hB HB hb;clear hb b3)|((with_reducible refine cX (b:= .append) (xs:= #[.tmp 5,.tmp 6]) rfl ?_);at_builtin;refine Kd.fM dn (w0:=w) w.heap.size rfl (.tmp 5) (.tmp 6) 30 101 (.agg #[(.string ⟨#[]⟩),(.string ⟨#[]⟩)]) 32 rfl underlying30 lh rfl (by decide) (by omega) b8 b1 l0 _ _ _ (fun _=>True) (fun _=>False) rfl rfl ?aO ?aR (fun _ _ h=>h) (fun _ h=>h.elim) ?aF ?aB ?aS ?aL ?_;(case aR=>repeat(exact(Kd.cR bB.out HB.out)));(case aB=>exact oB);(case aF=>exact(fun _ _=>trivial));(case aO=>exact(oR b4));(case aS=>exact(af oB));(case aL=>have:=b9.out;omega);intro bC w5 ho hb hg hat;rw[←b5.out]at ho;have b6:=am (ho);replace HB:=am (hb);clear b4;clear ho hb hg hat))
 go_ret
 exact⟨_,oE,oR b6,oB⟩
theorem ef.calls (A0:Option Addr) (c0:Nat) (l0:List (bj)) (r:List (bj)) (w:World) (hr0:Kd.C dn w A0 l0.length l0) (hc0:l0.length≤c0) (h:ef.f l0=some r):
  Calls Tryz.prog 136 #[.slice A0 l0.length c0] w fun e w'=>∃fy:Value,e= .returned (fy)∧Kd.R dn 101 w' w.heap.size (fun _=>True) fy r∧Below w.heap.size w w':=by
 rcases A0 with _|b1
 ·have hl_:l0=[]:=by
   rcases Nat.eq_zero_or_pos l0.length with hz_|hz_
   ·exact List.eq_nil_of_length_eq_zero hz_
   ·obtain⟨ad_,he_,_⟩:=hr0.2.2 hz_
    cases he_
  subst hl_
  obtain rfl:r=[]:=by
   simp[ef.f]at h;exact h
  have hq_:=Lib.run_eql_slice_nil (P:=Tryz.prog) w 30 101 none 0 c0 0 0 (by kernel_rfl)
  go_enter func136,ntmps136
  go_wp2
  go_ret
  exact⟨_,rfl,Kd.er _ _ _ _ _,Below.refl _ _⟩
 ·exact ef.lF b1 c0 l0 r w hr0 hc0 h

def bg.f (a0:Int) (a1:Int) (a2:Int):Option (Bool):=if a0≥a1 then(some (decide (a0≤a2)))else(some false)
theorem bg.calls (a0:Int) (a1:Int) (a2:Int) (r:Bool) (w:World) (h:bg.f a0 a1 a2=some r):
  Calls Tryz.prog 73 #[.int .i64 a0,.int .i64 a1,.int .i64 a2] w fun e w'=>e= .returned (.bool r)∧fZ w w':=by
 unfold bg.f at h;have H:=h;clear h;replace H:=itH H;rcases H with⟨b1,H⟩|⟨b1,H⟩
 ·obtain rfl:=Option.some.inj H
  go_enter func73,ntmps73
  go_wp2
  go_ret
  exact⟨oS,oD⟩
 obtain rfl:=Option.some.inj H
 go_enter func73,ntmps73
 go_wp2
 go_ret
 exact⟨oS,oD⟩

def GOk (w:World):Prop:=∃m,w.cell? ⟨Tryz.nh.g 1,0,none⟩=some (.int .i64 m)
theorem gk_ {w W:World}(h:Below w.heap.size w W) (hg:ae (GOk w)):GOk W:=by
 obtain⟨m,hm⟩:=hg.out;exact⟨m,iP h hm⟩
def strings_Split.f (a0 a1:ByteArray):Option (List ByteArray):=if a0.size<4294967281∧1≤a1.size then some (Lib.splitB a1 0 (Lib.countB a0 a1) a0)else none
theorem strings_Split.calls (a0 a1:ByteArray) (r:List ByteArray) (w:World) (h:strings_Split.f a0 a1=some r) (hG:GOk w:=by exact gk_ oB (by first|(with_reducible assumption)|assumption)):
  Calls Tryz.prog 107 #[.string a0,.string a1] w fun e w'=>∃fy:Value,e= .returned (fy)∧Kd.R Kd.string 9 w' w.heap.size (fun _=>True) fy r∧Below w.heap.size w w':=by
 unfold strings_Split.f at h
 split at h
 case isFalse=>cases h
 case isTrue hc=>
 obtain rfl:=Option.some.inj h;obtain⟨m,hm⟩:=hG;have hl:=Lib.splitB_all a1 hc.2 0 _ a0 rfl;have hle:=Lib.countB_le a1 hc.2 a0.size a0 (Nat.le_refl _)
 refine(Any.strings_Split {Tryz.laysM146 with} (by kernel_rfl) a0 a1 m w hc.1 hm hc.2).mono fun e w' ⟨he,hw⟩=> ?_
 subst hw;refine⟨_,he,?_,(Below.refl _ _).alloc (Nat.le_refl _) _⟩;refine Kd.tX (enc:=Value.string) (h1:=fun _=>rfl) ?_ (fun _ _=>trivial);have ho:=World.ownsRow_lit (base:=w.heap.size) (e:=9) (size:=1) w ((Lib.splitB a1 0 (Lib.countB a0 a1) a0).map Value.string).toArray (Lib.countB a0 a1+1) (Nat.le_refl _) (by simp only[maxLen];omega) (by simp[hl]);rw[←hl]at ho;rw[show(Tryz.nh.t 9)=9 from rfl,←hl]
 simpa [encs]using ho
def jv.f:Option ((List (aW))×Int):=some ((([(⟨1,2,0,([]:List Int),([]:List (cD)),([]:List (bj))⟩:aW)]:List (aW))),2)
theorem jv.calls (r1:List (aW)) (r2:Int) (w:World) (h:jv.f=some (r1,r2)):
  Calls Tryz.prog 103 #[] w fun e w'=>∃fy:Value,e= .returned (.agg #[fy,.int .i64 r2])∧Kd.S k32 32 w' w.heap.size (fun _=>True) fy r1∧Below w.heap.size w w':=by
 have bD:=underlying26;have bE:=underlying32;have HB:=am (Below.refl w.heap.size w);unfold jv.f at h;have H:=h;clear h;obtain⟨b3,cx⟩:∃y_:List (aW),y_=(([(⟨1,2,0,([]:List Int),([]:List (cD)),([]:List (bj))⟩:aW)]:List (aW))):=⟨_,rfl⟩;replace H:(some (b3,2))=some (r1,r2):=oY;have b4:=ae.mk cx;clear cx;simp only[Option.some.injEq,Prod.mk.injEq]at H;obtain⟨rfl,rfl⟩:=H
 go_enter func103,ntmps103
 go_wp2_with (first|((with_reducible refine au (N:=0) rfl ?_);refine fz 0 #[.slice none 0 0,.int .i64 0] 26 ?_;intro b2 hg w1 hbox hb;have b1:=am (hbox);have b9:=fO hg;replace HB:=hB HB hb;clear hb hbox hg)|((with_reducible refine au (N:=2) rfl ?_);refine Kd.ada k32 _ 32 ?hg (N:=2) ?hd (xs:=([(⟨1,2,0,([]:List Int),([]:List (cD)),([]:List (bj))⟩:aW)]:List (aW))) (inner:=[.int .i64 1,.int .i64 2,.int .i64 0,.slice none 0 0,.slice none 0 0,.slice none 0 0]) (ok:=fun _=>True) (fw:=fun _=>True) ?hr ?hp (fun _ hk=>hk) trivial (Below.refl _ _) (Nat.le_refl _) (by simp) ?_;(case hd=>rfl);(case hg=>rfl);(case hr=>(go_simp;done));(case hp=>exact(bp.c6 (show Kd.M k32 _ _ _ (⟨1,2,0,([]:List Int),([]:List (cD)),([]:List (bj))⟩:aW) [.int .i64 1,.int .i64 2,.int .i64 0,.slice none 0 0,.slice none 0 0,.slice none 0 0]from(sS _ _ _ (⟨1,2,0,([]:List Int),([]:List (cD)),([]:List (bj))⟩:aW) (Kd.er _ _ _ _ _) (Kd.er _ _ _ _ _) (Kd.er _ _ _ _ _))) (bp.none _ _)));intro bC w2 b5 hb fN cj;clear fN cj;(rw[←b4.out]at b5);have b6:=am (Kd.abx b5 (af oB));replace b1:=ba b1 hb;replace HB:=hB HB hb;clear hb b5;obtain⟨b7,b8,bB⟩:=Kd.pE b6.out;subst bB;obtain⟨⟨_,_⟩,_,_⟩:=z2 b1))
 refine bodyPost_ret (results_cell_row rfl _ _ b2 26 #[.slice b7 b3.length b8,.int .i64 2] (0,0) _ rfl (oP b1) underlying26 rfl (by kernel_rfl)) rfl ?_;exact⟨_,oE,Kd.kV (Kd.qz (p:=⟨b2,1,none⟩) (Kd.qz (p:=⟨b2,0,none⟩) (Kd.oz b6.out b1.out (by decide)) (fun _ hk=>hk.2) (.slice b7 b3.length b8)) (fun _ hk=>hk.2) (.int .i64 2)) (fun _ hk=>trivial),oB⟩

def mr.f (l0:List Int):Option (Bool):=some (decide ((l0.length:Int)>1048576))
theorem mr.calls (A0:Option Addr) (c0:Nat) (l0:List Int) (r:Bool) (w:World) (hr0:Kd.C (Kd.int .u8) w A0 l0.length l0) (hc0:l0.length≤c0) (h:mr.f l0=some r):
  Calls Tryz.prog 10 #[.slice A0 l0.length c0] w fun e w'=>e= .returned (.bool r)∧fZ w w':=by
 have b1:=ae.mk hr0;have b2:=ae.mk hc0;clear hr0 hc0;unfold mr.f at h;have H:=h;clear h;obtain rfl:=Option.some.inj H
 go_enter func10,ntmps10
 go_wp2
 go_ret
 exact⟨oS,oD⟩
-- NOT PRINTED: function 112 (slices_IndexFunc_Inode)
-- NOT PRINTED: function 179 (slices_IndexFunc_string_string)
-- NOT PRINTED: function 152 (slices_ContainsFunc_string_string)

def cd.l0:Nat→Int→Int→List (aW)→Int→List (aW)→Int→Option ((List (aW))×Int)
 |0,_,_,_,_,_,_=>none
 |k+1,x1,x6,b1,b5,b2,b4=>if x6<(b1.length:Int)then(if 0≤x6 then(if((ai b1 x6).f0)=x1 then(cd.l0 k x1 (wrap64 (x6+1)) b1 b5 b2 b4)else((dh.f ((ai b1 x6).f0) ((ai b1 x6).f1) ((ai b1 x6).f2) ((ai b1 x6).f3) ((ai b1 x6).f4) ((ai b1 x6).f5)).bind fun b3=>(if b2.length<1466015503701 then(cd.l0 k x1 (wrap64 (x6+1)) b1 b5 (b2++[(⟨b3.1,b3.2.1,b3.2.2.1,b3.2.2.2.1,b3.2.2.2.2.1,b3.2.2.2.2.2⟩:aW)]) b4)else(none))))else(none))else(some (b2,b4))
def cd.f (k:Nat) (ah:List (aW)) (al:Int) (a1:Int):Option ((List (aW))×Int):=cd.l0 k a1 0 ah al ([]:List (aW)) al
def cd.T6:Bool×List (List Nat×List Nat):=(true,[([],[]),([0],[0]),([],[]),([2],[2]),([],[]),([3,4],[3,4]),([5],[5]),([6],[6]),([7],[7]),([1,8,7],[1,8]),([0,1,2,3,4,5,6,7,8,9],[]),([10,9,9,0,1,2,3,4,5,6,7,8,9],[9,10])])
def cd.B6:List Nat:=[0,1,0,4,0,28,60,124,252,511,1023,2047]
theorem cd.tab6:fK .any (opsOf Tryz.f163 6)=cd.T6:=by kernel_rfl
theorem cd.ur:ep cd.T6.2 cd.B6=true:=by kernel_rfl
theorem cd.calls (k:Nat) (bs:Option Addr) (bo:Nat) (ah:List (aW)) (al:Int) (a1:Int) (r1:List (aW)) (r2:Int) (w:World) (cy:Kd.C k32 w bs ah.length ah) (cA:ah.length≤bo) (h:cd.f k ah al a1=some (r1,r2)):
  Calls Tryz.prog 163 #[.agg #[.slice bs ah.length bo,.int .i64 al],.int .i64 a1] w fun e w'=>∃fy:Value,e= .returned (.agg #[fy,.int .i64 r2])∧Kd.S k32 32 w' w.heap.size (fun _=>True) fy r1∧Below w.heap.size w w':=by
 have m7:=underlying26;have m8:=underlying32;have dG:=ae.mk cy;have jM:=ae.mk cA;clear cy cA;have HB:=am (Below.refl w.heap.size w);unfold cd.f at h;have H:=h;clear h;have H':=ae.mk H;clear H
 go_enter func163,ntmps163
 go_wp2_with (first|((with_reducible refine au (N:=2) rfl ?_);refine fz 2 #[.slice bs ah.length bo,.int .i64 al] 26 ?_;intro dH hg w3 hbox hb;have b3:=am (hbox);have jN:=fO hg;replace HB:=hB HB hb;clear hb hbox hg)|((with_reducible refine au (N:=4) rfl ?_);refine fz 4 #[.slice none 0 0,.int .i64 0] 26 ?_;intro bQ hg w4 hbox hb;have b4:=am (hbox);have jO:=fO hg;have bC:=fX hg b3;have bD:=fY hg b3;replace b3:=ba b3 hb;replace HB:=hB HB hb;clear hb hbox hg;have m9:=bC.out;have mA:=bD.out;obtain⟨⟨_,_⟩,_,_⟩:=z2 b3)|((with_reducible refine au (N:=5) rfl ?_);refine fz 5 #[.slice none 0 0,.int .i64 0] 26 ?_;intro bM hg w7 hbox hb;have b5:=am (hbox);have jP:=fO hg;have b9:=fX hg b3;have bB:=fY hg b3;have bE:=fX hg b4;have bF:=fY hg b4;replace b3:=ba b3 hb;replace b4:=ba b4 hb;replace HB:=hB HB hb;clear hb hbox hg;have mB:=bB.out;have mC:=b9.out;have mD:=bF.out;have mE:=bE.out;obtain⟨⟨_,_⟩,_,_⟩:=z2 b5))
 go_loopg [6] k (fun kq v6 w'=>∃(b2:Int) (b7:List (aW)) (b6:Value),v6= .int .i64 b2∧ae (cd.l0 kq a1 b2 ah al b7 al=some (r1,r2))∧ae (kq≤k)∧ae (Kd.S k32 32 w' w.heap.size (fun _=>True) b6 b7)∧ae (w'.heap[dH]? =some (.cells #[(.slice bs ah.length bo),.int .i64 al] 26 (0,0)))∧ae (w'.heap[bQ]? =some (.cells #[(.slice none 0 0),.int .i64 0] 26 (0,0)))∧ae (w'.heap[bM]? =some (.cells #[b6,.int .i64 al] 26 (0,0)))∧ae (Below w.heap.size w w'))
 case atStart=>exact⟨(0),(([]:List (aW))),(.slice none 0 0),oS,H',⟨Nat.le_refl _⟩,⟨by exact Kd.ue _ _ _ _ _⟩,⟨oF b3⟩,⟨oF b4⟩,⟨oP b5⟩,⟨oB⟩⟩
 case round=>
  clear H';obtain⟨b2,b7,b6,rfl,HA,dK,b1,b3,b4,b5,HB⟩:=hrel
  cases gk with
  |zero=>exact absurd HA.out (by simp[cd.l0])
  |succ k1=>
   have H:=HA.out;clear HA;simp only[cd.l0]at H;replace H:=kU H;rcases H with⟨j4,H⟩|⟨j4,H⟩;rotate_left
   ·simp only[Option.some.injEq,Prod.mk.injEq]at H;obtain⟨rfl,rfl⟩:=H;have jQ:=bC.out;have jR:=bD.out;have jS:=b9.out;have jT:=bB.out;obtain⟨⟨_,_⟩,_,_⟩:=z2 b3;have jU:=bF.out;have jV:=bE.out;obtain⟨⟨_,_⟩,_,_⟩:=z2 b5;obtain⟨gB,gC,jC⟩:=Kd.pE b1.out;subst jC;obtain⟨⟨_,_⟩,_,_⟩:=z2 b4
    go_wp2
    refine bodyPost_ret (results_cell_row rfl _ _ bQ 26 #[.slice gB b7.length gC,.int .i64 al] (0,0) _ rfl (oP b4) underlying26 rfl (by kernel_rfl)) rfl ?_;exact⟨_,oE,Kd.kV (Kd.qz (p:=⟨bQ,1,none⟩) (Kd.qz (p:=⟨bQ,0,none⟩) (Kd.oz b1.out b4.out (by decide)) (fun _ hk=>hk.2) (.slice gB b7.length gC)) (fun _ hk=>hk.2) (.int .i64 al)) (fun _ hk=>trivial),oB⟩
   obtain⟨jW,H⟩:=dw H
   by_cases bU:((ai ah b2).f0)=a1
   ·rw[if_pos bU]at H;have j5:(((ai ah b2).f0)==a1)=true:=beq_iff_eq.mpr bU;have j6:(((ai ah b2).f0) !=a1)=false:=bne_eq_false_iff_eq.mpr bU;clear bU;have H':=ae.mk H;clear H;have jX:=bC.out;have jY:=bD.out;have jZ:=b9.out;have m1:=bB.out;obtain⟨⟨_,_⟩,_,_⟩:=z2 b3;have jD:(0≤(b2:Int))=True:=oT;have jE:(b2<(ah.length:Int))=True:=oT;obtain⟨b8,gD,gE,gF,gG,gH,gI,dJ,dM,dN,dO,dP,dQ,dR,dS,dT,dU,dV,dW,dX⟩:=kd dG HB b2 oa oa
    cases dJ
    go_wp2
    go_roundg k1
    case measure=>have:=dK.out;omega
    case rel=>exact⟨(wrap64 (b2+1)),(b7),(b6),oS,H',⟨by have:=dK.out;omega⟩,⟨b1.out⟩,⟨oF b3⟩,⟨oF b4⟩,⟨oF b5⟩,⟨oB⟩⟩
   rw[if_neg bU]at H;have j5:(((ai ah b2).f0)==a1)=false:=beq_eq_false_iff_ne.mpr bU;have j6:(((ai ah b2).f0) !=a1)=true:=bne_iff_ne.mpr bU;replace H:=bA H;obtain⟨⟨bV,bW,bX,bN,bO,bP⟩,jK,H⟩:=H
   try dsimp only at H
   obtain⟨jA,H⟩:=jm H;have j7:=ae.mk jA;clear jA;obtain⟨dI,cx⟩:∃y_:List (aW),y_=(b7++[(⟨bV,bW,bX,bN,bO,bP⟩:aW)]):=⟨_,rfl⟩;replace H:(cd.l0 k1 a1 (wrap64 (b2+1)) ah al dI al)=some (r1,r2):=oY;have j8:=ae.mk cx;clear cx;have H':=ae.mk H;clear H;have m2:=bC.out;have m3:=bD.out;have m4:=b9.out;have m5:=bB.out;obtain⟨⟨_,_⟩,_,_⟩:=z2 b3;have jD:(0≤(b2:Int))=True:=oT;have jE:(b2<(ah.length:Int))=True:=oT;obtain⟨b8,gD,gE,gF,gG,gH,gI,dJ,dM,dN,dO,dP,dQ,dR,dS,dT,dU,dV,dW,dX⟩:=kd dG HB b2 oa oa
   cases dJ
   try go_wp2
   replace b1:=am (Kd.vw b1.out);replace b3:=am (ar b3.out);replace b4:=am (ar b4.out);replace b5:=am (ar b5.out);replace HB:=am (bl HB.out);have mF:(0≤(b2:Int))=True:=oT;have mG:(b2<(ah.length:Int))=True:=oT;obtain⟨j9,gJ,gK,gL,gM,gN,gO,jF,bG,bH,bI,bJ,bK,bL,d1,d2,d3,d4,d5,d6⟩:=kX dG.out b2 oa oa;have d7:=bL;have d8:=bK;have d9:=bJ;have dA:=bI;have dB:=bH;have dC:=bG;obtain rfl:b8=j9:=(by injection jF);replace bG:=cB HB bG;replace bH:=cB HB bH;replace bI:=cB HB bI;replace bJ:=cB HB bJ;replace bK:=cB HB bK;replace bL:=cB HB bL;have dD:=ae.mk d2;have dY:=ae.mk d1;clear d2 d1;have dE:=ae.mk d4;have dZ:=ae.mk d3;clear d4 d3;have dF:=ae.mk d6;have gA:=ae.mk d5;clear d6 d5;refine iY (n:=12) (S:=fun w'=>w'.cell? ⟨bM,0,none⟩=some (b6)∧w'.cell? ⟨bM,1,none⟩=some (.int .i64 al)∧w'.cell? ⟨dH,0,none⟩=some (.slice (some b8) ah.length bo)∧w'.cell? ⟨dH,1,none⟩=some (.int .i64 al)∧w'.cell? (b8.add ((b2).toNat*6))=some (.int .i64 ((ai ah b2).f0))∧w'.cell? ⟨(b8.add ((b2).toNat*6)).block,(b8.add ((b2).toNat*6)).off+1,none⟩=some (.int .i64 ((ai ah b2).f1))∧w'.cell? ⟨(b8.add ((b2).toNat*6)).block,(b8.add ((b2).toNat*6)).off+2,none⟩=some (.int .i64 ((ai ah b2).f2))∧w'.cell? ⟨(b8.add ((b2).toNat*6)).block,(b8.add ((b2).toNat*6)).off+3,none⟩=some (.slice gJ ((ai ah b2).f3).length gK)∧w'.cell? ⟨(b8.add ((b2).toNat*6)).block,(b8.add ((b2).toNat*6)).off+4,none⟩=some (.slice gL ((ai ah b2).f4).length gM)∧w'.cell? ⟨(b8.add ((b2).toNat*6)).block,(b8.add ((b2).toNat*6)).off+5,none⟩=some (.slice gN ((ai ah b2).f5).length gO)) (ds:=[11]) (lb 12 0) (by kernel_rfl) rfl rfl oH (fun hHeld=> ?_);refine fW cd.tab6 cd.ur (fun aV fA=> ?_);generalize wr.drew=mM at b1 b3 b4 b5 HB dD dE dF bG bH bI bJ bK bL hHeld⊢;refine cG 0 25 aV ?_;refine cG 2 27 aV ?_;refine cG 4 29 aV ?_;refine iA 1 26 aV fA hHeld ?_;refine iA 3 28 aV fA hHeld ?_;refine cG 5 30 aV ?_;refine iA 6 31 aV fA hHeld ?_;refine jg 7 32 aV (fun K hK=> ?_);refine mo 32 func100 (dh.calls ((ai ah b2).f0) ((ai ah b2).f1) ((ai ah b2).f2) _ _ ((ai ah b2).f3) _ _ ((ai ah b2).f4) _ _ ((ai ah b2).f5) bV bW bX bN bO bP _ (kC dD) dY.out (kC dE) dZ.out (kC dF) gA.out jK.out) ?_;rintro e mN ⟨mH,mI,mJ,rfl,jB,gP,gQ,hb⟩;refine⟨_,rfl,?_⟩;have bR:=am (Kd.aq jB (af oB));have bS:=am (Kd.aq gP (af oB));have bT:=am (Kd.aq gQ (af oB));replace b1:=ac4 (ac2 b1 hb) (Kd.cL jB) (Kd.cL gP) (Kd.cL gQ);replace b3:=ba b3 hb;replace b4:=ba b4 hb;replace b5:=ba b5 hb;replace HB:=hB HB hb
   (try clear gP)
   (try clear gQ)
   obtain⟨gR,gS,gT⟩:=Kd.ao bR.out
   (subst gT)
   obtain⟨gU,gV,gW⟩:=Kd.ao bS.out
   (subst gW)
   obtain⟨gX,gY,gZ⟩:=Kd.ao bT.out
   (subst gZ)
   refine aZ hK 32 oH (fun hHeld=> ?_);clear hK K;refine jg 8 33 aV (fun K hK=> ?_);refine mg (w1:= ?_) (v:= ?_) (by rfl) rfl ?_ ?_;rotate_left 2
   ·go_simp
    constructor
    ·rfl
    ·rfl
   refine aZ hK 33 ⟨(aj (ax b5.out _) 0).trans rfl,(aj (ax b5.out _) 1).trans rfl,(aj (ax b3.out _) 0).trans rfl,(aj (ax b3.out _) 1).trans rfl,(World.cell?_alloc_lt _ _ _ (World.block_lt_of_cell? _ _ ((cB HB dC)))).trans ((cB HB dC)),(World.cell?_alloc_lt _ _ _ (World.block_lt_of_cell? _ _ ((cB HB dB)))).trans ((cB HB dB)),(World.cell?_alloc_lt _ _ _ (World.block_lt_of_cell? _ _ ((cB HB dA)))).trans ((cB HB dA)),(World.cell?_alloc_lt _ _ _ (World.block_lt_of_cell? _ _ ((cB HB d9)))).trans ((cB HB d9)),(World.cell?_alloc_lt _ _ _ (World.block_lt_of_cell? _ _ ((cB HB d8)))).trans ((cB HB d8)),(World.cell?_alloc_lt _ _ _ (World.block_lt_of_cell? _ _ ((cB HB d7)))).trans ((cB HB d7))⟩ (fun hHeld=> ?_);clear hK K;refine jg 9 34 aV (fun K hK=> ?_);refine Kd.pb k32 (w0:=w) w.heap.size (by rfl) (.tmp 26) (.tmp 33) 24 32 (.agg #[(.int .i64 0),(.int .i64 0),(.int .i64 0),(.slice none 0 0),(.slice none 0 0),(.slice none 0 0)]) 96 rfl underlying24 jz rfl (by decide) (by omega) b6 b7 (⟨bV,bW,bX,bN,bO,bP⟩:aW) [.int .i64 bV,.int .i64 bW,.int .i64 bX,.slice gR bN.length gS,.slice gU bO.length gV,.slice gX bP.length gY] (fun _=>True) (fun k_=>some k_=(.slice gR bN.length gS:Value).ownBlock∨some k_=(.slice gU bO.length gV:Value).ownBlock∨some k_=(.slice gX bP.length gY:Value).ownBlock) rfl rfl ?aP (fun k_ aZ=>aZ.elim (fun h_=>((Kd.aM (ok':=fun k_=>((fun _=>True)) k_∧some k_≠(b6:Value).ownBlock) (Kd.cJ (bR.out) (Kd.jr b1.out) (by decide)) (fun k_ hk=>⟨trivial,hk.2⟩))).1 k_ h_.symm) (fun h_=>h_.elim (fun h_=>((Kd.aM (ok':=fun k_=>((fun _=>True)) k_∧some k_≠(b6:Value).ownBlock) (Kd.cJ (bS.out) (Kd.jr b1.out) (by decide)) (fun k_ hk=>⟨trivial,hk.2⟩))).1 k_ h_.symm) (fun h_=>((Kd.aM (ok':=fun k_=>((fun _=>True)) k_∧some k_≠(b6:Value).ownBlock) (Kd.cJ (bT.out) (Kd.jr b1.out) (by decide)) (fun k_ hk=>⟨trivial,hk.2⟩))).1 k_ h_.symm))) ?aF ?aO ?aB ?aS ?aL ?_
   (case aP=>exact sS _ _ _ (⟨bV,bW,bX,bN,bO,bP⟩:aW) (Kd.aM (Kd.nq rfl (Kd.aM (ok':=fun k_=>((fun _=>True)) k_∧some k_≠(b6:Value).ownBlock) (Kd.cJ (bR.out) (Kd.jr b1.out) (by decide)) (fun k_ hk=>⟨trivial,hk.2⟩))) (fun _ h_=>Or.inl h_)) (Kd.aM (Kd.nq rfl (Kd.aM (ok':=fun k_=>((fun _=>True)) k_∧some k_≠(b6:Value).ownBlock) (Kd.cJ (bS.out) (Kd.jr b1.out) (by decide)) (fun k_ hk=>⟨trivial,hk.2⟩))) (fun _ h_=>Or.inr (Or.inl h_))) (Kd.aM (Kd.nq rfl (Kd.aM (ok':=fun k_=>((fun _=>True)) k_∧some k_≠(b6:Value).ownBlock) (Kd.cJ (bT.out) (Kd.jr b1.out) (by decide)) (fun k_ hk=>⟨trivial,hk.2⟩))) (fun _ h_=>Or.inr (Or.inr (h_)))))
   (case aB=>exact oB)
   (case aF=>exact(fun _ _=>trivial))
   (case aO=>exact(Kd.kV b1.out (fun k_ hk=>⟨trivial,fun e_=>e_.elim (fun h_=>hk.1.1.2 h_) (fun h_=>h_.elim (fun h_=>hk.1.2 h_) (fun h_=>hk.2 h_))⟩)))
   (case aS=>exact(af oB))
   (case aL=>have:=j7.out;omega)
   intro mK jL ho hb hg hat;rw[←j8.out]at ho;have dL:=am (ho);replace b3:=iF b3 hg (Kd.vH b1.out b3.out (by decide));replace b4:=iF b4 hg (Kd.vH b1.out b4.out (by decide));replace b5:=iF b5 hg (Kd.vH b1.out b5.out (by decide));replace HB:=am (hb);clear b1;clear bR;clear bS;clear bT;clear ho hb hg hat;obtain⟨j1,j2,j3⟩:=Kd.pE dL.out
   (subst j3)
   refine aZ hK 34 oH (fun hHeld=> ?_);clear hK K;refine cG 10 35 aV ?_;refine kJ (i:=11) (N:=none) (lb 12 4095) rfl rfl (iE aV.out (by kernel_rfl)) (by decide) (fun K hK=> ?_);have mL:jL.cell? ⟨bM,0,none⟩=some (b6):=(aj b5.out 0).trans rfl;have m6:=aK b5.out 0;have jG:=b9.out;have jH:=bE.out;have jI:=bB.out;have jJ:=bF.out;refine kp (w1:= ?_) (by rfl) rfl ?_ ?_;rotate_left
   ·go_simp
    rfl
   refine hK.out _ _ ?_;clear hK K;refine nF aV ?_
   try go_wp2
   go_roundg k1
   case measure=>have:=dK.out;omega
   case rel=>exact⟨(wrap64 (b2+1)),(dI),(.slice j1 dI.length j2),oS,H',⟨by have:=dK.out;omega⟩,⟨Kd.kV (Kd.qz (p:=⟨bM,0,none⟩) (Kd.oz dL.out b5.out (by decide)) (fun _ hk=>hk.2) (.slice j1 dI.length j2)) (fun _ hk=>trivial)⟩,⟨oF b3⟩,⟨oF b4⟩,⟨oP b5⟩,⟨oB⟩⟩

def cZ.l0:Nat→List ByteArray→Int→Int→List (aW)→Int→Option (Int×Int)
 |0,_,_,_,_,_=>none
 |k+1,x1,x6,x7,b1,b3=>if x7<(x1.length:Int)then((da.f k b1 b3 x6).bind fun b2=>(if b2<0 then(some (0,2))else(if 0≤b2 then(if b2<(b1.length:Int)then(if((ai b1 b2).f1)=2 then(if 0≤x7 then((eK.f k ((ai b1 b2).f0) ((ai b1 b2).f1) ((ai b1 b2).f2) ((ai b1 b2).f3) ((ai b1 b2).f4) ((ai b1 b2).f5) (dr ByteArray.empty x1 x7)).bind fun b4=>(if b4=0 then(some (0,2))else(cZ.l0 k x1 b4 (wrap64 (x7+1)) b1 b3)))else(none))else(some (0,3)))else(none))else(none))))else(some (x6,0))
def cZ.f (k:Nat) (ah:List (aW)) (al:Int) (l1:List ByteArray):Option (Int×Int):=cZ.l0 k l1 1 0 ah al
def cZ.T10:Bool×List (List Nat×List Nat):=(true,[([],[]),([0],[0]),([],[]),([1,2],[1,2]),([3],[3]),([],[]),([],[]),([5,6],[5,6]),([7],[7]),([4,8],[4,8]),([9,9,0,1,2,3,4,5,6,7,8,9],[9])])
def cZ.B10:List Nat:=[0,1,0,7,15,0,0,96,224,511,1023]
theorem cZ.rD:fK .any (opsOf Tryz.f98 10)=cZ.T10:=by kernel_rfl
theorem cZ.pk:ep cZ.T10.2 cZ.B10=true:=by kernel_rfl
theorem cZ.calls (k:Nat) (bs:Option Addr) (bo:Nat) (ah:List (aW)) (al:Int) (A1:Option Addr) (c1:Nat) (l1:List ByteArray) (r1:Int) (r2:Int) (w:World) (cy:Kd.C k32 w bs ah.length ah) (cA:ah.length≤bo) (hr1:Kd.C Kd.string w A1 l1.length l1) (hc1:l1.length≤c1) (h:cZ.f k ah al l1=some (r1,r2)):
  Calls Tryz.prog 98 #[.agg #[.slice bs ah.length bo,.int .i64 al],.slice A1 l1.length c1] w fun e w'=>e= .returned (.tuple #[.int .i64 r1,.int .i64 r2])∧Below w.heap.size w w':=by
 have gO:=underlying26;have gP:=underlying32;have bE:=ae.mk cy;have dP:=ae.mk cA;clear cy cA;have gI:=ae.mk hr1;have gU:=ae.mk hc1;clear hr1 hc1;have HB:=am (Below.refl w.heap.size w);unfold cZ.f at h;have H:=h;clear h;have H':=ae.mk H;clear H
 go_enter func98,ntmps98
 go_wp2_with (((with_reducible refine au (N:=2) rfl ?_);refine fz 2 #[.slice bs ah.length bo,.int .i64 al] 26 ?_;intro bQ hg w3 hbox hb;have b3:=am (hbox);have gK:=fO hg;replace HB:=hB HB hb;clear hb hbox hg))
 go_loopg [6,7] k (fun kq v6 v7 w'=>∃(bR:Int) (b4:Int),v6= .int .i64 bR∧v7= .int .i64 b4∧ae (cZ.l0 kq l1 bR b4 ah al=some (r1,r2))∧ae (kq≤k)∧ae (w'.heap[bQ]? =some (.cells #[(.slice bs ah.length bo),.int .i64 al] 26 (0,0)))∧ae (Below w.heap.size w w'))
 case atStart=>exact⟨(1),(0),oS,oS,H',⟨Nat.le_refl _⟩,⟨oF b3⟩,⟨oB⟩⟩
 case round=>
  clear H';obtain⟨bR,b4,rfl,rfl,HA,dU,b3,HB⟩:=hrel
  cases gk with
  |zero=>exact absurd HA.out (by simp[cZ.l0])
  |succ k1=>
   have H:=HA.out;clear HA;simp only[cZ.l0]at H;replace H:=kU H;rcases H with⟨dW,H⟩|⟨dW,H⟩;rotate_left
   ·simp only[Option.some.injEq,Prod.mk.injEq]at H;obtain⟨rfl,rfl⟩:=H
    go_wp2
    go_ret2
    exact⟨oE,oB⟩
   replace H:=bA H;obtain⟨b1,A5,H⟩:=H;have dV:=ae.mk H;clear H;obtain⟨⟨_,_⟩,_,_⟩:=z2 b3
   go_upto_if 19 with(((with_reducible refine ag (f:=99) rfl ?_);refine dk 17 func99 (da.calls k1 _ _ ah al bR b1 _ (kC bE) dP.out A5.out) ?_;rintro e w8 ⟨rfl,hb⟩;refine⟨_,rfl,?_⟩;replace b3:=ba b3 hb;replace HB:=hB HB hb))
   have H:=dV.out;clear dV;replace H:=kU H;rcases H with⟨bU,H⟩|⟨bU,H⟩
   ·(rw[bU])
    simp only[Option.some.injEq,Prod.mk.injEq]at H;obtain⟨rfl,rfl⟩:=H
    go_wp2
    go_ret2
    exact⟨oE,oB⟩
   (rw[bU])
   obtain⟨gL,H⟩:=dw H;obtain⟨gM,H⟩:=dw H
   by_cases bF:((ai ah b1).f1)=2
   rotate_left
   ·rw[if_neg bF]at H;have dQ:(((ai ah b1).f1)==2)=false:=beq_eq_false_iff_ne.mpr bF;have dR:(((ai ah b1).f1) !=2)=true:=bne_iff_ne.mpr bF;simp only[Option.some.injEq,Prod.mk.injEq]at H;obtain⟨rfl,rfl⟩:=H;obtain⟨⟨_,_⟩,_,_⟩:=z2 b3;have dX:(0≤(b1:Int))=True:=oT;have dY:(b1<(ah.length:Int))=True:=oT;obtain⟨b2,dC,dD,dE,dF,dG,dH,bV,bW,bX,bY,bZ,d1,d2,d3,d4,d5,d6,d7,d8⟩:=kd bE HB b1 oa oa
    cases bV
    go_wp2
    go_ret2
    exact⟨oE,oB⟩
   rw[if_pos bF]at H;have dQ:(((ai ah b1).f1)==2)=true:=beq_iff_eq.mpr bF;have dR:(((ai ah b1).f1) !=2)=false:=bne_eq_false_iff_eq.mpr bF;clear bF;obtain⟨gN,H⟩:=dw H;replace H:=bA H;obtain⟨bD,gJ,H⟩:=H;have dI:=ae.mk H;clear H;obtain⟨⟨_,_⟩,_,_⟩:=z2 b3;have dX:(0≤(b1:Int))=True:=oT;have dY:(b1<(ah.length:Int))=True:=oT;obtain⟨b2,dC,dD,dE,dF,dG,dH,bV,bW,bX,bY,bZ,d1,d2,d3,d4,d5,d6,d7,d8⟩:=kd bE HB b1 oa oa
   cases bV
   try go_wp2
   replace b3:=am (ar b3.out);replace HB:=am (bl HB.out);have gQ:(0≤(b1:Int))=True:=oT;have gR:(b1<(ah.length:Int))=True:=oT;obtain⟨dS,dJ,dK,dL,dM,dN,dO,dZ,b5,b6,b7,b8,b9,bB,bH,bI,bJ,bK,bL,bM⟩:=kX bE.out b1 oa oa;have gB:=bB;have gC:=b9;have gD:=b8;have gE:=b7;have gF:=b6;have gG:=b5;obtain rfl:b2=dS:=(by injection dZ);replace b5:=cB HB b5;replace b6:=cB HB b6;replace b7:=cB HB b7;replace b8:=cB HB b8;replace b9:=cB HB b9;replace bB:=cB HB bB;have bN:=ae.mk bI;have d9:=ae.mk bH;clear bI bH;have bO:=ae.mk bK;have dA:=ae.mk bJ;clear bK bJ;have bP:=ae.mk bM;have dB:=ae.mk bL;clear bM bL;have gS:(0≤(b4:Int))=True:=oT;have gT:(b4<(l1.length:Int))=True:=oT;obtain⟨dT,gA,bC⟩:=Kd.ei gI.out b4 oa oa;have gH:=bC
   cases gA
   replace bC:=cB HB bC;refine qS 11 (fun w'=>w'.cell? ⟨bQ,0,none⟩=some (.slice (some b2) ah.length bo)∧w'.cell? ⟨bQ,1,none⟩=some (.int .i64 al)∧w'.cell? (b2.add ((b1).toNat*6))=some (.int .i64 ((ai ah b1).f0))∧w'.cell? ⟨(b2.add ((b1).toNat*6)).block,(b2.add ((b1).toNat*6)).off+1,none⟩=some (.int .i64 ((ai ah b1).f1))∧w'.cell? ⟨(b2.add ((b1).toNat*6)).block,(b2.add ((b1).toNat*6)).off+2,none⟩=some (.int .i64 ((ai ah b1).f2))∧w'.cell? ⟨(b2.add ((b1).toNat*6)).block,(b2.add ((b1).toNat*6)).off+3,none⟩=some (.slice dJ ((ai ah b1).f3).length dK)∧w'.cell? ⟨(b2.add ((b1).toNat*6)).block,(b2.add ((b1).toNat*6)).off+4,none⟩=some (.slice dL ((ai ah b1).f4).length dM)∧w'.cell? ⟨(b2.add ((b1).toNat*6)).block,(b2.add ((b1).toNat*6)).off+5,none⟩=some (.slice dN ((ai ah b1).f5).length dO)∧w'.cell? (dT.add (b4).toNat)=some (.string (dr ByteArray.empty l1 b4))) cZ.rD cZ.pk oH (fun hHeld aV fA=> ?_);generalize w8.drew=gV at b3 HB bN bO bP b5 b6 b7 b8 b9 bB bC hHeld⊢;refine cG 0 27 aV ?_;refine cG 2 29 aV ?_;refine cG 5 32 aV ?_;refine cG 6 33 aV ?_;refine cG 7 34 aV ?_;refine iA 1 28 aV fA hHeld ?_;refine cG 3 30 aV ?_;refine iA 4 31 aV fA hHeld ?_;refine iA 8 35 aV fA hHeld ?_;refine jg 9 36 aV (fun K hK=> ?_);refine mo 36 func137 (eK.calls k1 ((ai ah b1).f0) ((ai ah b1).f1) ((ai ah b1).f2) _ _ ((ai ah b1).f3) _ _ ((ai ah b1).f4) _ _ ((ai ah b1).f5) (dr ByteArray.empty l1 b4) bD _ (kC bN) d9.out (kC bO) dA.out (kC bP) dB.out gJ.out) ?_;rintro e gW ⟨rfl,hb⟩;refine⟨_,rfl,?_⟩;replace b3:=ba b3 hb;replace HB:=hB HB hb;refine aZ hK 36 oH (fun hHeld=> ?_);clear hK K;refine cG 10 6 aV ?_;refine nF aV ?_
   go_upto_if 38 with(fail)
   have H:=dI.out;clear dI
   by_cases bG:bD=0
   ·rw[if_pos bG]at H;have bS:(bD==0)=true:=beq_iff_eq.mpr bG;have bT:(bD !=0)=false:=bne_eq_false_iff_eq.mpr bG;clear bG
    (rw[bS])
    simp only[Option.some.injEq,Prod.mk.injEq]at H;obtain⟨rfl,rfl⟩:=H
    go_wp2
    go_ret2
    exact⟨oE,oB⟩
   rw[if_neg bG]at H;have bS:(bD==0)=false:=beq_eq_false_iff_ne.mpr bG;have bT:(bD !=0)=true:=bne_iff_ne.mpr bG
   (rw[bS])
   have H':=ae.mk H;clear H
   go_wp2
   go_roundg k1
   case measure=>have:=dU.out;omega
   case rel=>exact⟨(bD),(wrap64 (b4+1)),oS,oS,H',⟨by have:=dU.out;omega⟩,⟨oF b3⟩,⟨oB⟩⟩

def aG.l0:Nat→Int→List (aW)→Int→List (aW)→Int→Option ((List (aW))×Int)
 |0,_,_,_,_,_=>none
 |k+1,x4,b1,b5,b3,b4=>if x4<(b1.length:Int)then(if 0≤x4 then((dh.f ((ai b1 x4).f0) ((ai b1 x4).f1) ((ai b1 x4).f2) ((ai b1 x4).f3) ((ai b1 x4).f4) ((ai b1 x4).f5)).bind fun b2=>(if b3.length<1466015503701 then(aG.l0 k (wrap64 (x4+1)) b1 b5 (b3++[(⟨b2.1,b2.2.1,b2.2.2.1,b2.2.2.2.1,b2.2.2.2.2.1,b2.2.2.2.2.2⟩:aW)]) b4)else(none)))else(none))else(some (b3,b4))
def aG.f (k:Nat) (ah:List (aW)) (al:Int):Option ((List (aW))×Int):=aG.l0 k 0 ah al ([]:List (aW)) al
def aG.T5:Bool×List (List Nat×List Nat):=(true,[([],[]),([0],[0]),([],[]),([2],[2]),([],[]),([3,4],[3,4]),([5],[5]),([6],[6]),([7],[7]),([1,8,7],[1,8]),([0,1,2,3,4,5,6,7,8,9],[]),([10,9,9,0,1,2,3,4,5,6,7,8,9],[9,10])])
def aG.B5:List Nat:=[0,1,0,4,0,28,60,124,252,511,1023,2047]
theorem aG.acI:fK .any (opsOf Tryz.f69 5)=aG.T5:=by kernel_rfl
theorem aG.aaI:ep aG.T5.2 aG.B5=true:=by kernel_rfl
theorem aG.calls (k:Nat) (bs:Option Addr) (bo:Nat) (ah:List (aW)) (al:Int) (r1:List (aW)) (r2:Int) (w:World) (cy:Kd.C k32 w bs ah.length ah) (cA:ah.length≤bo) (h:aG.f k ah al=some (r1,r2)):
  Calls Tryz.prog 69 #[.agg #[.slice bs ah.length bo,.int .i64 al]] w fun e w'=>∃fy:Value,e= .returned (.agg #[fy,.int .i64 r2])∧Kd.S k32 32 w' w.heap.size (fun _=>True) fy r1∧Below w.heap.size w w':=by
 have jD:=underlying26;have jE:=underlying32;have gH:=ae.mk cy;have gW:=ae.mk cA;clear cy cA;have HB:=am (Below.refl w.heap.size w);unfold aG.f at h;have H:=h;clear h;have H':=ae.mk H;clear H
 go_enter func69,ntmps69
 go_wp2_with (first|((with_reducible refine au (N:=1) rfl ?_);refine fz 1 #[.slice bs ah.length bo,.int .i64 al] 26 ?_;intro dF hg w2 hbox hb;have b3:=am (hbox);have gX:=fO hg;replace HB:=hB HB hb;clear hb hbox hg)|((with_reducible refine au (N:=2) rfl ?_);refine fz 2 #[.slice none 0 0,.int .i64 0] 26 ?_;intro bQ hg w3 hbox hb;have b4:=am (hbox);have gY:=fO hg;have bC:=fX hg b3;have bD:=fY hg b3;replace b3:=ba b3 hb;replace HB:=hB HB hb;clear hb hbox hg;have jF:=bC.out;have jG:=bD.out;obtain⟨⟨_,_⟩,_,_⟩:=z2 b3)|((with_reducible refine au (N:=3) rfl ?_);refine fz 3 #[.slice none 0 0,.int .i64 0] 26 ?_;intro bM hg w6 hbox hb;have b5:=am (hbox);have gZ:=fO hg;have b9:=fX hg b3;have bB:=fY hg b3;have bE:=fX hg b4;have bF:=fY hg b4;replace b3:=ba b3 hb;replace b4:=ba b4 hb;replace HB:=hB HB hb;clear hb hbox hg;have jH:=bB.out;have jI:=b9.out;have jJ:=bF.out;have jK:=bE.out;obtain⟨⟨_,_⟩,_,_⟩:=z2 b5))
 go_loopg [4] k (fun kq v4 w'=>∃(b2:Int) (b7:List (aW)) (b6:Value),v4= .int .i64 b2∧ae (aG.l0 kq b2 ah al b7 al=some (r1,r2))∧ae (kq≤k)∧ae (Kd.S k32 32 w' w.heap.size (fun _=>True) b6 b7)∧ae (w'.heap[dF]? =some (.cells #[(.slice bs ah.length bo),.int .i64 al] 26 (0,0)))∧ae (w'.heap[bQ]? =some (.cells #[(.slice none 0 0),.int .i64 0] 26 (0,0)))∧ae (w'.heap[bM]? =some (.cells #[b6,.int .i64 al] 26 (0,0)))∧ae (Below w.heap.size w w'))
 case atStart=>exact⟨(0),(([]:List (aW))),(.slice none 0 0),oS,H',⟨Nat.le_refl _⟩,⟨by exact Kd.ue _ _ _ _ _⟩,⟨oF b3⟩,⟨oF b4⟩,⟨oP b5⟩,⟨oB⟩⟩
 case round=>
  clear H';obtain⟨b2,b7,b6,rfl,HA,gL,b1,b3,b4,b5,HB⟩:=hrel
  cases gk with
  |zero=>exact absurd HA.out (by simp[aG.l0])
  |succ k1=>
   have H:=HA.out;clear HA;simp only[aG.l0]at H;replace H:=kU H;rcases H with⟨gI,H⟩|⟨gI,H⟩;rotate_left
   ·simp only[Option.some.injEq,Prod.mk.injEq]at H;obtain⟨rfl,rfl⟩:=H;have j1:=bC.out;have j2:=bD.out;have j3:=b9.out;have j4:=bB.out;obtain⟨⟨_,_⟩,_,_⟩:=z2 b3;have j5:=bF.out;have j6:=bE.out;obtain⟨⟨_,_⟩,_,_⟩:=z2 b5;obtain⟨dL,dM,gO⟩:=Kd.pE b1.out;subst gO;obtain⟨⟨_,_⟩,_,_⟩:=z2 b4
    go_wp2
    refine bodyPost_ret (results_cell_row rfl _ _ bQ 26 #[.slice dL b7.length dM,.int .i64 al] (0,0) _ rfl (oP b4) underlying26 rfl (by kernel_rfl)) rfl ?_;exact⟨_,oE,Kd.kV (Kd.qz (p:=⟨bQ,1,none⟩) (Kd.qz (p:=⟨bQ,0,none⟩) (Kd.oz b1.out b4.out (by decide)) (fun _ hk=>hk.2) (.slice dL b7.length dM)) (fun _ hk=>hk.2) (.int .i64 al)) (fun _ hk=>trivial),oB⟩
   obtain⟨j7,H⟩:=dw H;replace H:=bA H;obtain⟨⟨bU,bV,bW,bN,bO,bP⟩,gU,H⟩:=H
   try dsimp only at H
   obtain⟨gM,H⟩:=jm H;have gJ:=ae.mk gM;clear gM;obtain⟨dG,cx⟩:∃y_:List (aW),y_=(b7++[(⟨bU,bV,bW,bN,bO,bP⟩:aW)]):=⟨_,rfl⟩;replace H:(aG.l0 k1 (wrap64 (b2+1)) ah al dG al)=some (r1,r2):=oY;have gK:=ae.mk cx;clear cx;have H':=ae.mk H;clear H;have j8:=bC.out;have j9:=bD.out;have jA:=b9.out;have jB:=bB.out;obtain⟨⟨_,_⟩,_,_⟩:=z2 b3
   try go_wp2
   replace b1:=am (Kd.vw b1.out);replace b3:=am (ar b3.out);replace b4:=am (ar b4.out);replace b5:=am (ar b5.out);replace HB:=am (bl HB.out);have jL:(0≤(b2:Int))=True:=oT;have jM:(b2<(ah.length:Int))=True:=oT;obtain⟨b8,dN,dO,dP,dQ,dR,dS,gP,bG,bH,bI,bJ,bK,bL,bZ,d1,d2,d3,d4,d5⟩:=kX gH.out b2 oa oa;have d6:=bL;have d7:=bK;have d8:=bJ;have d9:=bI;have dA:=bH;have dB:=bG
   cases gP
   replace bG:=cB HB bG;replace bH:=cB HB bH;replace bI:=cB HB bI;replace bJ:=cB HB bJ;replace bK:=cB HB bK;replace bL:=cB HB bL;have dC:=ae.mk d1;have dI:=ae.mk bZ;clear d1 bZ;have dD:=ae.mk d3;have dJ:=ae.mk d2;clear d3 d2;have dE:=ae.mk d5;have dK:=ae.mk d4;clear d5 d4;refine iY (n:=12) (S:=fun w'=>w'.cell? ⟨bM,0,none⟩=some (b6)∧w'.cell? ⟨bM,1,none⟩=some (.int .i64 al)∧w'.cell? ⟨dF,0,none⟩=some (.slice (some b8) ah.length bo)∧w'.cell? ⟨dF,1,none⟩=some (.int .i64 al)∧w'.cell? (b8.add ((b2).toNat*6))=some (.int .i64 ((ai ah b2).f0))∧w'.cell? ⟨(b8.add ((b2).toNat*6)).block,(b8.add ((b2).toNat*6)).off+1,none⟩=some (.int .i64 ((ai ah b2).f1))∧w'.cell? ⟨(b8.add ((b2).toNat*6)).block,(b8.add ((b2).toNat*6)).off+2,none⟩=some (.int .i64 ((ai ah b2).f2))∧w'.cell? ⟨(b8.add ((b2).toNat*6)).block,(b8.add ((b2).toNat*6)).off+3,none⟩=some (.slice dN ((ai ah b2).f3).length dO)∧w'.cell? ⟨(b8.add ((b2).toNat*6)).block,(b8.add ((b2).toNat*6)).off+4,none⟩=some (.slice dP ((ai ah b2).f4).length dQ)∧w'.cell? ⟨(b8.add ((b2).toNat*6)).block,(b8.add ((b2).toNat*6)).off+5,none⟩=some (.slice dR ((ai ah b2).f5).length dS)) (ds:=[11]) (lb 12 0) (by kernel_rfl) rfl rfl oH (fun hHeld=> ?_);refine fW aG.acI aG.aaI (fun aV fA=> ?_);generalize wr.drew=jS at b1 b3 b4 b5 HB dC dD dE bG bH bI bJ bK bL hHeld⊢;refine cG 0 15 aV ?_;refine cG 2 17 aV ?_;refine cG 4 19 aV ?_;refine iA 1 16 aV fA hHeld ?_;refine iA 3 18 aV fA hHeld ?_;refine cG 5 20 aV ?_;refine iA 6 21 aV fA hHeld ?_;refine jg 7 22 aV (fun K hK=> ?_);refine mo 22 func100 (dh.calls ((ai ah b2).f0) ((ai ah b2).f1) ((ai ah b2).f2) _ _ ((ai ah b2).f3) _ _ ((ai ah b2).f4) _ _ ((ai ah b2).f5) bU bV bW bN bO bP _ (kC dC) dI.out (kC dD) dJ.out (kC dE) dK.out gU.out) ?_;rintro e jT ⟨jN,jO,jP,rfl,gN,dT,dU,hb⟩;refine⟨_,rfl,?_⟩;have bR:=am (Kd.aq gN (af oB));have bS:=am (Kd.aq dT (af oB));have bT:=am (Kd.aq dU (af oB));replace b1:=ac4 (ac2 b1 hb) (Kd.cL gN) (Kd.cL dT) (Kd.cL dU);replace b3:=ba b3 hb;replace b4:=ba b4 hb;replace b5:=ba b5 hb;replace HB:=hB HB hb
   (try clear dT)
   (try clear dU)
   obtain⟨dV,dW,dX⟩:=Kd.ao bR.out
   (subst dX)
   obtain⟨dY,dZ,gA⟩:=Kd.ao bS.out
   (subst gA)
   obtain⟨gB,gC,gD⟩:=Kd.ao bT.out
   (subst gD)
   refine aZ hK 22 oH (fun hHeld=> ?_);clear hK K;refine jg 8 23 aV (fun K hK=> ?_);refine mg (w1:= ?_) (v:= ?_) (by rfl) rfl ?_ ?_;rotate_left 2
   ·go_simp
    constructor
    ·rfl
    ·rfl
   refine aZ hK 23 ⟨(aj (ax b5.out _) 0).trans rfl,(aj (ax b5.out _) 1).trans rfl,(aj (ax b3.out _) 0).trans rfl,(aj (ax b3.out _) 1).trans rfl,(World.cell?_alloc_lt _ _ _ (World.block_lt_of_cell? _ _ ((cB HB dB)))).trans ((cB HB dB)),(World.cell?_alloc_lt _ _ _ (World.block_lt_of_cell? _ _ ((cB HB dA)))).trans ((cB HB dA)),(World.cell?_alloc_lt _ _ _ (World.block_lt_of_cell? _ _ ((cB HB d9)))).trans ((cB HB d9)),(World.cell?_alloc_lt _ _ _ (World.block_lt_of_cell? _ _ ((cB HB d8)))).trans ((cB HB d8)),(World.cell?_alloc_lt _ _ _ (World.block_lt_of_cell? _ _ ((cB HB d7)))).trans ((cB HB d7)),(World.cell?_alloc_lt _ _ _ (World.block_lt_of_cell? _ _ ((cB HB d6)))).trans ((cB HB d6))⟩ (fun hHeld=> ?_);clear hK K;refine jg 9 24 aV (fun K hK=> ?_);refine Kd.pb k32 (w0:=w) w.heap.size (by rfl) (.tmp 16) (.tmp 23) 24 32 (.agg #[(.int .i64 0),(.int .i64 0),(.int .i64 0),(.slice none 0 0),(.slice none 0 0),(.slice none 0 0)]) 96 rfl underlying24 jz rfl (by decide) (by omega) b6 b7 (⟨bU,bV,bW,bN,bO,bP⟩:aW) [.int .i64 bU,.int .i64 bV,.int .i64 bW,.slice dV bN.length dW,.slice dY bO.length dZ,.slice gB bP.length gC] (fun _=>True) (fun k_=>some k_=(.slice dV bN.length dW:Value).ownBlock∨some k_=(.slice dY bO.length dZ:Value).ownBlock∨some k_=(.slice gB bP.length gC:Value).ownBlock) rfl rfl ?aP (fun k_ aZ=>aZ.elim (fun h_=>((Kd.aM (ok':=fun k_=>((fun _=>True)) k_∧some k_≠(b6:Value).ownBlock) (Kd.cJ (bR.out) (Kd.jr b1.out) (by decide)) (fun k_ hk=>⟨trivial,hk.2⟩))).1 k_ h_.symm) (fun h_=>h_.elim (fun h_=>((Kd.aM (ok':=fun k_=>((fun _=>True)) k_∧some k_≠(b6:Value).ownBlock) (Kd.cJ (bS.out) (Kd.jr b1.out) (by decide)) (fun k_ hk=>⟨trivial,hk.2⟩))).1 k_ h_.symm) (fun h_=>((Kd.aM (ok':=fun k_=>((fun _=>True)) k_∧some k_≠(b6:Value).ownBlock) (Kd.cJ (bT.out) (Kd.jr b1.out) (by decide)) (fun k_ hk=>⟨trivial,hk.2⟩))).1 k_ h_.symm))) ?aF ?aO ?aB ?aS ?aL ?_
   (case aP=>exact sS _ _ _ (⟨bU,bV,bW,bN,bO,bP⟩:aW) (Kd.aM (Kd.nq rfl (Kd.aM (ok':=fun k_=>((fun _=>True)) k_∧some k_≠(b6:Value).ownBlock) (Kd.cJ (bR.out) (Kd.jr b1.out) (by decide)) (fun k_ hk=>⟨trivial,hk.2⟩))) (fun _ h_=>Or.inl h_)) (Kd.aM (Kd.nq rfl (Kd.aM (ok':=fun k_=>((fun _=>True)) k_∧some k_≠(b6:Value).ownBlock) (Kd.cJ (bS.out) (Kd.jr b1.out) (by decide)) (fun k_ hk=>⟨trivial,hk.2⟩))) (fun _ h_=>Or.inr (Or.inl h_))) (Kd.aM (Kd.nq rfl (Kd.aM (ok':=fun k_=>((fun _=>True)) k_∧some k_≠(b6:Value).ownBlock) (Kd.cJ (bT.out) (Kd.jr b1.out) (by decide)) (fun k_ hk=>⟨trivial,hk.2⟩))) (fun _ h_=>Or.inr (Or.inr (h_)))))
   (case aB=>exact oB)
   (case aF=>exact(fun _ _=>trivial))
   (case aO=>exact(Kd.kV b1.out (fun k_ hk=>⟨trivial,fun e_=>e_.elim (fun h_=>hk.1.1.2 h_) (fun h_=>h_.elim (fun h_=>hk.1.2 h_) (fun h_=>hk.2 h_))⟩)))
   (case aS=>exact(af oB))
   (case aL=>have:=gJ.out;omega)
   intro jQ gV ho hb hg hat;rw[←gK.out]at ho;have dH:=am (ho);replace b3:=iF b3 hg (Kd.vH b1.out b3.out (by decide));replace b4:=iF b4 hg (Kd.vH b1.out b4.out (by decide));replace b5:=iF b5 hg (Kd.vH b1.out b5.out (by decide));replace HB:=am (hb);clear b1;clear bR;clear bS;clear bT;clear ho hb hg hat;obtain⟨gE,gF,gG⟩:=Kd.pE dH.out
   (subst gG)
   refine aZ hK 24 oH (fun hHeld=> ?_);clear hK K;refine cG 10 25 aV ?_;refine kJ (i:=11) (N:=none) (lb 12 4095) rfl rfl (iE aV.out (by kernel_rfl)) (by decide) (fun K hK=> ?_);have jR:gV.cell? ⟨bM,0,none⟩=some (b6):=(aj b5.out 0).trans rfl;have jC:=aK b5.out 0;have gQ:=b9.out;have gR:=bE.out;have gS:=bB.out;have gT:=bF.out;refine kp (w1:= ?_) (by rfl) rfl ?_ ?_;rotate_left
   ·go_simp
    rfl
   refine hK.out _ _ ?_;clear hK K;refine nF aV ?_
   try go_wp2
   go_roundg k1
   case measure=>have:=gL.out;omega
   case rel=>exact⟨(wrap64 (b2+1)),(dG),(.slice gE dG.length gF),oS,H',⟨by have:=gL.out;omega⟩,⟨Kd.kV (Kd.qz (p:=⟨bM,0,none⟩) (Kd.oz dH.out b5.out (by decide)) (fun _ hk=>hk.2) (.slice gE dG.length gF)) (fun _ hk=>trivial)⟩,⟨oF b3⟩,⟨oF b4⟩,⟨oP b5⟩,⟨oB⟩⟩

def di.l0:Nat→Int→List Int→Int→Option (List Int)
 |0,_,_,_=>none
 |k+1,x1,x5,x6=>if x6>0 then(if 0≤(wrap64 (x6-1))then(if(wrap64 (x6-1))<(x5.length:Int)then(if(rd x5 (wrap64 (x6-1)))>x1 then(if 0≤x6 then(if x6<(x5.length:Int)then(di.l0 k x1 (x5.set (x6:Int).toNat (rd x5 (wrap64 (x6-1)))) (wrap64 (x6-1)))else(none))else(none))else(if 0≤x6 then(if x6<(x5.length:Int)then(some (x5.set (x6:Int).toNat x1))else(none))else(none)))else(none))else(none))else(if 0≤x6 then(if x6<(x5.length:Int)then(some (x5.set (x6:Int).toNat x1))else(none))else(none))
def di.f (k:Nat) (l0:List Int) (a1:Int):Option (List Int):=(eL.f k l0 a1).bind fun b4=>(if b4=true then(some l0)else((some (([]:List Int):List Int)).bind fun b1=>(if b1.length+l0.length<17592186044416 then((some (b1++l0:List Int)).bind fun b2=>(if b2.length<17592186044416 then((some (b2++[a1]:List Int)).bind fun b3=>(di.l0 k a1 b3 (wrap64 ((b3.length:Int)-1))))else(none)))else(none))))
theorem di.calls (k:Nat) (A0:Option Addr) (c0:Nat) (l0:List Int) (a1:Int) (r:List Int) (b0:Nat) (w:World) (hb0:b0≤w.heap.size) (ho0:Kd.R (Kd.int .i64) 3 w b0 (fun _=>True) (.slice A0 l0.length c0) l0) (h:di.f k l0 a1=some r):
  Calls Tryz.prog 191 #[.slice A0 l0.length c0,.int .i64 a1] w fun e w'=>∃fy:Value,e= .returned (fy)∧Kd.R (Kd.int .i64) 3 w' b0 (fun _=>True) fy r∧Below w.heap.size w w':=by
 have d2:=am (Kd.aU ho0).2.2;have dV:=am (Kd.aU ho0).2.1;have gH:=ae.mk ho0;have dW:=ae.mk hb0;clear ho0 hb0;have HB:=am (Below.refl w.heap.size w);have H:((eL.f k l0 a1).bind fun bJ=>(if bJ=true then(some l0)else((some (([]:List Int):List Int)).bind fun b7=>(if b7.length+l0.length<17592186044416 then((some (b7++l0:List Int)).bind fun b6=>(if b6.length<17592186044416 then((some (b6++[a1]:List Int)).bind fun b5=>(di.l0 k a1 b5 (wrap64 ((b5.length:Int)-1))))else(none)))else(none)))))=some r:=h;clear h;replace H:=Option.bind_eq_some_iff.mp H;obtain⟨bJ,dX,H⟩:=H;replace H:(if bJ=true then(some l0)else((some (([]:List Int):List Int)).bind fun b7=>(if b7.length+l0.length<17592186044416 then((some (b7++l0:List Int)).bind fun b6=>(if b6.length<17592186044416 then((some (b6++[a1]:List Int)).bind fun b5=>(di.l0 k a1 b5 (wrap64 ((b5.length:Int)-1))))else(none)))else(none))))=some r:=H;have A3:=ae.mk dX;clear dX
 by_cases c4:bJ=true
 ·subst c4
  have H1:(some l0)=some r:=by rw[if_pos rfl]at H;exact H
  clear H;obtain rfl:=Option.some.inj H1
  go_enter func191,ntmps191
  go_wp2_with (((with_reducible refine ag (f:=207) rfl ?_);refine sN (some 9) rfl rfl func207 (by kernel_rfl) rfl #[.slice A0 l0.length c0,.int .i64 a1] rfl oL ?_;(with_reducible refine(eL.calls k _ _ l0 a1 true _ ?aC ?bh A3.out).mono ?_);(case aC=>repeat(exact d2.out));(case bh=>exact dV.out);rintro e w' ⟨rfl,⟨nd,rfl⟩⟩;refine⟨_,rfl,?_⟩))
  go_ret
  exact⟨_,oE,(wK gH),oB⟩
 replace c4:=Bool.eq_false_iff.mpr c4;subst c4
 have H1:((some (([]:List Int):List Int)).bind fun b7=>(if b7.length+l0.length<17592186044416 then((some (b7++l0:List Int)).bind fun b6=>(if b6.length<17592186044416 then((some (b6++[a1]:List Int)).bind fun b5=>(di.l0 k a1 b5 (wrap64 ((b5.length:Int)-1))))else(none)))else(none)))=some r:=by rw[if_neg (show¬(false=true) by decide)]at H;exact H
 clear H;have H:=H1;clear H1;obtain⟨b7,cx⟩:∃y_:List Int,y_=(([]:List Int)):=⟨_,rfl⟩;replace H:(if b7.length+l0.length<17592186044416 then((some (b7++l0:List Int)).bind fun b6=>(if b6.length<17592186044416 then((some (b6++[a1]:List Int)).bind fun b5=>(di.l0 k a1 b5 (wrap64 ((b5.length:Int)-1))))else(none)))else(none))=some r:=oY;have bV:=ae.mk cx;clear cx;obtain⟨c7,H⟩:=jm H;have gI:=ae.mk c7;clear c7;obtain⟨b6,cx⟩:∃y_:List Int,y_=(b7++l0):=⟨_,rfl⟩;replace H:(if b6.length<17592186044416 then((some (b6++[a1]:List Int)).bind fun b5=>(di.l0 k a1 b5 (wrap64 ((b5.length:Int)-1))))else(none))=some r:=oY;have dN:=ae.mk cx;clear cx;obtain⟨c8,H⟩:=jm H;have gJ:=ae.mk c8;clear c8;obtain⟨b5,cx⟩:∃y_:List Int,y_=(b6++[a1]):=⟨_,rfl⟩;replace H:(di.l0 k a1 b5 (wrap64 ((b5.length:Int)-1)))=some r:=oY;have dO:=ae.mk cx;clear cx;have H':=ae.mk H;clear H
 go_enter func191,ntmps191
 go_wp2_with (first|((with_reducible refine ag (f:=207) rfl ?_);refine sN (some 9) rfl rfl func207 (by kernel_rfl) rfl #[.slice A0 l0.length c0,.int .i64 a1] rfl oL ?_;(with_reducible refine(eL.calls k _ _ l0 a1 false _ ?aC ?bh A3.out).mono ?_);(case aC=>repeat(exact d2.out));(case bh=>exact dV.out);rintro e w' ⟨rfl,⟨nd,rfl⟩⟩;refine⟨_,rfl,?_⟩)|((with_reducible refine au (N:=11) rfl ?_);refine Kd.gu (Kd.int .i64) _ 3 ?hg (N:=11) ?hd (xs:=([]:List Int)) (inner:=[]) (ok:=fun _=>True) (fw:=fun _=>True) ?hr ?hp (fun _ hk=>hk) trivial (Below.refl _ _) (Nat.le_refl _) (by simp) ?_;(case hd=>rfl);(case hg=>rfl);(case hr=>(go_simp;done));(case hp=>exact(bp.none _ _));intro gK w9 bG hb fN cj;clear fN cj;(rw[←bV.out]at bG);have b8:=am (Kd.aq bG (af oB));have b9:=hB HB hb;clear HB;have bW:=b8;have HB:=b9;clear b8 b9;clear hb bG)|((with_reducible refine cX (b:= .append) (xs:= #[.tmp 11,.tmp 12]) rfl ?_);at_builtin;refine Kd.fM (Kd.int .i64) (w0:=w) w.heap.size rfl (.tmp 11) (.tmp 12) 80 3 (.int .i64 0) 8 rfl underlying80 info3 rfl (by decide) (by omega) gK b7 l0 _ _ _ (fun _=>True) (fun _=>False) rfl rfl ?aO ?aR (fun _ _ h=>h) (fun _ h=>h.elim) ?aF ?aB ?aS ?aL ?_;(case aR=>repeat(exact(Kd.cR d2.out HB.out)));(case aB=>exact oB);(case aF=>exact(fun _ _=>trivial));(case aO=>exact(wK bW));(case aS=>exact(af oB));(case aL=>have:=gI.out;omega);intro gL jL ho hb hg hat;rw[←dN.out]at ho;have b8:=am (hb);have b9:=am (ho);clear HB;clear bW;have HB:=b8;have bX:=b9;clear b8 b9;clear ho hb hg hat)|((with_reducible refine cX (b:= .append) (xs:= #[.tmp 13,.tmp 15]) rfl ?_);at_builtin;refine Kd.iN (Kd.int .i64) (w0:=w) w.heap.size rfl (.tmp 13) (.tmp 15) 80 3 (.int .i64 0) 8 rfl underlying80 info3 rfl (by decide) (by omega) gL b6 a1 [.int .i64 a1] (fun _=>True) (fun _=>False) rfl rfl ?aP (fun _ hk=>hk.elim) ?aF ?aO ?aB ?aS ?aL ?_;(case aP=>exact rfl);(case aB=>exact oB);(case aF=>exact(fun _ _=>trivial));(case aO=>exact(wK bX));(case aS=>exact(af oB));(case aL=>have:=gJ.out;omega);intro jB jM ho hb hg hat;rw[←dO.out]at ho;have b8:=am (hb);have b9:=am (ho);clear HB;clear bX;have HB:=b8;have bY:=b9;clear b8 b9;clear ho hb hg hat;obtain⟨gM,bK,gN⟩:=Kd.ao bY.out;subst gN))
 go_loopg [6] k (fun kq v6 w'=>∃(b2:List Int) (b1:Int),v6= .int .i64 b1∧ae (di.l0 kq a1 b2 b1=some r)∧ae (kq≤k)∧ae (Kd.R (Kd.int .i64) 3 w' w.heap.size (fun _=>True) (.slice gM b5.length bK) b2)∧ae (Below w.heap.size w w'))
 case atStart=>exact⟨(b5),(wrap64 ((b5.length:Int)-1)),oS,H',⟨Nat.le_refl _⟩,⟨bY.out⟩,⟨oB⟩⟩
 case round=>
  clear H';obtain⟨b2,b1,rfl,HA,dY,b4,HB⟩:=hrel;have bF:=(Kd.aU b4.out).1;rw[bF]at b4
  (try simp only[bF])
  cases gk with
  |zero=>exact absurd HA.out (by simp[di.l0])
  |succ k1=>
   have H:=HA.out;clear HA;simp only[di.l0]at H
   by_cases bH:b1>0
   rotate_left
   ·rw[if_neg bH]at H;have dP:decide (0<b1)=false:=decide_eq_false bH;clear bH;obtain⟨dZ,H⟩:=jm H;have j3:decide (0≤b1)=true:=decide_eq_true dZ;clear dZ;obtain⟨gA,H⟩:=jm H;have j4:decide (b1<(b2.length:Int))=true:=decide_eq_true gA;clear gA;obtain⟨d3,cx⟩:∃y_:List Int,y_=(b2.set (b1:Int).toNat a1):=⟨_,rfl⟩;replace H:(some d3)=some r:=oY;have dQ:=ae.mk cx;clear cx;obtain rfl:=Option.some.inj H;have d4:0≤(b1:Int):=oa;have d5:(b1:Int)<((b2.length:Int):Int):=oa;obtain⟨bL,jC,d6,d7,gO,jD,d8⟩:=Kd.jt b4.out (by omega)
    (cases d6)
    have gP:=ae.mk d7;have jE:=ae.mk d8;clear d7 gO d8;obtain⟨gV,gW⟩:=Kd.np 0 b4.out (b1:Int) d4 d5;replace d4:=eq_true d4;replace d5:=eq_true d5;have bM:=Kd.qf b4.out (b1:Int) a1
    go_wp2_with (((with_reducible refine fI (t:=3) (p:=44) rfl ?_);refine fs (t:=3) (p:=44) (v:= ?aaJ) (w1:=(wr.setCell ⟨bL,(b1:Int).toNat,none⟩ (.int .i64 a1))) ?hg ?ho ?hn ?hr ?_;(case ho=>rfl);(case hg=>rfl);(case hn=>rfl);(case hr=>(go_simp;done));intro d9 hw;have hg:wr.grownBy d9 (some bL):=(by rw[hw];exact bM.2);have nU:Kd.R (Kd.int .i64) 3 d9 w.heap.size (fun _=>True) (.slice (some ⟨bL,0,none⟩) b2.length bK) d3:=(by rw[hw,dQ.out];exact bM.1);clear bM;have b8:=am (nU);have b9:=am ((by rw[hw];exact a_ (HB.out) gP.out:Below w.heap.size w d9));clear b4;clear HB;have b4:=b8;have HB:=b9;clear b8 b9;clear hg hw nU))
    go_ret
    exact⟨_,oE,Kd.aq (wK b4) dW.out,oB⟩
   rw[if_pos bH]at H;have dP:decide (0<b1)=true:=decide_eq_true bH;clear bH;obtain⟨b3,bD⟩:∃j_:Int,(wrap64 (b1-1))=j_:=⟨_,rfl⟩
   replace H:(if 0≤(b3)then(if(b3)<(b2.length:Int)then(if(rd b2 (b3))>a1 then(if 0≤b1 then(if b1<(b2.length:Int)then(di.l0 k1 a1 (b2.set (b1:Int).toNat (rd b2 (b3))) b3)else(none))else(none))else(if 0≤b1 then(if b1<(b2.length:Int)then(some (b2.set (b1:Int).toNat a1))else(none))else(none)))else(none))else(none))=some r:=by(rw[bD]at H;exact H)
   have gX:(IntKind.i64.wrap (b1-1))=b3:=(kn _).trans bD;obtain⟨gB,H⟩:=jm H;have j5:decide (0≤(b3))=true:=decide_eq_true gB;clear gB;obtain⟨gC,H⟩:=jm H;have j6:decide ((b3)<(b2.length:Int))=true:=decide_eq_true gC;clear gC
   by_cases bI:(rd b2 (b3))>a1
   rotate_left
   ·rw[if_neg bI]at H;have dR:decide (a1<(rd b2 (b3)))=false:=decide_eq_false bI;clear bI;obtain⟨gD,H⟩:=jm H;have j7:decide (0≤b1)=true:=decide_eq_true gD;clear gD;obtain⟨gE,H⟩:=jm H;have j8:decide (b1<(b2.length:Int))=true:=decide_eq_true gE;clear gE;obtain⟨dA,cx⟩:∃y_:List Int,y_=(b2.set (b1:Int).toNat a1):=⟨_,rfl⟩;replace H:(some dA)=some r:=oY;have dS:=ae.mk cx;clear cx;obtain rfl:=Option.some.inj H;have bB:0≤((b3):Int):=oa;have bC:(b3)<(b2.length:Int):=oa;obtain⟨bZ,bN,bE⟩:=Kd.me (Kd.aU b4.out).2.2 (b3) bB bC
    cases bN
    replace bB:=eq_true bB;replace bC:=eq_true bC;have dB:0≤(b1:Int):=oa;have dC:(b1:Int)<((b2.length:Int):Int):=oa;obtain⟨bO,jF,dD,dE,gQ,jG,dF⟩:=Kd.jt b4.out (by omega)
    (cases dD)
    have gR:=ae.mk dE;have jH:=ae.mk dF;clear dE gQ dF
    (simp only[add_plain]at bE)
    obtain⟨gY,gZ⟩:=Kd.np 0 b4.out (b1:Int) dB dC;replace dB:=eq_true dB;replace dC:=eq_true dC;have bP:=Kd.qf b4.out (b1:Int) a1
    go_wp2_with (((with_reducible refine fI (t:=3) (p:=44) rfl ?_);refine fs (t:=3) (p:=44) (v:= ?acE) (w1:=(wr.setCell ⟨bO,(b1:Int).toNat,none⟩ (.int .i64 a1))) ?hg ?ho ?hn ?hr ?_;(case ho=>rfl);(case hg=>rfl);(case hn=>rfl);(case hr=>(go_simp;done));intro dG hw;have hg:wr.grownBy dG (some bO):=(by rw[hw];exact bP.2);have nU:Kd.R (Kd.int .i64) 3 dG w.heap.size (fun _=>True) (.slice (some ⟨bO,0,none⟩) b2.length bK) dA:=(by rw[hw,dS.out];exact bP.1);clear bP;have b8:=am (nU);have b9:=am ((by rw[hw];exact a_ (HB.out) gR.out:Below w.heap.size w dG));clear b4;clear HB;have b4:=b8;have HB:=b9;clear b8 b9;clear hg hw nU))
    go_ret
    exact⟨_,by rfl,Kd.aq (wK b4) dW.out,oB⟩
   rw[if_pos bI]at H;have dR:decide (a1<(rd b2 (b3)))=true:=decide_eq_true bI;clear bI;obtain⟨gF,H⟩:=jm H;have j9:decide (0≤b1)=true:=decide_eq_true gF;clear gF;obtain⟨gG,H⟩:=jm H;have jA:decide (b1<(b2.length:Int))=true:=decide_eq_true gG;clear gG;obtain⟨bQ,cx⟩:∃y_:List Int,y_=(b2.set (b1:Int).toNat (rd b2 (b3))):=⟨_,rfl⟩;replace H:(di.l0 k1 a1 bQ b3)=some r:=oY;have dT:=ae.mk cx;clear cx;have H':=ae.mk H;clear H;have bB:0≤((b3):Int):=oa;have bC:(b3)<(b2.length:Int):=oa;obtain⟨bZ,bN,bE⟩:=Kd.me (Kd.aU b4.out).2.2 (b3) bB bC
   cases bN
   replace bB:=eq_true bB;replace bC:=eq_true bC;have bR:0≤((b3):Int):=oa;have bS:(b3)<(b2.length:Int):=oa;obtain⟨dU,gS,d1⟩:=Kd.me (Kd.aU b4.out).2.2 (b3) bR bS;obtain rfl:bZ=dU:=(by injection gS);replace bR:=eq_true bR;replace bS:=eq_true bS;have dH:0≤(b1:Int):=oa;have dI:(b1:Int)<((b2.length:Int):Int):=oa;obtain⟨bT,jI,dJ,dK,gT,jJ,dL⟩:=Kd.jt b4.out (by omega)
   (cases dJ)
   have gU:=ae.mk dK;have jK:=ae.mk dL;clear dK gT dL
   (simp only[add_plain]at bE)
   (simp only[add_plain]at d1)
   obtain⟨j1,j2⟩:=Kd.np 0 b4.out (b1:Int) dH dI;replace dH:=eq_true dH;replace dI:=eq_true dI;have bU:=Kd.qf b4.out (b1:Int) (rd b2 (b3))
   go_wp2_with (((with_reducible refine fI (t:=3) (p:=38) rfl ?_);refine fs (t:=3) (p:=38) (v:= ?acF) (w1:=(wr.setCell ⟨bT,(b1:Int).toNat,none⟩ (.int .i64 (rd b2 (b3))))) ?hg ?ho ?hn ?hr ?_;(case ho=>rfl);(case hg=>rfl);(case hn=>rfl);(case hr=>(go_simp;done));intro dM hw;have hg:wr.grownBy dM (some bT):=(by rw[hw];exact bU.2);have nU:Kd.R (Kd.int .i64) 3 dM w.heap.size (fun _=>True) (.slice (some ⟨bT,0,none⟩) b2.length bK) bQ:=(by rw[hw,dT.out];exact bU.1);clear bU;have b8:=am (nU);have b9:=am ((by rw[hw];exact a_ (HB.out) gU.out:Below w.heap.size w dM));clear b4;clear HB;have b4:=b8;have HB:=b9;clear b8 b9;clear hg hw nU))
   (try simp only[←bF])
   go_roundg k1
   case measure=>have:=dY.out;omega
   case rel=>exact⟨(bQ),(b3),(by rfl),H',⟨by have:=dY.out;omega⟩,⟨by(try simp only[bF]);(with_reducible repeat(first|apply Kd.cP|apply Kd.cQ|apply Kd.b_));exact b4.out⟩,⟨oB⟩⟩

def aY.l0:Nat→ByteArray→Int→Option (Bool)
 |0,_,_=>none
 |k+1,x0,x3=>if x3<(x0.size:Int)then(if 0≤x3 then((bg.f (wrap64 (bt x0 x3)) 97 122).bind fun b1=>(if b1=true then(aY.l0 k x0 (wrap64 (x3+1)))else((bg.f (wrap64 (bt x0 x3)) 48 57).bind fun b2=>(if b2=true then(aY.l0 k x0 (wrap64 (x3+1)))else(if(wrap64 (bt x0 x3))=95 then(aY.l0 k x0 (wrap64 (x3+1)))else(if(wrap64 (bt x0 x3))=45 then(aY.l0 k x0 (wrap64 (x3+1)))else(if(wrap64 (bt x0 x3))=46 then(aY.l0 k x0 (wrap64 (x3+1)))else(some false))))))))else(none))else((bg.f (x0.size:Int) 1 14).bind fun b3=>(if b3=true then(if x0.toList=([46]:List UInt8)then(some false)else(some (x0.toList !=([46,46]:List UInt8))))else(some false)))
def aY.f (k:Nat) (a0:ByteArray):Option (Bool):=aY.l0 k a0 0
theorem aY.calls (k:Nat) (a0:ByteArray) (r:Bool) (w:World) (h:aY.f k a0=some r):
  Calls Tryz.prog 94 #[.string a0] w fun e w'=>e= .returned (.bool r)∧fZ w w':=by
 unfold aY.f at h;have H:=h;clear h;have H':=ae.mk H;clear H
 go_enter func94,ntmps94
 go_wp2
 go_loopg [3] k (fun kq v3 w'=>∃(b1:Int),v3= .int .i64 b1∧ae (aY.l0 kq a0 b1=some r)∧ae (kq≤k)∧fZ w w')
 case atStart=>exact⟨(0),oS,H',⟨Nat.le_refl _⟩,oD⟩
 case round=>
  clear H';obtain⟨b1,rfl,HA,b2,⟨m1,rfl⟩⟩:=hrel
  cases gk with
  |zero=>exact absurd HA.out (by simp[aY.l0])
  |succ k1=>
   have H:=HA.out;clear HA;simp only[aY.l0]at H;replace H:=kU H;rcases H with⟨bF,H⟩|⟨bF,H⟩;rotate_left
   ·replace H:=bA H;obtain⟨bI,b8,H⟩:=H;replace H:=jl H;rcases H with⟨rfl,H⟩|⟨rfl,H⟩;rotate_left
    ·obtain rfl:=Option.some.inj H
     go_wp2_with (((with_reducible refine ag (f:=73) rfl ?_);refine dk 37 func73 (bg.calls (a0.size:Int) 1 14 false _ b8.out) ?_;rintro e w' ⟨rfl,⟨nd,rfl⟩⟩;refine⟨_,rfl,?_⟩))
     go_ret
     exact⟨oS,oD⟩
    by_cases b4:a0.toList=([46]:List UInt8)
    rotate_left
    ·rw[if_neg b4]at H;have bB:(a0.toList==([46]:List UInt8))=false:=beq_eq_false_iff_ne.mpr b4;have bC:(a0.toList !=([46]:List UInt8))=true:=bne_iff_ne.mpr b4;obtain rfl:=Option.some.inj H
     go_wp2_with (((with_reducible refine ag (f:=73) rfl ?_);refine dk 37 func73 (bg.calls (a0.size:Int) 1 14 true _ b8.out) ?_;rintro e w' ⟨rfl,⟨nd,rfl⟩⟩;refine⟨_,rfl,?_⟩))
     go_ret
     exact⟨oS,oD⟩
    rw[if_pos b4]at H;have bB:(a0.toList==([46]:List UInt8))=true:=beq_iff_eq.mpr b4;have bC:(a0.toList !=([46]:List UInt8))=false:=bne_eq_false_iff_eq.mpr b4;clear b4;obtain rfl:=Option.some.inj H
    go_wp2_with (((with_reducible refine ag (f:=73) rfl ?_);refine dk 37 func73 (bg.calls (a0.size:Int) 1 14 true _ b8.out) ?_;rintro e w' ⟨rfl,⟨nd,rfl⟩⟩;refine⟨_,rfl,?_⟩))
    go_ret
    exact⟨oS,oD⟩
   obtain⟨bJ,H⟩:=dw H;replace H:=bA H;obtain⟨bK,A5,H⟩:=H;replace H:=jl H;rcases H with⟨rfl,H⟩|⟨rfl,H⟩
   ·have H':=ae.mk H;clear H;have p4:(0≤(b1:Int))=True:=oT;have q4:(b1<(a0.size:Int))=True:=oT;have b7:=iq a0 b1
    go_wp2_with (((with_reducible refine ag (f:=73) rfl ?_);refine dk 16 func73 (bg.calls (wrap64 (bt a0 b1)) 97 122 true _ A5.out) ?_;rintro e w' ⟨rfl,⟨nd,rfl⟩⟩;refine⟨_,rfl,?_⟩))
    go_roundg k1
    case measure=>have:=b2.out;omega
    case rel=>exact⟨(wrap64 (b1+1)),oS,H',⟨by have:=b2.out;omega⟩,oD⟩
   replace H:=bA H;obtain⟨bL,A7,H⟩:=H;replace H:=jl H;rcases H with⟨rfl,H⟩|⟨rfl,H⟩
   ·have H':=ae.mk H;clear H;have p4:(0≤(b1:Int))=True:=oT;have q4:(b1<(a0.size:Int))=True:=oT;have b7:=iq a0 b1
    go_wp2_with (first|((with_reducible refine ag (f:=73) rfl ?_);refine dk 16 func73 (bg.calls (wrap64 (bt a0 b1)) 97 122 false _ A5.out) ?_;rintro e w' ⟨rfl,⟨nd,rfl⟩⟩;refine⟨_,rfl,?_⟩)|(go_at_call 73;(with_reducible refine(bg.calls (wrap64 (bt a0 b1)) 48 57 true _ A7.out).mono ?_);rintro e w' ⟨rfl,⟨nd,rfl⟩⟩))
    go_roundg k1
    case measure=>have:=b2.out;omega
    case rel=>exact⟨(wrap64 (b1+1)),oS,H',⟨by have:=b2.out;omega⟩,oD⟩
   by_cases c9:(wrap64 (bt a0 b1))=95
   ·rw[if_pos c9]at H;have bG:((wrap64 (bt a0 b1))==95)=true:=beq_iff_eq.mpr c9;have bH:((wrap64 (bt a0 b1)) !=95)=false:=bne_eq_false_iff_eq.mpr c9;clear c9;have H':=ae.mk H;clear H;have p4:(0≤(b1:Int))=True:=oT;have q4:(b1<(a0.size:Int))=True:=oT;have b7:=iq a0 b1
    go_wp2_with (first|((with_reducible refine ag (f:=73) rfl ?_);refine dk 16 func73 (bg.calls (wrap64 (bt a0 b1)) 97 122 false _ A5.out) ?_;rintro e w' ⟨rfl,⟨nd,rfl⟩⟩;refine⟨_,rfl,?_⟩)|(go_at_call 73;(with_reducible refine(bg.calls (wrap64 (bt a0 b1)) 48 57 false _ A7.out).mono ?_);rintro e w' ⟨rfl,⟨nd,rfl⟩⟩))
    go_roundg k1
    case measure=>have:=b2.out;omega
    case rel=>exact⟨(wrap64 (b1+1)),oS,H',⟨by have:=b2.out;omega⟩,oD⟩
   rw[if_neg c9]at H;have bG:((wrap64 (bt a0 b1))==95)=false:=beq_eq_false_iff_ne.mpr c9;have bH:((wrap64 (bt a0 b1)) !=95)=true:=bne_iff_ne.mpr c9
   by_cases c10:(wrap64 (bt a0 b1))=45
   ·rw[if_pos c10]at H;have bD:((wrap64 (bt a0 b1))==45)=true:=beq_iff_eq.mpr c10;have bE:((wrap64 (bt a0 b1)) !=45)=false:=bne_eq_false_iff_eq.mpr c10;clear c10;have H':=ae.mk H;clear H;have p4:(0≤(b1:Int))=True:=oT;have q4:(b1<(a0.size:Int))=True:=oT;have b7:=iq a0 b1
    go_wp2_with (first|((with_reducible refine ag (f:=73) rfl ?_);refine dk 16 func73 (bg.calls (wrap64 (bt a0 b1)) 97 122 false _ A5.out) ?_;rintro e w' ⟨rfl,⟨nd,rfl⟩⟩;refine⟨_,rfl,?_⟩)|(go_at_call 73;(with_reducible refine(bg.calls (wrap64 (bt a0 b1)) 48 57 false _ A7.out).mono ?_);rintro e w' ⟨rfl,⟨nd,rfl⟩⟩))
    go_roundg k1
    case measure=>have:=b2.out;omega
    case rel=>exact⟨(wrap64 (b1+1)),oS,H',⟨by have:=b2.out;omega⟩,oD⟩
   rw[if_neg c10]at H;have bD:((wrap64 (bt a0 b1))==45)=false:=beq_eq_false_iff_ne.mpr c10;have bE:((wrap64 (bt a0 b1)) !=45)=true:=bne_iff_ne.mpr c10;have b9:=ae.mk H;clear H;have p4:(0≤(b1:Int))=True:=oT;have q4:(b1<(a0.size:Int))=True:=oT;have b7:=iq a0 b1
   go_upto_if 34 with(first|((with_reducible refine ag (f:=73) rfl ?_);refine dk 16 func73 (bg.calls (wrap64 (bt a0 b1)) 97 122 false _ A5.out) ?_;rintro e w' ⟨rfl,⟨nd,rfl⟩⟩;refine⟨_,rfl,?_⟩)|(go_at_call 73;(with_reducible refine(bg.calls (wrap64 (bt a0 b1)) 48 57 false _ A7.out).mono ?_);rintro e w' ⟨rfl,⟨nd,rfl⟩⟩))
   have H:=b9.out;clear b9
   by_cases b5:(wrap64 (bt a0 b1))=46
   rotate_left
   ·rw[if_neg b5]at H;have b3:((wrap64 (bt a0 b1))==46)=false:=beq_eq_false_iff_ne.mpr b5;have b6:((wrap64 (bt a0 b1)) !=46)=true:=bne_iff_ne.mpr b5
    (rw[b6])
    obtain rfl:=Option.some.inj H
    go_wp2
    go_ret
    exact⟨oS,oD⟩
   rw[if_pos b5]at H;have b3:((wrap64 (bt a0 b1))==46)=true:=beq_iff_eq.mpr b5;have b6:((wrap64 (bt a0 b1)) !=46)=false:=bne_eq_false_iff_eq.mpr b5;clear b5
   (rw[b6])
   have H':=ae.mk H;clear H
   go_wp2
   go_roundg k1
   case measure=>have:=b2.out;omega
   case rel=>exact⟨(wrap64 (b1+1)),oS,H',⟨by have:=b2.out;omega⟩,oD⟩

def eV.f (k:Nat) (ah:List (aW)) (al:Int) (a1:Int):Option (Int×Int×Int×List Int×(List (cD))×(List (bj))×Bool):=(da.f k ah al a1).bind fun b1=>(if b1<0 then(some (0,0,0,([]:List Int),([]:List (cD)),([]:List (bj)),false))else(if 0≤b1 then(if b1<(ah.length:Int)then((dh.f ((ai ah b1).f0) ((ai ah b1).f1) ((ai ah b1).f2) ((ai ah b1).f3) ((ai ah b1).f4) ((ai ah b1).f5)).bind fun b2=>(some (b2.1,b2.2.1,b2.2.2.1,b2.2.2.2.1,b2.2.2.2.2.1,b2.2.2.2.2.2,true)))else(none))else(none)))
theorem eV.calls (k:Nat) (bs:Option Addr) (bo:Nat) (ah:List (aW)) (al:Int) (a1:Int) (r1:Int) (r2:Int) (r3:Int) (r4:List Int) (r5:List (cD)) (r6:List (bj)) (r7:Bool) (w:World) (cy:Kd.C k32 w bs ah.length ah) (cA:ah.length≤bo) (h:eV.f k ah al a1=some (r1,r2,r3,r4,r5,r6,r7)):
  Calls Tryz.prog 49 #[.agg #[.slice bs ah.length bo,.int .i64 al],.int .i64 a1] w fun e w'=>∃pJ pK pL:Value,e= .returned (.tuple #[.agg #[.int .i64 r1,.int .i64 r2,.int .i64 r3,pJ,pK,pL],.bool r7])∧Kd.R (Kd.int .u8) 5 w' w.heap.size (fun _=>True) pJ r4∧Kd.R fL 74 w' w.heap.size (fun _=>True) pK r5∧Kd.R dn 101 w' w.heap.size (fun _=>True) pL r6∧Below w.heap.size w w':=by
 have dS:=underlying26;have dT:=underlying32;have b7:=ae.mk cy;have bP:=ae.mk cA;clear cy cA;have HB:=am (Below.refl w.heap.size w);unfold eV.f at h;have H:=h;clear h;replace H:=bA H;obtain⟨b3,A3,H⟩:=H
 try dsimp only at H
 have bQ:=ae.mk H;clear H
 go_enter func49,ntmps49
 go_upto_if 11 with(first|((with_reducible refine au (N:=2) rfl ?_);refine fz 2 #[.slice bs ah.length bo,.int .i64 al] 26 ?_;intro dI hg w5 hbox hb;have b2:=am (hbox);have dJ:=fO hg;replace HB:=hB HB hb;clear hb hbox hg)|((with_reducible refine au (N:=4) rfl ?_);refine fz 4 #[.int .i64 0,.int .i64 0,.int .i64 0,.slice none 0 0,.slice none 0 0,.slice none 0 0] 32 ?_;intro b8 hg w6 hbox hb;have b1:=am (hbox);have dK:=fO hg;have b4:=fX hg b2;have b5:=fY hg b2;replace b2:=ba b2 hb;replace HB:=hB HB hb;clear hb hbox hg;have dU:=b4.out;have dV:=b5.out;obtain⟨⟨_,_⟩,_,_⟩:=z2 b2)|((with_reducible refine ag (f:=99) rfl ?_);refine dk 9 func99 (da.calls k _ _ ah al a1 b3 _ (kC b7) bP.out A3.out) ?_;rintro e w9 ⟨rfl,hb⟩;refine⟨_,rfl,?_⟩;replace b2:=ba b2 hb;replace b1:=ba b1 hb;replace HB:=hB HB hb))
 have H:=bQ.out;clear bQ;replace H:=kU H;rcases H with⟨b6,H⟩|⟨b6,H⟩
 ·(first|rw[b6]|skip)
  simp only[Option.some.injEq,Prod.mk.injEq]at H;obtain⟨rfl,rfl,rfl,rfl,rfl,rfl,rfl⟩:=H;have dL:=b5.out;have dM:=b4.out;obtain⟨⟨_,_,_,_,_,_⟩,_,_,_,_,_,_⟩:=z6 b1
  go_wp2
  refine bodyPost_ret (bu rfl _ _ b8 32 #[.int .i64 0,.int .i64 0,.int .i64 0,.slice none 0 0,.slice none 0 0,.slice none 0 0] (0,0) _ rfl (oP b1) underlying32 rfl (by kernel_rfl)) rfl ?_;exact⟨_,_,_,oE,by first|exact Kd.er _ _ _ _ _|exact Kd.aaC _ _ _ _ _|exact Kd.aaF _ _ _ _ _|exact Kd.aau _ _ _ _ _|exact Kd.ue _ _ _ _ _,by first|exact Kd.er _ _ _ _ _|exact Kd.aaC _ _ _ _ _|exact Kd.aaF _ _ _ _ _|exact Kd.aau _ _ _ _ _|exact Kd.ue _ _ _ _ _,by first|exact Kd.er _ _ _ _ _|exact Kd.aaC _ _ _ _ _|exact Kd.aaF _ _ _ _ _|exact Kd.aau _ _ _ _ _|exact Kd.ue _ _ _ _ _,oB⟩
 (first|rw[b6]|skip)
 obtain⟨dN,H⟩:=dw H;obtain⟨dO,H⟩:=dw H;replace H:=bA H;obtain⟨⟨bJ,bK,bL,bM,bN,bO⟩,dA,H⟩:=H
 try dsimp only at H
 simp only[Option.some.injEq,Prod.mk.injEq]at H;obtain⟨rfl,rfl,rfl,rfl,rfl,rfl,rfl⟩:=H;have dP:=b4.out;have dQ:=b5.out;obtain⟨⟨_,_⟩,_,_⟩:=z2 b2;have dW:(0≤(b3:Int))=True:=oT;have dX:(b3<(ah.length:Int))=True:=oT;obtain⟨dR,dB,dC,dD,dE,dF,dG,bT,d4,d5,d6,d7,d8,d9,bD,bE,bF,bG,bH,bI⟩:=kd b7 HB b3 oa oa
 cases bT
 go_wp2_with (first|((with_reducible refine ag (f:=100) rfl ?_);refine dk 18 func100 (dh.calls ((ai ah b3).f0) ((ai ah b3).f1) ((ai ah b3).f2) _ _ ((ai ah b3).f3) _ _ ((ai ah b3).f4) _ _ ((ai ah b3).f5) bJ bK bL bM bN bO _ (kC bE) bD.out (kC bG) bF.out (kC bI) bH.out dA.out) ?_;rintro e gB ⟨dY,dZ,gA,rfl,dH,bR,bS,hb⟩;refine⟨_,rfl,?_⟩;have b9:=am (Kd.aq dH (af oB));have bB:=am (Kd.aq bR (af oB));have bC:=am (Kd.aq bS (af oB));replace b2:=ba b2 hb;replace b1:=ba b1 hb;replace HB:=hB HB hb;(try clear bR);(try clear bS);obtain⟨⟨_,_,_,_,_,_⟩,_,_,_,_,_,_⟩:=z6 b1;obtain⟨bU,bV,bW⟩:=Kd.ao b9.out;subst bW;obtain⟨bX,bY,bZ⟩:=Kd.ao bB.out;subst bZ;obtain⟨d1,d2,d3⟩:=Kd.ao bC.out;subst d3))
 refine bodyPost_ret (bu rfl _ _ b8 32 #[.int .i64 bJ,.int .i64 bK,.int .i64 bL,.slice bU bM.length bV,.slice bX bN.length bY,.slice d1 bO.length d2] (0,0) _ rfl (oP b1) underlying32 rfl (by kernel_rfl)) rfl ?_;exact⟨_,_,_,oE,nM b9 b1,nM bB b1,nM bC b1,oB⟩
end Go.Proofs.YtkfoopcpihmbmaaGreatDoor.P
