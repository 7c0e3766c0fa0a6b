-- Printed walks.
import Derived.Test.YtkfoopcpihmbmaaGreatDoorPx4
import Derived.Test.YtkfoopcpihmbmaaGreatDoorPx5
set_option linter.all false
set_option maxHeartbeats 8000000
set_option maxRecDepth 100000
namespace Go.Proofs.YtkfoopcpihmbmaaGreatDoor.P
open Go.RowKit Go.Proofs.ab.av Go.Proofs.ab.aQ Go.Proofs.ab.aT Go.Proofs.Tryz
attribute [local go_sem] fP fQ hJ hO fm fo fR fS

def gv.f (k:Nat) (a0:ByteArray):Option (List ByteArray×Bool):=if a0.toList=([47]:List UInt8)then(some (([]:List ByteArray),true))else((strings_Split.f a0 (⟨#[47]⟩:ByteArray)).bind fun b1=>(if 0<(b1.length:Int)then(if(dr ByteArray.empty b1 0).toList=([]:List UInt8)then(if(b1.length:Int)<2 then(some (([]:List ByteArray),false))else(if 1≤(b1.length:Int)then((gj.f k (b1.drop 1)).bind fun b2=>(if b2=true then(some ((b1.drop (1:Int).toNat),true))else(some (([]:List ByteArray),false))))else(none)))else(some (([]:List ByteArray),false)))else(none)))
theorem gv.calls (k:Nat) (a0:ByteArray) (r1:List ByteArray) (r2:Bool) (w:World) (h:gv.f k a0=some (r1,r2)) (hG:GOk w:=by exact gk_ oB (by first|(with_reducible assumption)|assumption)):
  Calls Tryz.prog 59 #[.string a0] w fun e w'=>∃fy:Value,e= .returned (.tuple #[fy,.bool r2])∧Kd.Q Kd.string 9 w' w.heap.size (fun _=>True) fy r1∧Below w.heap.size w w':=by
 have HG:=ae.mk hG;clear hG;have HB:=am (Below.refl w.heap.size w);unfold gv.f at h;have H:=h;clear h
 by_cases c2:a0.toList=([47]:List UInt8)
 ·rw[if_pos c2]at H;have dK:(a0.toList==([47]:List UInt8))=true:=beq_iff_eq.mpr c2;have dL:(a0.toList !=([47]:List UInt8))=false:=bne_eq_false_iff_eq.mpr c2;clear c2;simp only[Option.some.injEq,Prod.mk.injEq]at H;obtain⟨rfl,rfl⟩:=H
  go_enter func59,ntmps59
  go_wp2
  go_ret2
  exact⟨_,oE,Kd.qe (by exact Kd.er _ _ _ _ _),oB⟩
 rw[if_neg c2]at H;have dK:(a0.toList==([47]:List UInt8))=false:=beq_eq_false_iff_ne.mpr c2;have dL:(a0.toList !=([47]:List UInt8))=true:=bne_iff_ne.mpr c2;replace H:=bA H;obtain⟨b1,A3,H⟩:=H;obtain⟨c4,H⟩:=jm H;have gA:decide (0<(b1.length:Int))=true:=decide_eq_true c4;have gB:decide (0<b1.length)=true:=decide_eq_true (by omega);clear c4
 by_cases c5:(dr ByteArray.empty b1 0).toList=([]:List UInt8)
 rotate_left
 ·rw[if_neg c5]at H;have dM:((dr ByteArray.empty b1 0).toList==([]:List UInt8))=false:=beq_eq_false_iff_ne.mpr c5;have dN:((dr ByteArray.empty b1 0).toList !=([]:List UInt8))=true:=bne_iff_ne.mpr c5;simp only[Option.some.injEq,Prod.mk.injEq]at H;obtain⟨rfl,rfl⟩:=H
  go_enter func59,ntmps59
  go_wp2_with (((with_reducible refine ag (f:=107) rfl ?_);refine dk 8 func107 (strings_Split.calls a0 (⟨#[47]⟩:ByteArray) b1 _ A3.out) ?_;rintro e gR ⟨bP,rfl,bG,hb⟩;refine⟨_,rfl,?_⟩;have b2:=am (Kd.aq bG (af oB));replace HB:=hB HB hb;obtain⟨gC,gD,dO⟩:=Kd.ao b2.out;subst dO;have b5:0≤(0:Int):=(by omega);have b6:0<(b1.length:Int):=oa;obtain⟨b3,b9,b4⟩:=Kd.ei (Kd.aU b2.out).2.2 0 b5 b6;cases b9;have bH:(0<b1.length)=True:=eq_true (by omega);(try rw[show((0:Int)).toNat=0 from rfl]at b4);(try rw[Addr.add_zero']at b4);replace b5:=eq_true b5;replace b6:=eq_true b6))
  go_ret2
  exact⟨_,oE,Kd.qe (by exact Kd.er _ _ _ _ _),oB⟩
 rw[if_pos c5]at H;have dM:((dr ByteArray.empty b1 0).toList==([]:List UInt8))=true:=beq_iff_eq.mpr c5;have dN:((dr ByteArray.empty b1 0).toList !=([]:List UInt8))=false:=bne_eq_false_iff_eq.mpr c5;clear c5
 by_cases c6:(b1.length:Int)<2
 ·rw[if_pos c6]at H;have dP:decide ((b1.length:Int)<2)=true:=decide_eq_true c6;have dQ:decide (b1.length<2)=true:=decide_eq_true (by omega);clear c6;simp only[Option.some.injEq,Prod.mk.injEq]at H;obtain⟨rfl,rfl⟩:=H
  go_enter func59,ntmps59
  go_wp2_with (((with_reducible refine ag (f:=107) rfl ?_);refine dk 8 func107 (strings_Split.calls a0 (⟨#[47]⟩:ByteArray) b1 _ A3.out) ?_;rintro e w7 ⟨bP,rfl,bG,hb⟩;refine⟨_,rfl,?_⟩;have b2:=am (Kd.aq bG (af oB));replace HB:=hB HB hb;obtain⟨gS,gT,dV⟩:=Kd.ao b2.out;subst dV;have b5:0≤(0:Int):=(by omega);have b6:0<(b1.length:Int):=oa;obtain⟨b3,b9,b4⟩:=Kd.ei (Kd.aU b2.out).2.2 0 b5 b6;cases b9;have bH:(0<b1.length)=True:=eq_true (by omega);(try rw[show((0:Int)).toNat=0 from rfl]at b4);(try rw[Addr.add_zero']at b4);replace b5:=eq_true b5;replace b6:=eq_true b6))
  go_ret2
  exact⟨_,oE,Kd.qe (by exact Kd.er _ _ _ _ _),oB⟩
 rw[if_neg c6]at H;have dP:decide ((b1.length:Int)<2)=false:=decide_eq_false c6;have dQ:decide (b1.length<2)=false:=decide_eq_false (by omega);clear c6;obtain⟨c9,H⟩:=jm H;have gE:=eq_true c9;have gF:decide (1≤(b1.length:Int))=true:=decide_eq_true c9;clear c9;obtain⟨b7,cx⟩:∃y_:List ByteArray,y_=(b1.drop 1):=⟨_,rfl⟩;replace H:((gj.f k b7).bind fun bY=>(if bY=true then(some ((b1.drop (1:Int).toNat),true))else(some (([]:List ByteArray),false))))=some (r1,r2):=oY;have bC:=ae.mk cx;clear cx;replace H:=bA H;obtain⟨bY,dH,H⟩:=H;replace H:=jl H;rcases H with⟨rfl,H⟩|⟨rfl,H⟩;rotate_left
 ·simp only[Option.some.injEq,Prod.mk.injEq]at H;obtain⟨rfl,rfl⟩:=H
  go_enter func59,ntmps59
  go_wp2_with (first|((with_reducible refine ag (f:=107) rfl ?_);refine dk 8 func107 (strings_Split.calls a0 (⟨#[47]⟩:ByteArray) b1 _ A3.out) ?_;rintro e gU ⟨bP,rfl,bG,hb⟩;refine⟨_,rfl,?_⟩;have b2:=am (Kd.aq bG (af oB));replace HB:=hB HB hb;obtain⟨gG,bI,dR⟩:=Kd.ao b2.out;subst dR;have b5:0≤(0:Int):=(by omega);have b6:0<(b1.length:Int):=oa;obtain⟨b3,b9,b4⟩:=Kd.ei (Kd.aU b2.out).2.2 0 b5 b6;cases b9;have bH:(0<b1.length)=True:=eq_true (by omega);(try rw[show((0:Int)).toNat=0 from rfl]at b4);(try rw[Addr.add_zero']at b4);replace b5:=eq_true b5;replace b6:=eq_true b6;have d6:(1:Int)≤((b1.length:Int):Int):=oa;obtain⟨gH,bZ,_,d1,_⟩:=info_parts info9;have bE:b1.length≤bI:=(Kd.aU b2.out).2.1;have d7:Kd.C Kd.string _ (some b3) b1.length b1:=(Kd.aU b2.out).2.2;have d8:=nT (P:=Tryz.prog) 35 9 .i64 underlying35 bZ 1 d1 (some b3) b1.length bI 1 (by omega) d6;have bJ:=Kd.vE (m:=(1:Int).toNat) (c:=bI) d7 (by omega) bE;obtain⟨dW,bQ⟩:∃A1,A1=(if bI=(1:Int).toNat then(some b3)else((some b3):Option Addr).map (·.add ((1:Int).toNat*1))):=⟨_,rfl⟩;obtain⟨dX,bW⟩:∃c1,c1=bI-(1:Int).toNat:=⟨_,rfl⟩;have bR:b7.length=b1.length-(1:Int).toNat:=(by rw[bC.out,List.length_drop]<;>omega);rw[show(b1).drop (1:Int).toNat=b7 from bC.out.symm]at bJ;replace bJ:Kd.C Kd.string _ dW b7.length b7:=(by rw[bQ];exact bJ);rw[←bR,←bQ,←bW]at d8;have b8:=ae.mk bJ;have bK:=am (show b7.length≤dX from by rw[bR,bW];exact Nat.sub_le_sub_right bE _);clear bJ d7 bE bZ d1 bW;have gI:=ae.mk bR;have gJ:=ae.mk bQ;clear bR bQ;have gK:=am (show 1≤b1.length from by omega);replace d6:=eq_true d6)|(go_at_call 108;(with_reducible refine(gj.calls k _ _ b7 false _ ?aC bK.out dH.out).mono ?_);(case aC=>repeat(exact b8.out));rintro e gV ⟨rfl,hb⟩;replace b2:=dm b2 hb;replace b8:=am (Kd.cR b8.out hb);replace HB:=hB HB hb))
  go_ret2
  exact⟨_,oE,Kd.qe (by exact Kd.er _ _ _ _ _),oB⟩
 have dZ:=eq_true (oa:1≤(b1.length:Int));obtain⟨bD,cx⟩:∃y_:List ByteArray,y_=(b1.drop (1:Int).toNat):=⟨_,rfl⟩;replace H:(some (bD,true))=some (r1,r2):=oY;have bL:=ae.mk cx;clear cx;simp only[Option.some.injEq,Prod.mk.injEq]at H;obtain⟨rfl,rfl⟩:=H
 go_enter func59,ntmps59
 go_wp2_with (first|((with_reducible refine ag (f:=107) rfl ?_);refine dk 8 func107 (strings_Split.calls a0 (⟨#[47]⟩:ByteArray) b1 _ A3.out) ?_;rintro e gW ⟨bP,rfl,bG,hb⟩;refine⟨_,rfl,?_⟩;have b2:=am (Kd.aq bG (af oB));replace HB:=hB HB hb;obtain⟨gL,bB,dS⟩:=Kd.ao b2.out;subst dS;have b5:0≤(0:Int):=(by omega);have b6:0<(b1.length:Int):=oa;obtain⟨b3,b9,b4⟩:=Kd.ei (Kd.aU b2.out).2.2 0 b5 b6;cases b9;have bH:(0<b1.length)=True:=eq_true (by omega);(try rw[show((0:Int)).toNat=0 from rfl]at b4);(try rw[Addr.add_zero']at b4);replace b5:=eq_true b5;replace b6:=eq_true b6;have d9:(1:Int)≤((b1.length:Int):Int):=oa;obtain⟨gM,d2,_,d3,_⟩:=info_parts info9;have bF:b1.length≤bB:=(Kd.aU b2.out).2.1;have dA:Kd.C Kd.string _ (some b3) b1.length b1:=(Kd.aU b2.out).2.2;have dB:=nT (P:=Tryz.prog) 35 9 .i64 underlying35 d2 1 d3 (some b3) b1.length bB 1 (by omega) d9;have bM:=Kd.vE (m:=(1:Int).toNat) (c:=bB) dA (by omega) bF;obtain⟨dI,bS⟩:∃A1,A1=(if bB=(1:Int).toNat then(some b3)else((some b3):Option Addr).map (·.add ((1:Int).toNat*1))):=⟨_,rfl⟩;obtain⟨dJ,bT⟩:∃c1,c1=bB-(1:Int).toNat:=⟨_,rfl⟩;have bU:b7.length=b1.length-(1:Int).toNat:=(by rw[bC.out,List.length_drop]<;>omega);rw[show(b1).drop (1:Int).toNat=b7 from bC.out.symm]at bM;replace bM:Kd.C Kd.string _ dI b7.length b7:=(by rw[bS];exact bM);rw[←bU,←bS,←bT]at dB;have b8:=ae.mk bM;have bK:=am (show b7.length≤dJ from by rw[bU,bT];exact Nat.sub_le_sub_right bF _);have dT:=ae.mk bT;clear bM dA bF d2 d3 bT;have gN:=ae.mk bU;have dU:=ae.mk bS;clear bU bS;have gO:=am (show 1≤b1.length from by omega);replace d9:=eq_true d9)|(go_at_call 108;(with_reducible refine(gj.calls k _ _ b7 true _ ?aC bK.out dH.out).mono ?_);(case aC=>repeat(exact b8.out));rintro e dY ⟨rfl,hb⟩;replace b2:=dm b2 hb;replace b8:=am (Kd.cR b8.out hb);replace HB:=hB HB hb;have dC:(1:Int)≤((b1.length:Int):Int):=oa;obtain⟨gP,d4,_,d5,_⟩:=info_parts info9;have dD:=nT (P:=Tryz.prog) 35 9 .i64 underlying35 d4 1 d5 (some b3) b1.length bB 1 (by omega) dC;have bN:=Kd.aco (k:=(1:Int).toNat) (Kd.qe b2.out) (by omega);obtain⟨dE,bO⟩:∃A1,A1=(if bB=(1:Int).toNat then(some b3)else((some b3):Option Addr).map (·.add ((1:Int).toNat*1))):=⟨_,rfl⟩;obtain⟨dF,bV⟩:∃c1,c1=bB-(1:Int).toNat:=⟨_,rfl⟩;have bX:bD.length=b1.length-(1:Int).toNat:=(by rw[bL.out,List.length_drop]);rw[←bL.out]at bN;rw[←bX,←bO,←bV]at dD;replace bN:Kd.Q Kd.string 9 dY w.heap.size (fun _=>True) (.slice dE bD.length dF) bD:=(by rw[bO,bV,bX];exact bN);have gQ:ae ((Value.slice dE bD.length dF).ownBlock=(.slice (some b3) b1.length bB:Value).ownBlock):=⟨by rw[bO];split<;>(cases ((some b3):Option Addr)<;>rfl)⟩;obtain rfl:dI=dE:=dU.out.trans bO.symm;obtain rfl:dJ=dF:=dT.out.trans bV.symm;obtain rfl:b7=bD:=bC.out.trans bL.out.symm;clear bX d4 d5 b2 bO bV;have dG:=ae.mk bN;clear bN;replace dC:=eq_true dC))
 go_ret2
 exact⟨_,oE,dG.out,oB⟩

def gi.f (k:Nat) (ah:List (aW)) (al:Int) (a1:Int):Option (Int×Int×Int×List Int×(List (cD))×(List (bj))×Bool):=(jj.f k ah al a1).bind fun b1=>(if b1<0 then(some (0,0,0,([]:List Int),([]:List (cD)),([]:List (bj)),false))else(if 0≤b1 then(if b1<(ah.length:Int)then((gw.f ((ai ah b1).f0) ((ai ah b1).f1) ((ai ah b1).f2) ((ai ah b1).f3) ((ai ah b1).f4) ((ai ah b1).f5)).bind fun b2=>(some (b2.1,b2.2.1,b2.2.2.1,b2.2.2.2.1,b2.2.2.2.2.1,b2.2.2.2.2.2,true)))else(none))else(none)))
theorem gi.calls (k:Nat) (bs:Option Addr) (bo:Nat) (ah:List (aW)) (al:Int) (a1:Int) (r1:Int) (r2:Int) (r3:Int) (r4:List Int) (r5:List (cD)) (r6:List (bj)) (r7:Bool) (w:World) (cy:Kd.C k32 w bs ah.length ah) (cA:ah.length≤bo) (h:gi.f k ah al a1=some (r1,r2,r3,r4,r5,r6,r7)):
  Calls Tryz.prog 47 #[.agg #[.slice bs ah.length bo,.int .i64 al],.int .i64 a1] w fun e w'=>∃pJ pK pL:Value,e= .returned (.tuple #[.agg #[.int .i64 r1,.int .i64 r2,.int .i64 r3,pJ,pK,pL],.bool r7])∧Kd.R (Kd.int .u8) 5 w' w.heap.size (fun _=>True) pJ r4∧Kd.R fL 74 w' w.heap.size (fun _=>True) pK r5∧Kd.R dn 101 w' w.heap.size (fun _=>True) pL r6∧Below w.heap.size w w':=by
 have dX:=underlying26;have dY:=underlying32;have bI:=ae.mk cy;have bP:=ae.mk cA;clear cy cA;have HB:=am (Below.refl w.heap.size w);unfold gi.f at h;have H:=h;clear h;replace H:=bA H;obtain⟨b3,A3,H⟩:=H;have bR:=ae.mk H;clear H
 go_enter func47,ntmps47
 go_upto_if 11 with(first|((with_reducible refine au (N:=2) rfl ?_);refine fz 2 #[.slice bs ah.length bo,.int .i64 al] 26 ?_;intro dG hg w5 hbox hb;have b2:=am (hbox);have dH:=fO hg;replace HB:=hB HB hb;clear hb hbox hg)|((with_reducible refine au (N:=4) rfl ?_);refine fz 4 #[.int .i64 0,.int .i64 0,.int .i64 0,.slice none 0 0,.slice none 0 0,.slice none 0 0] 32 ?_;intro b7 hg w6 hbox hb;have b1:=am (hbox);have dI:=fO hg;have b4:=fX hg b2;have b5:=fY hg b2;replace b2:=ba b2 hb;replace HB:=hB HB hb;clear hb hbox hg;have dZ:=b4.out;have gA:=b5.out;obtain⟨⟨_,_⟩,_,_⟩:=z2 b2)|((with_reducible refine ag (f:=64) rfl ?_);refine dk 9 func64 (jj.calls k _ _ ah al a1 b3 _ (kC bI) bP.out A3.out) ?_;rintro e w9 ⟨rfl,hb⟩;refine⟨_,rfl,?_⟩;replace b2:=ba b2 hb;replace b1:=ba b1 hb;replace HB:=hB HB hb))
 have H:=bR.out;clear bR;replace H:=kU H;rcases H with⟨b6,H⟩|⟨b6,H⟩
 ·(rw[b6])
  simp only[Option.some.injEq,Prod.mk.injEq]at H;obtain⟨rfl,rfl,rfl,rfl,rfl,rfl,rfl⟩:=H;have dM:=b5.out;have dN:=b4.out;obtain⟨⟨_,_,_,_,_,_⟩,_,_,_,_,_,_⟩:=z6 b1
  go_wp2
  refine bodyPost_ret (bu rfl _ _ b7 32 #[.int .i64 0,.int .i64 0,.int .i64 0,.slice none 0 0,.slice none 0 0,.slice none 0 0] (0,0) _ rfl (oP b1) underlying32 rfl (by kernel_rfl)) rfl ?_;exact⟨_,_,_,oE,by exact Kd.er _ _ _ _ _,by exact Kd.er _ _ _ _ _,by exact Kd.er _ _ _ _ _,oB⟩
 (rw[b6])
 obtain⟨dO,H⟩:=dw H;obtain⟨dP,H⟩:=dw H;replace H:=bA H;obtain⟨⟨bJ,bK,bL,bM,bN,bO⟩,dJ,H⟩:=H
 try dsimp only at H
 simp only[Option.some.injEq,Prod.mk.injEq]at H;obtain⟨rfl,rfl,rfl,rfl,rfl,rfl,rfl⟩:=H;have dQ:=b4.out;have dR:=b5.out;obtain⟨⟨_,_⟩,_,_⟩:=z2 b2;have dS:(0≤(b3:Int))=True:=oT;have dT:(b3<(ah.length:Int))=True:=oT;obtain⟨dK,dA,dB,dC,dD,dE,dF,bQ,bU,bV,bW,bX,bY,bZ,bC,bD,bE,bF,bG,bH⟩:=kd bI HB b3 oa oa
 cases bQ
 go_wp2_with (((with_reducible refine ag (f:=97) rfl ?_);refine dk 18 func97 (gw.calls ((ai ah b3).f0) ((ai ah b3).f1) ((ai ah b3).f2) _ _ ((ai ah b3).f3) _ _ ((ai ah b3).f4) _ _ ((ai ah b3).f5) bJ bK bL bM bN bO _ (kC bD) bC.out (kC bF) bE.out (kC bH) bG.out dJ.out) ?_;rintro e gB ⟨dU,dV,dW,rfl,dL,bS,bT,hb⟩;refine⟨_,rfl,?_⟩;have b8:=am (Kd.aq dL (af oB));have b9:=am (Kd.aq bS (af oB));have bB:=am (Kd.aq bT (af oB));replace b2:=ba b2 hb;replace b1:=ba b1 hb;replace HB:=hB HB hb;(try clear bS);(try clear bT);obtain⟨⟨_,_,_,_,_,_⟩,_,_,_,_,_,_⟩:=z6 b1;obtain⟨d1,d2,d3⟩:=Kd.ao b8.out;subst d3;obtain⟨d4,d5,d6⟩:=Kd.ao b9.out;subst d6;obtain⟨d7,d8,d9⟩:=Kd.ao bB.out;subst d9))
 refine bodyPost_ret (bu rfl _ _ b7 32 #[.int .i64 bJ,.int .i64 bK,.int .i64 bL,.slice d1 bM.length d2,.slice d4 bN.length d5,.slice d7 bO.length d8] (0,0) _ rfl (oP b1) underlying32 rfl (by kernel_rfl)) rfl ?_;exact⟨_,_,_,oE,nM b8 b1,nM b9 b1,nM bB b1,oB⟩

def cV.l0:Nat→Int→List Int→Int→List Int→Int→Int→Option (List Int×Int×Int)
 |0,_,_,_,_,_,_=>none
 |k+1,x1,x5,x6,b2,b3,b4=>if x6<x1 then((eQ.f b2 b3 b4).bind fun b1=>(if x5.length<140737488355328 then(cV.l0 k x1 (x5++[(b1.1)%256]) (wrap64 (x6+1)) b2 b1.2.1 b1.2.2)else(none)))else(some (x5,b3,b4))
def cV.f (k:Nat) (bd:List Int) (de:Int) (df:Int) (a1:Int):Option (List Int×Int×Int):=cV.l0 k a1 (([]:List Int)) 0 bd de df
theorem cV.calls (k:Nat) (g:Nat) (bd:List Int) (de:Int) (df:Int) (a1:Int) (r1:List Int) (r2:Int) (r3:Int) (w0 w:World) (hI:ak w0 w g bd de df) (hB:Below w0.heap.size w0 w) (h:cV.f k bd de df a1=some (r1,r2,r3)):
  Calls Tryz.prog 132 #[.pointer (some ⟨g,0,none⟩),.int .i64 a1] w fun e w'=>∃fy:Value,e= .returned (fy)∧Kd.R (Kd.int .u8) 5 w' w.heap.size (fun _=>True) fy r1∧ak w0 w' g bd r2 r3∧Below w0.heap.size w0 w'∧aI w w' g none:=by
 have HI0:=ae.mk hI;have HK:=am (aI.refl w g none);have HL:=ae.mk hB.size;clear hI;have HW0:=ae.mk hB.size;have HB:=ae.mk hB;clear hB;unfold cV.f at h;have H:=h;clear h;obtain⟨bC,cx⟩:∃y_:List Int,y_=(([]:List Int)):=⟨_,rfl⟩;replace H:(cV.l0 k a1 bC 0 bd de df)=some (r1,r2,r3):=oY;have bB:=ae.mk cx;clear cx;have H':=ae.mk H;clear H
 go_enter func132,ntmps132
 go_wp2_with (((with_reducible refine au (N:=7) rfl ?_);refine Kd.gu (Kd.int .u8) _ 5 ?hg (N:=7) ?hd (xs:=([]:List Int)) (inner:=[]) (ok:=fun _=>True) (fw:=fun _=>True) ?hr ?hp (fun _ hk=>hk) trivial (Below.refl _ _) (Nat.le_refl _) (by simp) ?_;(case hd=>rfl);(case hg=>rfl);(case hr=>(go_simp;done));(case hp=>exact(bp.none _ _));intro bK w3 b7 hb fN cj;clear fN cj;(rw[←bB.out]at b7);have bE:=am (Kd.aq b7 (kz HK));replace HK:=hk1 HK hb;replace HI0:=fk HI0 hb;replace HB:=fi hb;clear hb b7))
 go_loopg [5,6] k (fun kq v5 v6 w'=>∃(b4:List Int) (b5:Int) (b1:Int) (b2:Int),v6= .int .i64 b5∧ae (cV.l0 kq a1 b4 b5 bd b1 b2=some (r1,r2,r3))∧ae (kq≤k)∧ae (Kd.R (Kd.int .u8) 5 w' w.heap.size (fun _=>True) v5 b4)∧ae (ak w0 w' g bd b1 b2)∧ae (aI w w' g none)∧ae (Below w0.heap.size w0 w'))
 case atStart=>exact⟨(bC),(0),(de),(df),oS,H',⟨Nat.le_refl _⟩,⟨oR bE⟩,⟨HI0.out⟩,⟨HK.out⟩,⟨HB.out⟩⟩
 case round=>
  clear H';obtain⟨b4,b5,b1,b2,rfl,HA,bH,b3,HI0,HK,HB⟩:=hrel
  cases gk with
  |zero=>exact absurd HA.out (by simp[cV.l0])
  |succ k1=>
   have H:=HA.out;clear HA;simp only[cV.l0]at H;replace H:=kU H;rcases H with⟨bI,H⟩|⟨bI,H⟩;rotate_left
   ·simp only[Option.some.injEq,Prod.mk.injEq]at H;obtain⟨rfl,rfl,rfl⟩:=H
    go_wp2
    go_ret
    exact⟨_,oE,oR b3,HI0.out,HB.out,HK.out⟩
   replace H:=bA H;obtain⟨⟨b6,b8,b9⟩,A6,H⟩:=H
   try dsimp only at H
   obtain⟨c7,H⟩:=jm H;have bJ:=ae.mk c7;clear c7;obtain⟨bD,cx⟩:∃y_:List Int,y_=(b4++[(b6)%256]):=⟨_,rfl⟩;replace H:(cV.l0 k1 a1 bD (wrap64 (b5+1)) bd b8 b9)=some (r1,r2,r3):=oY;have bF:=ae.mk cx;clear cx;have H':=ae.mk H;clear H
   go_wp2_with (first|((with_reducible refine ag (f:=138) rfl ?_);refine dk 15 func138 (eQ.calls g bd b1 b2 b6 b8 b9 w0 _ ?aC ?bh A6.out) ?_;(case aC=>exact cK);(case bh=>exact dg);rintro e w8 ⟨rfl,hi,hb,hk⟩;refine⟨_,rfl,?_⟩;replace b3:=cY HI0 (oR b3) hk;replace HK:=hk2 HK hk;replace HI0:=am (hi);replace HB:=am (hb);(try clear hk);(try clear hi))|((with_reducible refine cX (b:= .append) (xs:= #[.tmp 13,.tmp 17]) rfl ?_);at_builtin;refine Kd.iN (Kd.int .u8) w.heap.size rfl (.tmp 13) (.tmp 17) 22 5 (.int .u8 0) 1 rfl underlying22 info5 rfl (by decide) (by omega) u5 b4 ((b6)%256) [.int .u8 ((b6)%256)] (fun _=>True) (fun _=>False) rfl rfl ?aP (fun _ hk=>hk.elim) ?aF ?aO (Below.refl _ _) ?aS ?aL ?_;(case aP=>exact rfl);(case aF=>exact(fun _ _=>trivial));(case aO=>exact(oR b3));(case aS=>exact(kz HK));(case aL=>have:=bJ.out;omega);intro bL w9 ho hb hg hat;rw[←bF.out]at ho;have bG:=am (ho);replace HI0:=am (ak.grown cK hg (ak.own_ne HI0.out b3.out (by decide)));replace HK:=am (aI.trans (ra HK) (aI.ke hg g) (Kd.nn b3.out));replace HB:=am (iH dg HL.out hb);clear b3;clear ho hb hg hat))
   go_roundg k1
   case measure=>have:=bH.out;omega
   case rel=>exact⟨(bD),(wrap64 (b5+1)),(b8),(b9),oS,H',⟨by have:=bH.out;omega⟩,⟨oR bG⟩,⟨HI0.out⟩,⟨HK.out⟩,⟨HB.out⟩⟩

def br.f (bd:List Int) (de:Int) (df:Int) (a1:Int):Option (Int×Int×Int):=if a1≤0 then(some (0,de,df))else(if a1≤256 then((eQ.f bd de df).bind fun b1=>(if a1=0 then(none)else(some (Int.tmod b1.1 a1,b1.2.1,b1.2.2))))else((eQ.f bd de df).bind fun b2=>((eQ.f bd b2.2.1 b2.2.2).bind fun b3=>((eQ.f bd b3.2.1 b3.2.2).bind fun b4=>(if a1=0 then(none)else(some (Int.tmod (wrap64 ((wrap64 ((wrap64 (b2.1*65536))+(wrap64 (b3.1*256))))+b4.1)) a1,b4.2.1,b4.2.2)))))))
theorem br.calls (g:Nat) (bd:List Int) (de:Int) (df:Int) (a1:Int) (r1:Int) (r2:Int) (r3:Int) (w0 w:World) (hI:ak w0 w g bd de df) (hB:Below w0.heap.size w0 w) (h:br.f bd de df a1=some (r1,r2,r3)):
  Calls Tryz.prog 101 #[.pointer (some ⟨g,0,none⟩),.int .i64 a1] w fun e w'=>e= .returned (.int .i64 r1)∧ak w0 w' g bd r2 r3∧Below w0.heap.size w0 w'∧aI w w' g none:=by
 have HI0:=ae.mk hI;have HK:=am (aI.refl w g none);have HL:=ae.mk hB.size;clear hI;have HW0:=ae.mk hB.size;have HB:=ae.mk hB;clear hB;unfold br.f at h;have H:=h;clear h;replace H:=kU H;rcases H with⟨b6,H⟩|⟨b6,H⟩
 ·simp only[Option.some.injEq,Prod.mk.injEq]at H;obtain⟨rfl,rfl,rfl⟩:=H
  go_enter func101,ntmps101
  go_wp2
  go_ret
  exact⟨oE,HI0.out,HB.out,HK.out⟩
 replace H:=kU H;rcases H with⟨b7,H⟩|⟨b7,H⟩
 ·replace H:=bA H;obtain⟨⟨b8,b9,bB⟩,A5,H⟩:=H
  try dsimp only at H
  by_cases c6:a1=0
  ·rw[if_pos c6]at H;exact absurd H (by simp)
  rw[if_neg c6]at H;have bK:(a1==0)=false:=beq_eq_false_iff_ne.mpr c6;have bL:(a1 !=0)=true:=bne_iff_ne.mpr c6;simp only[Option.some.injEq,Prod.mk.injEq]at H;obtain⟨rfl,rfl,rfl⟩:=H
  go_enter func101,ntmps101
  go_wp2_with (((with_reducible refine ag (f:=138) rfl ?_);refine dk 13 func138 (eQ.calls g bd de df b8 b9 bB w0 _ ?aC ?bh A5.out) ?_;(case aC=>exact cK);(case bh=>exact dg);rintro e w7 ⟨rfl,hi,hb,hk⟩;refine⟨_,rfl,?_⟩;replace HK:=hk2 HK hk;replace HI0:=am (hi);replace HB:=am (hb);(try clear hk);(try clear hi)))
  go_ret
  exact⟨oE,HI0.out,HB.out,HK.out⟩
 replace H:=bA H;obtain⟨⟨bC,b2,b3⟩,A8,H⟩:=H
 try dsimp only at H
 replace H:=bA H;obtain⟨⟨bD,b4,b5⟩,A9,H⟩:=H
 try dsimp only at H
 replace H:=bA H;obtain⟨⟨bE,bF,bG⟩,bH,H⟩:=H
 try dsimp only at H
 by_cases b1:a1=0
 ·rw[if_pos b1]at H;exact absurd H (by simp)
 rw[if_neg b1]at H;have bI:(a1==0)=false:=beq_eq_false_iff_ne.mpr b1;have bJ:(a1 !=0)=true:=bne_iff_ne.mpr b1;simp only[Option.some.injEq,Prod.mk.injEq]at H;obtain⟨rfl,rfl,rfl⟩:=H
 go_enter func101,ntmps101
 go_wp2_with (first|((with_reducible refine ag (f:=138) rfl ?_);refine dk 17 func138 (eQ.calls g bd de df bC b2 b3 w0 _ ?aC ?bh A8.out) ?_;(case aC=>exact cK);(case bh=>exact dg);rintro e bM ⟨rfl,hi,hb,hk⟩;refine⟨_,rfl,?_⟩;replace HK:=hk2 HK hk;replace HI0:=am (hi);replace HB:=am (hb);(try clear hk);(try clear hi))|((with_reducible refine ag (f:=138) rfl ?_);refine dk 19 func138 (eQ.calls g bd b2 b3 bD b4 b5 w0 _ ?aC ?bh A9.out) ?_;(case aC=>exact cK);(case bh=>exact dg);rintro e bN ⟨rfl,hi,hb,hk⟩;refine⟨_,rfl,?_⟩;replace HK:=hk2 HK hk;replace HI0:=am (hi);replace HB:=am (hb);(try clear hk);(try clear hi))|((with_reducible refine ag (f:=138) rfl ?_);refine dk 21 func138 (eQ.calls g bd b4 b5 bE bF bG w0 _ ?aC ?bh bH.out) ?_;(case aC=>exact cK);(case bh=>exact dg);rintro e bO ⟨rfl,hi,hb,hk⟩;refine⟨_,rfl,?_⟩;replace HK:=hk2 HK hk;replace HI0:=am (hi);replace HB:=am (hb);(try clear hk);(try clear hi)))
 go_ret
 exact⟨oE,HI0.out,HB.out,HK.out⟩

def cW.j0:Nat→Bool→Int→Int→Int→List Int→List (cD)→List (bj)→Option (Bool)
 |0,_,_,_,_,_,_,_=>none
 |k+1,b7,b5,b1,b2,b3,b4,b6=>if b7=true then(some false)else(if b1=1 then(some ((b4.length:Int)==0))else(if b1=2 then(if(b3.length:Int)=0 then(some (decide (b2≤1)))else(some false))else(some false)))
def cW.f (k:Nat) (eX:Int) (al:Int) (fc:Int) (eO:List Int) (eh:List (cD)) (eM:List (bj)):Option (Bool):=(bg.f eX 1 1000).bind fun b1=>(if b1=true then((bg.f fc 0 1000).bind fun b2=>(if b2=true then(if((fc==0) !=(eX==1))=true then(cW.j0 k true eX al fc eO eh eM)else(if(eO.length:Int)>100 then(cW.j0 k true eX al fc eO eh eM)else((dy.f k eh).bind fun b3=>(if b3=true then((dp.f k eM).bind fun b4=>(cW.j0 k (!b4) eX al fc eO eh eM))else(cW.j0 k true eX al fc eO eh eM)))))else(cW.j0 k true eX al fc eO eh eM)))else(cW.j0 k true eX al fc eO eh eM))
theorem cW.calls (k:Nat) (eX:Int) (al:Int) (fc:Int) (lD:Option Addr) (lE:Nat) (eO:List Int) (ld:Option Addr) (lf:Nat) (eh:List (cD)) (kB:Option Addr) (kE:Nat) (eM:List (bj)) (r:Bool) (w:World) (lP:Kd.C (Kd.int .u8) w lD eO.length eO) (lQ:eO.length≤lE) (lR:Kd.C fL w ld eh.length eh) (lS:eh.length≤lf) (lT:Kd.C dn w kB eM.length eM) (lU:eM.length≤kE) (h:cW.f k eX al fc eO eh eM=some r):
  Calls Tryz.prog 74 #[.agg #[.int .i64 eX,.int .i64 al,.int .i64 fc,.slice lD eO.length lE,.slice ld eh.length lf,.slice kB eM.length kE]] w fun e w'=>e= .returned (.bool r)∧Below w.heap.size w w':=by
 have bX:=underlying32;have bT:=ae.mk lP;have bU:=ae.mk lQ;clear lP lQ;have b9:=ae.mk lR;have bB:=ae.mk lS;clear lR lS;have bE:=ae.mk lT;have bF:=ae.mk lU;clear lT lU;have HB:=am (Below.refl w.heap.size w);unfold cW.f at h;have H:=h;clear h;have bC:=ae.mk H;clear H
 go_enter func74,ntmps74
 go_upto_region 1 with(((with_reducible refine au (N:=1) rfl ?_);(try(refine c_ (by rfl) ?_;dsimp only));refine fz 1 #[.int .i64 eX,.int .i64 al,.int .i64 fc,.slice lD eO.length lE,.slice ld eh.length lf,.slice kB eM.length kE] 32 ?_;intro bG hg w3 hbox hb;have b1:=am (hbox);have bV:=fO hg;replace HB:=hB HB hb;clear hb hbox hg))
 go_cut [39] (fun bR wc=>∃(kq:Nat) (b5:Bool),bR= .bool b5∧ae (cW.j0 kq b5 eX al fc eO eh eM=some r)∧ae (kq≤k)∧ae (wc.heap[bG]? =some (.cells #[.int .i64 eX,.int .i64 al,.int .i64 fc,(.slice lD eO.length lE),(.slice ld eh.length lf),(.slice kB eM.length kE)] 32 (0,0)))∧ae (Below w.heap.size w wc))
 case first=>
  have H:=bC.out;clear bC;replace H:=bA H;obtain⟨bY,A4,H⟩:=H;replace H:=jl H;rcases H with⟨rfl,H⟩|⟨rfl,H⟩;rotate_left
  ·have H':=ae.mk H;clear H;obtain⟨⟨_,_,_,_,_,_⟩,_,_,_,_,_,_⟩:=z6 b1
   go_wp2_with (((with_reducible refine ag (f:=73) rfl ?_);refine dk 5 func73 (bg.calls eX 1 1000 false _ A4.out) ?_;rintro e w' ⟨rfl,⟨nd,rfl⟩⟩;refine⟨_,rfl,?_⟩))
   go_meet
   case rel=>exact⟨_,(true),oS,H',⟨by omega⟩,⟨oF b1⟩,⟨oB⟩⟩
  replace H:=bA H;obtain⟨bZ,A6,H⟩:=H;replace H:=jl H;rcases H with⟨rfl,H⟩|⟨rfl,H⟩;rotate_left
  ·have H':=ae.mk H;clear H;obtain⟨⟨_,_,_,_,_,_⟩,_,_,_,_,_,_⟩:=z6 b1
   go_wp2_with (first|((with_reducible refine ag (f:=73) rfl ?_);refine dk 5 func73 (bg.calls eX 1 1000 true _ A4.out) ?_;rintro e w' ⟨rfl,⟨nd,rfl⟩⟩;refine⟨_,rfl,?_⟩)|(go_at_call 73;(with_reducible refine(bg.calls fc 0 1000 false _ A6.out).mono ?_);rintro e w' ⟨rfl,⟨nd,rfl⟩⟩))
   go_meet
   case rel=>exact⟨_,(true),oS,H',⟨by omega⟩,⟨oF b1⟩,⟨oB⟩⟩
  by_cases c8:((fc==0) !=(eX==1))=true
  ·rw[if_pos c8]at H;have b6:((fc==0) !=(eX==1))=true:=c8
   (try(have b7:decide ((fc==0)=(eX==1))=false:=by simpa using c8))
   (try(have b8:((fc==0)==(eX==1))=false:=by simpa using c8))
   (try(have bQ:¬((fc==0)=(eX==1)):=by simpa using c8))
   clear c8
   (skip)
   have H':=ae.mk H;clear H;obtain⟨⟨_,_,_,_,_,_⟩,_,_,_,_,_,_⟩:=z6 b1
   go_wp2_with (first|((with_reducible refine ag (f:=73) rfl ?_);refine dk 5 func73 (bg.calls eX 1 1000 true _ A4.out) ?_;rintro e w' ⟨rfl,⟨nd,rfl⟩⟩;refine⟨_,rfl,?_⟩)|(go_at_call 73;(with_reducible refine(bg.calls fc 0 1000 true _ A6.out).mono ?_);rintro e w' ⟨rfl,⟨nd,rfl⟩⟩))
   go_meet
   case rel=>exact⟨_,(true),oS,H',⟨by omega⟩,⟨oF b1⟩,⟨oB⟩⟩
  rw[if_neg c8]at H
  have b6:((fc==0) !=(eX==1))=false:=by simpa using c8
  (try(have b7:decide ((fc==0)=(eX==1))=true:=by simpa using c8))
  (try(have b8:((fc==0)==(eX==1))=true:=by simpa using c8))
  clear c8
  (skip)
  by_cases c10:(eO.length:Int)>100
  ·rw[if_pos c10]at H;have bH:decide (100<(eO.length:Int))=true:=decide_eq_true c10;have bI:decide (100<eO.length)=true:=decide_eq_true (by omega);clear c10;have H':=ae.mk H;clear H;obtain⟨⟨_,_,_,_,_,_⟩,_,_,_,_,_,_⟩:=z6 b1
   go_wp2_with (first|((with_reducible refine ag (f:=73) rfl ?_);refine dk 5 func73 (bg.calls eX 1 1000 true _ A4.out) ?_;rintro e w' ⟨rfl,⟨nd,rfl⟩⟩;refine⟨_,rfl,?_⟩)|(go_at_call 73;(with_reducible refine(bg.calls fc 0 1000 true _ A6.out).mono ?_);rintro e w' ⟨rfl,⟨nd,rfl⟩⟩))
   go_meet
   case rel=>exact⟨_,(true),oS,H',⟨by omega⟩,⟨oF b1⟩,⟨oB⟩⟩
  rw[if_neg c10]at H;have bH:decide (100<(eO.length:Int))=false:=decide_eq_false c10;have bI:decide (100<eO.length)=false:=decide_eq_false (by omega);clear c10;replace H:=bA H;obtain⟨d1,bP,H⟩:=H;replace H:=jl H;rcases H with⟨rfl,H⟩|⟨rfl,H⟩;rotate_left
  ·have H':=ae.mk H;clear H;obtain⟨⟨_,_,_,_,_,_⟩,_,_,_,_,_,_⟩:=z6 b1
   go_wp2_with (first|((with_reducible refine ag (f:=73) rfl ?_);refine dk 5 func73 (bg.calls eX 1 1000 true _ A4.out) ?_;rintro e w' ⟨rfl,⟨nd,rfl⟩⟩;refine⟨_,rfl,?_⟩)|(go_at_call 73;(with_reducible refine(bg.calls fc 0 1000 true _ A6.out).mono ?_);rintro e w' ⟨rfl,⟨nd,rfl⟩⟩)|(go_at_call 123;(with_reducible refine(dy.calls k _ _ eh false _ (kC b9) bB.out bP.out).mono ?_);rintro e w' ⟨rfl,⟨nd,rfl⟩⟩))
   go_meet
   case rel=>exact⟨_,(true),oS,H',⟨by omega⟩,⟨oF b1⟩,⟨oB⟩⟩
  replace H:=bA H;obtain⟨bD,bS,H⟩:=H;have H':=ae.mk H;clear H;obtain⟨⟨_,_,_,_,_,_⟩,_,_,_,_,_,_⟩:=z6 b1
  go_wp2_with (first|((with_reducible refine ag (f:=73) rfl ?_);refine dk 5 func73 (bg.calls eX 1 1000 true _ A4.out) ?_;rintro e w' ⟨rfl,⟨nd,rfl⟩⟩;refine⟨_,rfl,?_⟩)|(go_at_call 73;(with_reducible refine(bg.calls fc 0 1000 true _ A6.out).mono ?_);rintro e w' ⟨rfl,⟨nd,rfl⟩⟩)|(go_at_call 123;(with_reducible refine(dy.calls k _ _ eh true _ (kC b9) bB.out bP.out).mono ?_);rintro e w' ⟨rfl,⟨nd,rfl⟩⟩)|(go_at_call 124;(with_reducible refine(dp.calls k _ _ eM bD _ (kC bE) bF.out bS.out).mono ?_);rintro e w' ⟨rfl,⟨nd,rfl⟩⟩))
  go_meet
  case rel=>exact⟨_,(!bD),oS,H',⟨by omega⟩,⟨oF b1⟩,⟨oB⟩⟩
 case rest=>
  clear bC;obtain⟨kq,b5,rfl,HA,d2,b1,HB⟩:=hcut
  cases kq with
  |zero=>exact absurd HA.out (by simp[cW.j0])
  |succ kj1=>
   have H:=HA.out;clear HA;simp only[cW.j0]at H;replace H:=jl H;rcases H with⟨rfl,H⟩|⟨rfl,H⟩
   ·obtain rfl:=Option.some.inj H
    go_wp2
    go_ret
    exact⟨oE,oB⟩
   by_cases b3:al=1
   ·rw[if_pos b3]at H;have bJ:(al==1)=true:=beq_iff_eq.mpr b3;have bK:(al !=1)=false:=bne_eq_false_iff_eq.mpr b3;clear b3;obtain rfl:=Option.some.inj H;obtain⟨⟨_,_,_,_,_,_⟩,_,_,_,_,_,_⟩:=z6 b1
    go_wp2
    go_ret
    exact⟨oE,oB⟩
   rw[if_neg b3]at H;have bJ:(al==1)=false:=beq_eq_false_iff_ne.mpr b3;have bK:(al !=1)=true:=bne_iff_ne.mpr b3
   by_cases b4:al=2
   rotate_left
   ·rw[if_neg b4]at H;have bL:(al==2)=false:=beq_eq_false_iff_ne.mpr b4;have bM:(al !=2)=true:=bne_iff_ne.mpr b4;obtain rfl:=Option.some.inj H;obtain⟨⟨_,_,_,_,_,_⟩,_,_,_,_,_,_⟩:=z6 b1
    go_wp2
    go_ret
    exact⟨oE,oB⟩
   rw[if_pos b4]at H;have bL:(al==2)=true:=beq_iff_eq.mpr b4;have bM:(al !=2)=false:=bne_eq_false_iff_eq.mpr b4;clear b4
   by_cases b2:(eO.length:Int)=0
   ·rw[if_pos b2]at H;have bN:((eO.length:Int)==0)=true:=beq_iff_eq.mpr b2;have bO:((eO.length:Int) !=0)=false:=bne_eq_false_iff_eq.mpr b2;clear b2;obtain rfl:=Option.some.inj H;obtain⟨⟨_,_,_,_,_,_⟩,_,_,_,_,_,_⟩:=z6 b1
    go_wp2
    go_ret
    exact⟨oE,oB⟩
   rw[if_neg b2]at H;have bN:((eO.length:Int)==0)=false:=beq_eq_false_iff_ne.mpr b2;have bO:((eO.length:Int) !=0)=true:=bne_iff_ne.mpr b2
   have bW:¬(eO=[]):=fun h_=>b2 (by rw[h_];rfl)
   obtain rfl:=Option.some.inj H;obtain⟨⟨_,_,_,_,_,_⟩,_,_,_,_,_,_⟩:=z6 b1
   go_wp2
   go_ret
   exact⟨oE,oB⟩

mutual
def db.j0:Nat→List ByteArray→List ByteArray→Bool→Option (Bool)
 |0,_,_,_=>none
 |k+1,x5,x7,b1=>if b1=true then(some false)else(db.l0 k x5 x7 0)
def db.l0:Nat→List ByteArray→List ByteArray→Int→Option (Bool)
 |0,_,_,_=>none
 |k+1,x5,x7,x9=>if x9<(x5.length:Int)then(if 0≤x9 then(if x9<(x7.length:Int)then(if(dr ByteArray.empty x5 x9).toList=(dr ByteArray.empty x7 x9).toList then(db.l0 k x5 x7 (wrap64 (x9+1)))else(some false))else(none))else(none))else(some true)
end
def db.f (k:Nat) (a0:ByteArray) (a1:ByteArray):Option (Bool):=(aH.f k a0).bind fun b1=>((aH.f k a1).bind fun b2=>(if b1.2=true then(if b2.2=true then(db.j0 k b1.1 b2.1 (decide ((b1.1.length:Int)>(b2.1.length:Int))))else(db.j0 k b1.1 b2.1 true))else(db.j0 k b1.1 b2.1 true)))
theorem db.calls (k:Nat) (a0:ByteArray) (a1:ByteArray) (r:Bool) (w:World) (h:db.f k a0 a1=some r):
  Calls Tryz.prog 166 #[.string a0,.string a1] w fun e w'=>e= .returned (.bool r)∧Below w.heap.size w w':=by
 have HB:=am (Below.refl w.heap.size w);unfold db.f at h;have H:=h;clear h;replace H:=bA H;obtain⟨⟨b3,bE⟩,A3,H⟩:=H
 try dsimp only at H
 replace H:=bA H;obtain⟨⟨b4,bF⟩,A4,H⟩:=H
 try dsimp only at H
 have bK:=ae.mk H;clear H
 go_enter func166,ntmps166
 go_upto_region 3 with(first|(go_at_call 84;(with_reducible refine(aH.calls k a0 b3 bE _ A3.out).mono ?_);rintro e w6 ⟨b9,rfl,b5,hb⟩;have b2:=am (Kd.aq b5 (af oB));replace HB:=hB HB hb)|(go_at_call 84;(with_reducible refine(aH.calls k a1 b4 bF _ A4.out).mono ?_);rintro e w7 ⟨bB,rfl,b5,hb⟩;have b7:=am (Kd.aq (Kd.eS b5 (iO b2)) (af oB));replace b2:=sb b2 b5 hb;replace HB:=hB HB hb))
 repeat(go_quiet (first|(go_at_call 84;(with_reducible refine(aH.calls k a0 b3 bE _ A3.out).mono ?_);rintro e w6 ⟨b9,rfl,b5,hb⟩;have b2:=am (Kd.aq b5 (af oB));replace HB:=hB HB hb)|(go_at_call 84;(with_reducible refine(aH.calls k a1 b4 bF _ A4.out).mono ?_);rintro e w7 ⟨bB,rfl,b5,hb⟩;have b7:=am (Kd.aq (Kd.eS b5 (iO b2)) (af oB));replace b2:=sb b2 b5 hb;replace HB:=hB HB hb));go_upto_region 3 with(first|(go_at_call 84;(with_reducible refine(aH.calls k a0 b3 bE _ A3.out).mono ?_);rintro e w6 ⟨b9,rfl,b5,hb⟩;have b2:=am (Kd.aq b5 (af oB));replace HB:=hB HB hb)|(go_at_call 84;(with_reducible refine(aH.calls k a1 b4 bF _ A4.out).mono ?_);rintro e w7 ⟨bB,rfl,b5,hb⟩;have b7:=am (Kd.aq (Kd.eS b5 (iO b2)) (af oB));replace b2:=sb b2 b5 hb;replace HB:=hB HB hb)))
 go_cut [32] (fun d4 wc=>∃(kq:Nat) (bD:Bool),d4= .bool bD∧ae (db.j0 kq b3 b4 bD=some r)∧ae (kq≤k)∧ae (Kd.R Kd.string 9 wc w.heap.size (fun k_=>some k_≠(bB:Value).ownBlock) b9 b3)∧ae (Kd.R Kd.string 9 wc w.heap.size (fun k_=>some k_≠(b9:Value).ownBlock) bB b4)∧ae (Below w.heap.size w wc))
 case first=>
  have H:=bK.out;clear bK;replace H:=jl H;rcases H with⟨rfl,H⟩|⟨rfl,H⟩;rotate_left
  ·have H':=ae.mk H;clear H
   go_wp2
   repeat(go_quiet (fail);try go_wp2)
   go_meet
   case rel=>exact⟨_,(true),oS,H',⟨by omega⟩,⟨Kd.aM b2.out (fun _ hk=>hk.2)⟩,⟨Kd.aM b7.out (fun _ hk=>hk.2)⟩,⟨oB⟩⟩
  replace H:=jl H;rcases H with⟨rfl,H⟩|⟨rfl,H⟩;rotate_left
  ·have H':=ae.mk H;clear H
   go_wp2
   repeat(go_quiet (fail);try go_wp2)
   go_meet
   case rel=>exact⟨_,(true),oS,H',⟨by omega⟩,⟨Kd.aM b2.out (fun _ hk=>hk.2)⟩,⟨Kd.aM b7.out (fun _ hk=>hk.2)⟩,⟨oB⟩⟩
  have H':=ae.mk H;clear H;obtain⟨d7,d8,bS⟩:=Kd.ao b2.out;subst bS;obtain⟨d9,dA,bT⟩:=Kd.ao b7.out;subst bT
  go_wp2
  repeat(go_quiet (fail);try go_wp2)
  go_meet
  case rel=>exact⟨_,(decide ((b3.length:Int)>(b4.length:Int))),oS,H',⟨by omega⟩,⟨Kd.aM b2.out (fun _ hk=>hk.2)⟩,⟨Kd.aM b7.out (fun _ hk=>hk.2)⟩,⟨oB⟩⟩
 case rest=>
  clear bK;obtain⟨kq,bD,rfl,HA,bQ,b6,b8,HB⟩:=hcut
  cases kq with
  |zero=>exact absurd HA.out (by simp[db.j0])
  |succ kj4=>
   have H:=HA.out;clear HA;simp only[db.j0]at H;replace H:=jl H;rcases H with⟨rfl,H⟩|⟨rfl,H⟩
   ·obtain rfl:=Option.some.inj H
    go_wp2
    repeat(go_quiet (fail);try go_wp2)
    go_ret
    exact⟨oE,oB⟩
   have H':=ae.mk H;clear H
   go_wp2
   repeat(go_quiet (fail);try go_wp2)
   go_loopg [9] kj4 (fun kq v9 w'=>∃(b1:Int),v9= .int .i64 b1∧ae (db.l0 kq b3 b4 b1=some r)∧ae (kq≤kj4)∧ae (Kd.R Kd.string 9 w' w.heap.size (fun k_=>some k_≠(bB:Value).ownBlock) b9 b3)∧ae (Kd.R Kd.string 9 w' w.heap.size (fun k_=>some k_≠(b9:Value).ownBlock) bB b4)∧ae (Below w.heap.size w w'))
   case atStart=>exact⟨(0),oS,H',⟨Nat.le_refl _⟩,⟨oR b6⟩,⟨oR b8⟩,⟨oB⟩⟩
   case round=>
    clear H';obtain⟨b1,rfl,HA,bR,b6,b8,HB⟩:=hrel
    cases gk with
    |zero=>exact absurd HA.out (by simp[db.l0])
    |succ k2=>
     have H:=HA.out;clear HA;simp only[db.l0]at H;replace H:=kU H;rcases H with⟨bL,H⟩|⟨bL,H⟩;rotate_left
     ·obtain rfl:=Option.some.inj H;obtain⟨dB,dC,bU⟩:=Kd.ao b6.out;subst bU
      go_wp2
      repeat(go_quiet (fail);try go_wp2)
      go_ret
      exact⟨oE,oB⟩
     obtain⟨d5,H⟩:=dw H;obtain⟨d6,H⟩:=dw H
     by_cases bC:(dr ByteArray.empty b3 b1).toList=(dr ByteArray.empty b4 b1).toList
     rotate_left
     ·rw[if_neg bC]at H;have bM:((dr ByteArray.empty b3 b1).toList==(dr ByteArray.empty b4 b1).toList)=false:=beq_eq_false_iff_ne.mpr bC;have bN:((dr ByteArray.empty b3 b1).toList !=(dr ByteArray.empty b4 b1).toList)=true:=bne_iff_ne.mpr bC;obtain rfl:=Option.some.inj H;obtain⟨dD,dE,bV⟩:=Kd.ao b6.out;subst bV;have bW:(0≤(b1:Int))=True:=oT;have bX:(b1<(b3.length:Int))=True:=oT;obtain⟨bO,bG,bI⟩:=Kd.ei (Kd.aU b6.out).2.2 b1 oa oa
      cases bG
      obtain⟨dF,dG,bY⟩:=Kd.ao b8.out;subst bY;have bZ:(0≤(b1:Int))=True:=oT;have d1:(b1<(b4.length:Int))=True:=oT;obtain⟨bP,bH,bJ⟩:=Kd.ei (Kd.aU b8.out).2.2 b1 oa oa
      cases bH
      go_wp2
      repeat(go_quiet (fail);try go_wp2)
      go_ret
      exact⟨oE,oB⟩
     rw[if_pos bC]at H;have bM:((dr ByteArray.empty b3 b1).toList==(dr ByteArray.empty b4 b1).toList)=true:=beq_iff_eq.mpr bC;have bN:((dr ByteArray.empty b3 b1).toList !=(dr ByteArray.empty b4 b1).toList)=false:=bne_eq_false_iff_eq.mpr bC;clear bC;have H':=ae.mk H;clear H;obtain⟨dH,dI,d2⟩:=Kd.ao b6.out;subst d2;have bW:(0≤(b1:Int))=True:=oT;have bX:(b1<(b3.length:Int))=True:=oT;obtain⟨bO,bG,bI⟩:=Kd.ei (Kd.aU b6.out).2.2 b1 oa oa
     cases bG
     obtain⟨dJ,dK,d3⟩:=Kd.ao b8.out;subst d3;have bZ:(0≤(b1:Int))=True:=oT;have d1:(b1<(b4.length:Int))=True:=oT;obtain⟨bP,bH,bJ⟩:=Kd.ei (Kd.aU b8.out).2.2 b1 oa oa
     cases bH
     go_wp2
     repeat(go_quiet (fail);try go_wp2)
     go_roundg k2
     case measure=>have:=bQ.out;have:=bR.out;omega
     case rel=>exact⟨(wrap64 (b1+1)),oS,H',⟨by have:=bQ.out;have:=bR.out;omega⟩,⟨oR b6⟩,⟨oR b8⟩,⟨oB⟩⟩

def fE.l0:Nat→Int→List ByteArray→Int→Int→List (aW)→Int→Option (Int×Int)
 |0,_,_,_,_,_,_=>none
 |k+1,x8,b6,b7,b4,b2,b3=>if b4<b7 then(if 0≤b4 then(if b4<(b6.length:Int)then((gi.f k b2 b3 x8).bind fun b1=>(if b1.2.2.2.2.2.2=true then(if b1.2.1=2 then((eY.f k b1.1 b1.2.1 b1.2.2.1 b1.2.2.2.1 b1.2.2.2.2.1 b1.2.2.2.2.2.1 (dr ByteArray.empty b6 b4)).bind fun b5=>(if b5=0 then(some (0,2))else(fE.l0 k b5 b6 b7 (wrap64 (b4+1)) b2 b3)))else(some (0,3)))else(some (0,2))))else(none))else(none))else(some (x8,0))
def fE.f (k:Nat) (ah:List (aW)) (al:Int) (a1:ByteArray):Option (Int×Int):=(gv.f k a1).bind fun b1=>(if b1.2=true then(fE.l0 k 1 b1.1 (b1.1.length:Int) 0 ah al)else(some (0,1)))
theorem fE.calls (k:Nat) (bs:Option Addr) (bo:Nat) (ah:List (aW)) (al:Int) (a1:ByteArray) (r1:Int) (r2:Int) (w:World) (cy:Kd.C k32 w bs ah.length ah) (cA:ah.length≤bo) (h:fE.f k ah al a1=some (r1,r2)) (hG:GOk w:=by exact gk_ oB (by first|(with_reducible assumption)|assumption)):
  Calls Tryz.prog 22 #[.agg #[.slice bs ah.length bo,.int .i64 al],.string a1] w fun e w'=>e= .returned (.tuple #[.int .i64 r1,.int .i64 r2])∧Below w.heap.size w w':=by
 have HG:=ae.mk hG;clear hG;have gE:=underlying26;have gF:=underlying32;have bW:=ae.mk cy;have bX:=ae.mk cA;clear cy cA;have HB:=am (Below.refl w.heap.size w);unfold fE.f at h;have H:=h;clear h;replace H:=bA H;obtain⟨⟨bC,bY⟩,A3,H⟩:=H
 try dsimp only at H
 have d2:=ae.mk H;clear H
 go_enter func22,ntmps22
 go_upto_if 19 with(first|((with_reducible refine au (N:=2) rfl ?_);refine fz 2 #[.slice bs ah.length bo,.int .i64 al] 26 ?_;intro bS hg w5 hbox hb;have b1:=am (hbox);have dG:=fO hg;replace HB:=hB HB hb;clear hb hbox hg)|((with_reducible refine ag (f:=59) rfl ?_);refine dk 15 func59 (gv.calls k a1 bC bY _ A3.out) ?_;rintro e w6 ⟨dQ,rfl,bT,hb⟩;refine⟨_,rfl,?_⟩;have bQ:=am (Kd.abt bT (af oB));replace b1:=ba b1 hb;replace HB:=hB HB hb))
 have H:=d2.out;clear d2;replace H:=jl H;rcases H with⟨rfl,H⟩|⟨rfl,H⟩;rotate_left
 ·simp only[Option.some.injEq,Prod.mk.injEq]at H;obtain⟨rfl,rfl⟩:=H
  go_wp2
  go_ret2
  exact⟨oE,oB⟩
 have H':=ae.mk H;clear H;obtain⟨dH,dI,dJ,_⟩:=Kd.abu bQ.out;subst dJ
 go_wp2
 go_loopg [8,22] k (fun kq v8 dK w'=>∃(bG:Int) (b6:Int),v8= .int .i64 bG∧dK= .int .i64 b6∧ae (fE.l0 kq bG bC (bC.length:Int) b6 ah al=some (r1,r2))∧ae (kq≤k)∧ae (Kd.Q Kd.string 9 w' w.heap.size (fun _=>True) (.slice dH bC.length dI) bC)∧ae (w'.heap[bS]? =some (.cells #[(.slice bs ah.length bo),.int .i64 al] 26 (0,0)))∧ae (Below w.heap.size w w'))
 case atStart=>exact⟨(1),(0),oS,oS,H',⟨Nat.le_refl _⟩,⟨bQ.out⟩,⟨oF b1⟩,⟨oB⟩⟩
 case round=>
  clear H';obtain⟨bG,b6,rfl,rfl,HA,d3,b7,b1,HB⟩:=hrel
  cases gk with
  |zero=>exact absurd HA.out (by simp[fE.l0])
  |succ k1=>
   have H:=HA.out;clear HA;simp only[fE.l0]at H;replace H:=kU H;rcases H with⟨bR,H⟩|⟨bR,H⟩;rotate_left
   ·(skip)
    simp only[Option.some.injEq,Prod.mk.injEq]at H;obtain⟨rfl,rfl⟩:=H
    go_wp2
    go_ret2
    exact⟨oE,oB⟩
   (skip)
   obtain⟨dR,H⟩:=dw H;obtain⟨dS,H⟩:=dw H;replace H:=bA H;obtain⟨⟨bH,b8,bI,bJ,bK,bL,bZ⟩,dL,H⟩:=H
   try dsimp only at H
   have bU:=ae.mk H;clear H;have dT:(0≤(b6:Int))=True:=oT;have dU:(b6<(bC.length:Int))=True:=oT;obtain⟨dM,d1,d6⟩:=Kd.ei (Kd.tY b7.out).2.2 b6 oa oa
   cases d1
   obtain⟨⟨_,_⟩,_,_⟩:=z2 b1
   go_upto_if 32 with(first|((with_reducible refine ag (f:=47) rfl ?_);refine dk 29 func47 (gi.calls k1 _ _ ah al bG bH b8 bI bJ bK bL bZ _ (kC bW) bX.out dL.out) ?_;rintro e gG ⟨dV,dW,dX,rfl,bT,d4,d5,hb⟩;refine⟨_,rfl,?_⟩;have b3:=am (Kd.aq bT (af oB));have b4:=am (Kd.aq d4 (af oB));have b5:=am (Kd.aq d5 (af oB));replace b7:=ac6 b7 hb;replace b1:=ba b1 hb;replace HB:=hB HB hb;(try clear d4);(try clear d5))|((with_reducible refine au (N:=11) rfl ?_);refine fz 11 #[.int .i64 0,.int .i64 0,.int .i64 0,.slice none 0 0,.slice none 0 0,.slice none 0 0] 32 ?_;intro dN hg gH hbox hb;have b2:=am (hbox);have dO:=fO hg;have b9:=fX hg b1;have bB:=fY hg b1;replace b7:=ac6 b7 hb;replace b3:=dm b3 hb;replace b4:=dm b4 hb;replace b5:=dm b5 hb;replace b1:=ba b1 hb;replace HB:=hB HB hb;clear hb hbox hg;have dY:=bB.out;have dZ:=b9.out;obtain⟨⟨_,_,_,_,_,_⟩,_,_,_,_,_,_⟩:=z6 b2;obtain⟨d7,d8,d9⟩:=Kd.ao b3.out;subst d9;obtain⟨dA,dB,dC⟩:=Kd.ao b4.out;subst dC;obtain⟨dD,dE,dF⟩:=Kd.ao b5.out;subst dF))
   have H:=bU.out;clear bU;replace H:=jl H;rcases H with⟨rfl,H⟩|⟨rfl,H⟩;rotate_left
   ·simp only[Option.some.injEq,Prod.mk.injEq]at H;obtain⟨rfl,rfl⟩:=H
    go_wp2
    go_ret2
    exact⟨oE,oB⟩
   by_cases bE:b8=2
   rotate_left
   ·rw[if_neg bE]at H;have bM:(b8==2)=false:=beq_eq_false_iff_ne.mpr bE;have bN:(b8 !=2)=true:=bne_iff_ne.mpr bE
    (skip)
    simp only[Option.some.injEq,Prod.mk.injEq]at H;obtain⟨rfl,rfl⟩:=H;have gA:=bB.out;have gB:=b9.out;obtain⟨⟨_,_,_,_,_,_⟩,_,_,_,_,_,_⟩:=z6 b2
    go_wp2
    go_ret2
    exact⟨oE,oB⟩
   rw[if_pos bE]at H;have bM:(b8==2)=true:=beq_iff_eq.mpr bE;have bN:(b8 !=2)=false:=bne_eq_false_iff_eq.mpr bE;clear bE
   (skip)
   replace H:=bA H;obtain⟨bD,dP,H⟩:=H;have bV:=ae.mk H;clear H;have gC:=bB.out;have gD:=b9.out;obtain⟨⟨_,_,_,_,_,_⟩,_,_,_,_,_,_⟩:=z6 b2
   go_upto_if 43 with(((with_reducible refine ag (f:=60) rfl ?_);refine dk 41 func60 (eY.calls k1 bH b8 bI _ _ bJ _ _ bK _ _ bL (dr ByteArray.empty bC b6) bD _ (lg b3 b2) (ko b3) (lg b4 b2) (ko b4) (lg b5 b2) (ko b5) dP.out) ?_;rintro e gI ⟨rfl,hb⟩;refine⟨_,rfl,?_⟩;replace b7:=adz b7 b2 hb;replace b3:=du b3 b2 hb;replace b4:=du b4 b2 hb;replace b5:=du b5 b2 hb;replace b1:=ba b1 hb;replace b2:=mc #[.int .i64 bH,.int .i64 b8,.int .i64 bI,.slice d7 bJ.length d8,.slice dA bK.length dB,.slice dD bL.length dE] b2 hb;replace HB:=hB HB hb))
   have H:=bV.out;clear bV
   by_cases bF:bD=0
   ·rw[if_pos bF]at H;have bO:(bD==0)=true:=beq_iff_eq.mpr bF;have bP:(bD !=0)=false:=bne_eq_false_iff_eq.mpr bF;clear bF
    (rw[bO])
    simp only[Option.some.injEq,Prod.mk.injEq]at H;obtain⟨rfl,rfl⟩:=H
    go_wp2
    go_ret2
    exact⟨oE,oB⟩
   rw[if_neg bF]at H;have bO:(bD==0)=false:=beq_eq_false_iff_ne.mpr bF;have bP:(bD !=0)=true:=bne_iff_ne.mpr bF
   (rw[bO])
   have H':=ae.mk H;clear H
   go_wp2
   go_roundg k1
   case measure=>have:=d3.out;omega
   case rel=>exact⟨(bD),(wrap64 (b6+1)),oS,oS,H',⟨by have:=d3.out;omega⟩,⟨b7.out⟩,⟨oF b1⟩,⟨oB⟩⟩

def dx.l0:Nat→List Int→Int→List (aW)→Int→Option (List Int)
 |0,_,_,_,_=>none
 |k+1,x3,x4,b1,b2=>if x4<(b1.length:Int)then((aJ.f k b1 b2 x3).bind fun b3=>(dx.l0 k b3 (wrap64 (x4+1)) b1 b2))else(some x3)
def dx.f (k:Nat) (ah:List (aW)) (al:Int):Option (List Int):=(some (([]:List Int):List Int)).bind fun b1=>((da.f k ah al 1).bind fun b2=>(if b2<0 then(some b1)else(if b1.length<17592186044416 then(dx.l0 k (b1++[1]) 0 ah al)else(none))))
theorem dx.calls (k:Nat) (bs:Option Addr) (bo:Nat) (ah:List (aW)) (al:Int) (r:List Int) (w:World) (cy:Kd.C k32 w bs ah.length ah) (cA:ah.length≤bo) (h:dx.f k ah al=some r):
  Calls Tryz.prog 114 #[.agg #[.slice bs ah.length bo,.int .i64 al]] w fun e w'=>∃fy:Value,e= .returned (fy)∧Kd.R (Kd.int .i64) 3 w' w.heap.size (fun _=>True) fy r∧Below w.heap.size w w':=by
 have bT:=underlying26;have b7:=ae.mk cy;have b8:=ae.mk cA;clear cy cA;have HB:=am (Below.refl w.heap.size w);unfold dx.f at h;have H:=h;clear h;obtain⟨b4,cx⟩:∃y_:List Int,y_=(([]:List Int)):=⟨_,rfl⟩;replace H:((da.f k ah al 1).bind fun b9=>(if b9<0 then(some b4)else(if b4.length<17592186044416 then(dx.l0 k (b4++[1]) 0 ah al)else(none))))=some r:=oY;have b3:=ae.mk cx;clear cx;replace H:=bA H;obtain⟨b9,A2,H⟩:=H;replace H:=kU H;rcases H with⟨bF,H⟩|⟨bF,H⟩
 ·obtain rfl:=Option.some.inj H
  go_enter func114,ntmps114
  go_wp2_with (first|((with_reducible refine au (N:=1) rfl ?_);refine fz 1 #[.slice bs ah.length bo,.int .i64 al] 26 ?_;intro bE hg w4 hbox hb;have b1:=am (hbox);have bJ:=fO hg;replace HB:=hB HB hb;clear hb hbox hg)|((with_reducible refine au (N:=5) rfl ?_);refine Kd.gu (Kd.int .i64) _ 3 ?hg (N:=5) ?hd (xs:=([]:List Int)) (inner:=[]) (ok:=fun _=>True) (fw:=fun _=>True) ?hr ?hp (fun _ hk=>hk) trivial (Below.refl _ _) (Nat.le_refl _) (by simp) ?_;(case hd=>rfl);(case hg=>rfl);(case hr=>(go_simp;done));(case hp=>exact(bp.none _ _));intro bG w5 bD hb fN cj;clear fN cj;(rw[←b3.out]at bD);have b2:=am (Kd.aq bD (af oB));replace b1:=ba b1 hb;replace HB:=hB HB hb;clear hb bD;obtain⟨⟨_,_⟩,_,_⟩:=z2 b1)|((with_reducible refine ag (f:=99) rfl ?_);refine dk 7 func99 (da.calls k _ _ ah al 1 b9 _ (kC b7) b8.out A2.out) ?_;rintro e w8 ⟨rfl,hb⟩;refine⟨_,rfl,?_⟩;replace b2:=dm b2 hb;replace b1:=ba b1 hb;replace HB:=hB HB hb))
  go_ret
  exact⟨_,oE,oR b2,oB⟩
 obtain⟨c9,H⟩:=jm H;have bP:=ae.mk c9;clear c9;obtain⟨bH,cx⟩:∃y_:List Int,y_=(b4++[1]):=⟨_,rfl⟩;replace H:(dx.l0 k bH 0 ah al)=some r:=oY;have bK:=ae.mk cx;clear cx;have H':=ae.mk H;clear H
 go_enter func114,ntmps114
 go_wp2_with (first|((with_reducible refine au (N:=1) rfl ?_);refine fz 1 #[.slice bs ah.length bo,.int .i64 al] 26 ?_;intro bE hg bY hbox hb;have b1:=am (hbox);have bJ:=fO hg;replace HB:=hB HB hb;clear hb hbox hg)|((with_reducible refine au (N:=5) rfl ?_);refine Kd.gu (Kd.int .i64) _ 3 ?hg (N:=5) ?hd (xs:=([]:List Int)) (inner:=[]) (ok:=fun _=>True) (fw:=fun _=>True) ?hr ?hp (fun _ hk=>hk) trivial (Below.refl _ _) (Nat.le_refl _) (by simp) ?_;(case hd=>rfl);(case hg=>rfl);(case hr=>(go_simp;done));(case hp=>exact(bp.none _ _));intro bG bZ b5 hb fN cj;clear fN cj;(rw[←b3.out]at b5);have b2:=am (Kd.aq b5 (af oB));replace b1:=ba b1 hb;replace HB:=hB HB hb;clear hb b5;obtain⟨⟨_,_⟩,_,_⟩:=z2 b1)|((with_reducible refine ag (f:=99) rfl ?_);refine dk 7 func99 (da.calls k _ _ ah al 1 b9 _ (kC b7) b8.out A2.out) ?_;rintro e d1 ⟨rfl,hb⟩;refine⟨_,rfl,?_⟩;replace b2:=dm b2 hb;replace b1:=ba b1 hb;replace HB:=hB HB hb)|((with_reducible refine cX (b:= .append) (xs:= #[.tmp 10,.tmp 11]) rfl ?_);at_builtin;refine Kd.iN (Kd.int .i64) (w0:=w) w.heap.size rfl (.tmp 10) (.tmp 11) 80 3 (.int .i64 0) 8 rfl underlying80 info3 rfl (by decide) (by omega) bG b4 1 [.int .i64 1] (fun _=>True) (fun _=>False) rfl rfl ?aP (fun _ hk=>hk.elim) ?aF ?aO ?aB ?aS ?aL ?_;(case aP=>exact rfl);(case aB=>exact oB);(case aF=>exact(fun _ _=>trivial));(case aO=>exact(oR b2));(case aS=>exact(af oB));(case aL=>have:=bP.out;omega);intro bU d2 ho hb hg hat;rw[←bK.out]at ho;have bL:=am (ho);replace b1:=iF b1 hg (Kd.ig b2.out b1.out (by decide));replace HB:=am (hb);clear b2;clear ho hb hg hat))
 go_loopg [3,4] k (fun kq v3 v4 w'=>∃(bB:List Int) (bC:Int),v4= .int .i64 bC∧ae (dx.l0 kq bB bC ah al=some r)∧ae (kq≤k)∧ae (Kd.R (Kd.int .i64) 3 w' w.heap.size (fun _=>True) v3 bB)∧ae (w'.heap[bE]? =some (.cells #[(.slice bs ah.length bo),.int .i64 al] 26 (0,0)))∧ae (Below w.heap.size w w'))
 case atStart=>exact⟨(bH),(0),oS,H',⟨Nat.le_refl _⟩,⟨oR bL⟩,⟨oF b1⟩,⟨oB⟩⟩
 case round=>
  clear H'
  try clear bF
  obtain⟨bB,bC,rfl,HA,bO,b6,b1,HB⟩:=hrel
  cases gk with
  |zero=>exact absurd HA.out (by simp[dx.l0])
  |succ k1=>
   have H:=HA.out;clear HA;simp only[dx.l0]at H;replace H:=kU H;rcases H with⟨bM,H⟩|⟨bM,H⟩;rotate_left
   ·obtain rfl:=Option.some.inj H;obtain⟨⟨_,_⟩,_,_⟩:=z2 b1
    go_wp2
    go_ret
    exact⟨_,oE,oR b6,oB⟩
   replace H:=bA H;obtain⟨bI,bR,H⟩:=H;have H':=ae.mk H;clear H;obtain⟨⟨_,_⟩,_,_⟩:=z2 b1;obtain⟨bV,bW,bQ⟩:=Kd.ao b6.out;subst bQ
   go_wp2_with (((with_reducible refine ag (f:=159) rfl ?_);refine dk 22 func159 (aJ.calls k1 _ _ ah al _ _ bB bI w.heap.size _ (af oB) (kC b7) b8.out (oR b6) bR.out) ?_;rintro e d3 ⟨bX,rfl,bS,hb⟩;refine⟨_,rfl,?_⟩;have bN:=ae.mk bS;replace b6:=dm b6 hb;replace b1:=ba b1 hb;replace HB:=hB HB hb))
   go_roundg k1
   case measure=>have:=bO.out;omega
   case rel=>exact⟨(bI),(wrap64 (bC+1)),oS,H',⟨by have:=bO.out;omega⟩,⟨mR bN⟩,⟨oF b1⟩,⟨oB⟩⟩

def cS.f (k:Nat) (a0:ByteArray):Option (ByteArray×ByteArray×Bool):=(aH.f k a0).bind fun b1=>(if b1.2=true then(if(b1.1.length:Int)=0 then(some ((⟨#[]⟩:ByteArray),(⟨#[]⟩:ByteArray),false))else(if 0≤(wrap64 ((b1.1.length:Int)-1))then(if(wrap64 ((b1.1.length:Int)-1))≤(b1.1.length:Int)then((cT.f k (b1.1.take ((wrap64 ((b1.1.length:Int)-1)):Int).toNat)).bind fun b2=>(if(wrap64 ((b1.1.length:Int)-1))<(b1.1.length:Int)then(some (b2,dr ByteArray.empty b1.1 (wrap64 ((b1.1.length:Int)-1)),true))else(none)))else(none))else(none)))else(some ((⟨#[]⟩:ByteArray),(⟨#[]⟩:ByteArray),false)))
theorem cS.calls (k:Nat) (a0:ByteArray) (r1:ByteArray) (r2:ByteArray) (r3:Bool) (w:World) (h:cS.f k a0=some (r1,r2,r3)):
  Calls Tryz.prog 161 #[.string a0] w fun e w'=>e= .returned (.tuple #[.string r1,.string r2,.bool r3])∧Below w.heap.size w w':=by
 have HB:=am (Below.refl w.heap.size w);unfold cS.f at h;have H:=h;clear h;replace H:=bA H;obtain⟨⟨b1,bG⟩,A2,H⟩:=H
 try dsimp only at H
 have bW:=ae.mk H;clear H
 go_enter func161,ntmps161
 go_upto_region 2 with((go_at_call 84;(with_reducible refine(aH.calls k a0 b1 bG _ A2.out).mono ?_);rintro e w4 ⟨bO,rfl,bF,hb⟩;have b3:=am (Kd.aq bF (af oB));replace HB:=hB HB hb))
 repeat(go_quiet ((go_at_call 84;(with_reducible refine(aH.calls k a0 b1 bG _ A2.out).mono ?_);rintro e w4 ⟨bO,rfl,bF,hb⟩;have b3:=am (Kd.aq bF (af oB));replace HB:=hB HB hb));go_upto_region 2 with((go_at_call 84;(with_reducible refine(aH.calls k a0 b1 bG _ A2.out).mono ?_);rintro e w4 ⟨bO,rfl,bF,hb⟩;have b3:=am (Kd.aq bF (af oB));replace HB:=hB HB hb)))
 have H:=bW.out;clear bW;replace H:=jl H;rcases H with⟨rfl,H⟩|⟨rfl,H⟩;rotate_left
 ·simp only[Option.some.injEq,Prod.mk.injEq]at H;obtain⟨rfl,rfl,rfl⟩:=H
  go_wp2
  repeat(go_quiet (fail);try go_wp2)
  go_ret3
  exact⟨oE,oB⟩
 have bX:=ae.mk H;clear H;obtain⟨bY,bP,d1⟩:=Kd.ao b3.out;subst d1
 go_upto_if 19 with(fail)
 repeat(go_quiet (fail);go_upto_if 19 with(fail))
 have H:=bX.out;clear bX
 by_cases c8:(b1.length:Int)=0
 ·rw[if_pos c8]at H;have bH:((b1.length:Int)==0)=true:=beq_iff_eq.mpr c8;have bI:((b1.length:Int) !=0)=false:=bne_eq_false_iff_eq.mpr c8;clear c8
  (rw[bH])
  simp only[Option.some.injEq,Prod.mk.injEq]at H;obtain⟨rfl,rfl,rfl⟩:=H
  go_wp2
  repeat(go_quiet (fail);try go_wp2)
  go_ret3
  exact⟨oE,oB⟩
 rw[if_neg c8]at H;have bH:((b1.length:Int)==0)=false:=beq_eq_false_iff_ne.mpr c8;have bI:((b1.length:Int) !=0)=true:=bne_iff_ne.mpr c8
 have bZ:¬(b1=[]):=fun h_=>c8 (by rw[h_];rfl)
 (rw[bH])
 obtain⟨b2,bD⟩:∃j_:Int,(wrap64 ((b1.length:Int)-1))=j_:=⟨_,rfl⟩
 replace H:(if 0≤(b2)then(if(b2)≤(b1.length:Int)then((cT.f k (b1.take ((b2):Int).toNat)).bind fun b5=>(if(b2)<(b1.length:Int)then(some (b5,dr ByteArray.empty b1 (b2),true))else(none)))else(none))else(none))=some (r1,r2,r3):=by(rw[bD]at H;exact H)
 have d2:(IntKind.i64.wrap ((b1.length:Int)-1))=b2:=(kn _).trans bD;obtain⟨c10,H⟩:=jm H;have d3:=eq_true c10;have d4:decide (0≤(b2))=true:=decide_eq_true c10;clear c10;obtain⟨bQ,H⟩:=jm H;have d5:=eq_true bQ;have d6:decide ((b2)≤(b1.length:Int))=true:=decide_eq_true bQ;clear bQ;obtain⟨b6,cx⟩:∃y_:List ByteArray,y_=(b1.take ((b2):Int).toNat):=⟨_,rfl⟩;replace H:((cT.f k b6).bind fun b5=>(if(b2)<(b1.length:Int)then(some (b5,dr ByteArray.empty b1 (b2),true))else(none)))=some (r1,r2,r3):=oY;have bL:=ae.mk cx;clear cx;replace H:=bA H;obtain⟨b5,bR,H⟩:=H;obtain⟨d7,H⟩:=dw H;simp only[Option.some.injEq,Prod.mk.injEq]at H;obtain⟨rfl,rfl,rfl⟩:=H;have bS:((b2):Int)≤((b1.length:Int):Int):=oa;obtain⟨d8,bM,_,bV,_⟩:=info_parts info9;have bB:b1.length≤bP:=(Kd.aU b3.out).2.1;have bT:Kd.C Kd.string _ bY b1.length b1:=(Kd.aU b3.out).2.2;have bU:=ri (P:=Tryz.prog) 35 9 .i64 underlying35 bM bY b1.length bP (b2) oa bS bB;have bJ:=Kd.aav (m:=((b2):Int).toNat) bT (by omega);have bK:b6.length=((b2):Int).toNat:=(by rw[bL.out,List.length_take];omega);rw[←bL.out]at bJ;rw[←bK]at bU;have b4:=ae.mk bJ;have bE:=am (show b6.length≤bP from by omega);clear bJ bT bB bM bV;have d9:=ae.mk bK;clear bK;have dA:=am (show((b2):Int).toNat≤b1.length from by omega);replace bS:=eq_true bS
 go_wp2_with ((go_at_call 192;(with_reducible refine(cT.calls k _ _ b6 b5 _ ?aC bE.out bR.out).mono ?_);(case aC=>repeat(first|exact(by repeat(first|(with_reducible exact b4.out)|(with_reducible refine Kd.ji ?_ _)|(with_reducible refine Kd.iS ?_ _)|(with_reducible refine Kd.ks ?_)|exact b4.out))|(with_reducible refine Kd.ji ?_ _)|(with_reducible refine Kd.iS ?_ _)|(with_reducible refine Kd.ks ?_)));rintro e w' ⟨rfl,⟨nd,rfl⟩⟩;have b7:(0≤((b2):Int))=True:=oT;have b8:((b2)<(b1.length:Int))=True:=oT;obtain⟨bN,b9,bC⟩:=Kd.ei (Kd.aU b3.out).2.2 (b2) oa oa;cases b9))
 try(have b7:0≤((b2):Int):=oa;have b8:(b2)<(b1.length:Int):=oa;obtain⟨bN,b9,bC⟩:=Kd.ei (Kd.aU b3.out).2.2 (b2) b7 b8;cases b9;replace b7:=eq_true b7;replace b8:=eq_true b8)
 repeat(go_quiet ((go_at_call 192;(with_reducible refine(cT.calls k _ _ b6 b5 _ ?aC bE.out bR.out).mono ?_);(case aC=>repeat(exact(by repeat(first|(with_reducible exact b4.out)|(with_reducible refine Kd.iS ?_ _)))));rintro e w' ⟨rfl,⟨nd,rfl⟩⟩;exact oQ));try go_wp2_with ((go_at_call 192;(with_reducible refine(cT.calls k _ _ b6 b5 _ ?aC bE.out bR.out).mono ?_);(case aC=>repeat(first|exact(by repeat(first|(with_reducible exact b4.out)|(with_reducible refine Kd.ji ?_ _)|(with_reducible refine Kd.iS ?_ _)|(with_reducible refine Kd.ks ?_)|exact b4.out))|(with_reducible refine Kd.ji ?_ _)|(with_reducible refine Kd.iS ?_ _)|(with_reducible refine Kd.ks ?_)));rintro e w' ⟨rfl,⟨nd,rfl⟩⟩;have b7:(0≤((b2):Int))=True:=oT;have b8:((b2)<(b1.length:Int))=True:=oT;obtain⟨bN,b9,bC⟩:=Kd.ei (Kd.aU b3.out).2.2 (b2) oa oa;cases b9)))
 go_ret3
 exact⟨by rfl,oB⟩

def ix.f (k:Nat) (ah:List (aW)) (al:Int) (a1:ByteArray):Option (Int×Int):=(aH.f k a1).bind fun b1=>(if b1.2=true then((cZ.f k ah al b1.1).bind fun b2=>(some (b2.1,b2.2)))else(some (0,1)))
theorem ix.calls (k:Nat) (bs:Option Addr) (bo:Nat) (ah:List (aW)) (al:Int) (a1:ByteArray) (r1:Int) (r2:Int) (w:World) (cy:Kd.C k32 w bs ah.length ah) (cA:ah.length≤bo) (h:ix.f k ah al a1=some (r1,r2)):
  Calls Tryz.prog 48 #[.agg #[.slice bs ah.length bo,.int .i64 al],.string a1] w fun e w'=>e= .returned (.tuple #[.int .i64 r1,.int .i64 r2])∧Below w.heap.size w w':=by
 have bF:=underlying26;have b4:=ae.mk cy;have b5:=ae.mk cA;clear cy cA;have HB:=am (Below.refl w.heap.size w);unfold ix.f at h;have H:=h;clear h;replace H:=bA H;obtain⟨⟨b3,b7⟩,A3,H⟩:=H
 try dsimp only at H
 have b6:=ae.mk H;clear H
 go_enter func48,ntmps48
 go_upto_if 14 with(first|((with_reducible refine au (N:=2) rfl ?_);refine fz 2 #[.slice bs ah.length bo,.int .i64 al] 26 ?_;intro bD hg w5 hbox hb;have b1:=am (hbox);have bE:=fO hg;replace HB:=hB HB hb;clear hb hbox hg)|((with_reducible refine ag (f:=84) rfl ?_);refine dk 10 func84 (aH.calls k a1 b3 b7 _ A3.out) ?_;rintro e w6 ⟨bG,rfl,bC,hb⟩;refine⟨_,rfl,?_⟩;have b2:=am (Kd.aq bC (af oB));replace b1:=ba b1 hb;replace HB:=hB HB hb))
 have H:=b6.out;clear b6;replace H:=jl H;rcases H with⟨rfl,H⟩|⟨rfl,H⟩;rotate_left
 ·simp only[Option.some.injEq,Prod.mk.injEq]at H;obtain⟨rfl,rfl⟩:=H
  go_wp2
  go_ret2
  exact⟨oE,oB⟩
 replace H:=bA H;obtain⟨⟨b8,b9⟩,A8,H⟩:=H
 try dsimp only at H
 simp only[Option.some.injEq,Prod.mk.injEq]at H;obtain⟨rfl,rfl⟩:=H;obtain⟨⟨_,_⟩,_,_⟩:=z2 b1;obtain⟨bH,bI,bB⟩:=Kd.ao b2.out;subst bB
 go_wp2_with (((with_reducible refine ag (f:=98) rfl ?_);refine dk 17 func98 (cZ.calls k _ _ ah al _ _ b3 b8 b9 _ (kC b4) b5.out (kO b2) (ko b2) A8.out) ?_;rintro e bJ ⟨rfl,hb⟩;refine⟨_,rfl,?_⟩;replace b2:=dm b2 hb;replace b1:=ba b1 hb;replace HB:=hB HB hb))
 go_ret2
 exact⟨oE,oB⟩

def cN.f (bd:List Int) (de:Int) (df:Int) (l1:List Int):Option (Int×Int×Int):=(br.f bd de df (l1.length:Int)).bind fun b1=>(if 0≤b1.1 then(if b1.1<(l1.length:Int)then(some (rd l1 b1.1,b1.2.1,b1.2.2))else(none))else(none))
theorem cN.calls (g:Nat) (bd:List Int) (de:Int) (df:Int) (A1:Option Addr) (c1:Nat) (l1:List Int) (r1:Int) (r2:Int) (r3:Int) (w0 w:World) (hI:ak w0 w g bd de df) (hB:Below w0.heap.size w0 w) (hr1:Kd.C (Kd.int .i64) w A1 l1.length l1) (hc1:l1.length≤c1) (hf1:∀ad,A1=some ad→0<l1.length→ad.block≠g) (h:cN.f bd de df l1=some (r1,r2,r3)):
  Calls Tryz.prog 53 #[.pointer (some ⟨g,0,none⟩),.slice A1 l1.length c1] w fun e w'=>e= .returned (.int .i64 r1)∧ak w0 w' g bd r2 r3∧Below w0.heap.size w0 w'∧aI w w' g none:=by
 have b9:=ae.mk hr1;have bD:=ae.mk hc1;clear hr1 hc1;have HI0:=ae.mk hI;have HK:=am (aI.refl w g none);have HL:=ae.mk hB.size;clear hI;have HW0:=ae.mk hB.size;have HB:=ae.mk hB;clear hB;unfold cN.f at h;have H:=h;clear h;replace H:=bA H;obtain⟨⟨b2,b6,b7⟩,A3,H⟩:=H
 try dsimp only at H
 obtain⟨bB,H⟩:=dw H;obtain⟨bC,H⟩:=dw H;simp only[Option.some.injEq,Prod.mk.injEq]at H;obtain⟨rfl,rfl,rfl⟩:=H
 go_enter func53,ntmps53
 go_wp2_with (((with_reducible refine ag (f:=101) rfl ?_);refine dk 9 func101 (br.calls g bd de df (l1.length:Int) b2 b6 b7 w0 _ ?aC ?bh A3.out) ?_;(case aC=>exact cK);(case bh=>exact dg);rintro e w6 ⟨rfl,hi,hb,hk⟩;refine⟨_,rfl,?_⟩;replace HK:=hk2 HK hk;replace HI0:=am (hi);replace HB:=am (hb);(try clear hk);(try clear hi);have b3:0≤(b2:Int):=oa;have b4:b2<(l1.length:Int):=oa;obtain⟨b5,b8,b1⟩:=Kd.me b9.out b2 b3 b4;cases b8;replace b1:=ov HK.out b1 (by(rw[add_block];exact hf1 _ rfl (by omega)));replace b3:=eq_true b3;replace b4:=eq_true b4))
 go_ret
 exact⟨oE,HI0.out,HB.out,HK.out⟩

def dj.f (bd:List Int) (de:Int) (df:Int) (l1:List ByteArray):Option (ByteArray×Int×Int):=(br.f bd de df (l1.length:Int)).bind fun b1=>(if 0≤b1.1 then(if b1.1<(l1.length:Int)then(some (dr ByteArray.empty l1 b1.1,b1.2.1,b1.2.2))else(none))else(none))
theorem dj.calls (g:Nat) (bd:List Int) (de:Int) (df:Int) (A1:Option Addr) (c1:Nat) (l1:List ByteArray) (r1:ByteArray) (r2:Int) (r3:Int) (w0 w:World) (hI:ak w0 w g bd de df) (hB:Below w0.heap.size w0 w) (hr1:Kd.C Kd.string w A1 l1.length l1) (hc1:l1.length≤c1) (hf1:∀ad,A1=some ad→0<l1.length→ad.block≠g) (h:dj.f bd de df l1=some (r1,r2,r3)):
  Calls Tryz.prog 88 #[.pointer (some ⟨g,0,none⟩),.slice A1 l1.length c1] w fun e w'=>e= .returned (.string r1)∧ak w0 w' g bd r2 r3∧Below w0.heap.size w0 w'∧aI w w' g none:=by
 have b9:=ae.mk hr1;have bD:=ae.mk hc1;clear hr1 hc1;have HI0:=ae.mk hI;have HK:=am (aI.refl w g none);have HL:=ae.mk hB.size;clear hI;have HW0:=ae.mk hB.size;have HB:=ae.mk hB;clear hB;unfold dj.f at h;have H:=h;clear h;replace H:=bA H;obtain⟨⟨b2,b6,b7⟩,A3,H⟩:=H
 try dsimp only at H
 obtain⟨bB,H⟩:=dw H;obtain⟨bC,H⟩:=dw H;simp only[Option.some.injEq,Prod.mk.injEq]at H;obtain⟨rfl,rfl,rfl⟩:=H
 go_enter func88,ntmps88
 go_wp2_with (((with_reducible refine ag (f:=101) rfl ?_);refine dk 9 func101 (br.calls g bd de df (l1.length:Int) b2 b6 b7 w0 _ ?aC ?bh A3.out) ?_;(case aC=>exact cK);(case bh=>exact dg);rintro e w6 ⟨rfl,hi,hb,hk⟩;refine⟨_,rfl,?_⟩;replace HK:=hk2 HK hk;replace HI0:=am (hi);replace HB:=am (hb);(try clear hk);(try clear hi);have b3:0≤(b2:Int):=oa;have b4:b2<(l1.length:Int):=oa;obtain⟨b5,b8,b1⟩:=Kd.ei b9.out b2 b3 b4;cases b8;replace b1:=ov HK.out b1 (by(rw[add_block];exact hf1 _ rfl (by omega)));replace b3:=eq_true b3;replace b4:=eq_true b4))
 go_ret
 exact⟨oE,HI0.out,HB.out,HK.out⟩

def eF.f (bd:List Int) (de:Int) (df:Int) (a1:Int):Option (Bool×Int×Int):=(br.f bd de df a1).bind fun b1=>(some ((b1.1==0),b1.2.1,b1.2.2))
theorem eF.calls (g:Nat) (bd:List Int) (de:Int) (df:Int) (a1:Int) (r1:Bool) (r2:Int) (r3:Int) (w0 w:World) (hI:ak w0 w g bd de df) (hB:Below w0.heap.size w0 w) (h:eF.f bd de df a1=some (r1,r2,r3)):
  Calls Tryz.prog 68 #[.pointer (some ⟨g,0,none⟩),.int .i64 a1] w fun e w'=>e= .returned (.bool r1)∧ak w0 w' g bd r2 r3∧Below w0.heap.size w0 w'∧aI w w' g none:=by
 have HI0:=ae.mk hI;have HK:=am (aI.refl w g none);have HL:=ae.mk hB.size;clear hI;have HW0:=ae.mk hB.size;have HB:=ae.mk hB;clear hB;unfold eF.f at h;have H:=h;clear h;replace H:=bA H;obtain⟨⟨b1,b2,b3⟩,A3,H⟩:=H
 try dsimp only at H
 simp only[Option.some.injEq,Prod.mk.injEq]at H;obtain⟨rfl,rfl,rfl⟩:=H
 go_enter func68,ntmps68
 go_wp2_with (((with_reducible refine ag (f:=101) rfl ?_);refine dk 7 func101 (br.calls g bd de df a1 b1 b2 b3 w0 _ ?aC ?bh A3.out) ?_;(case aC=>exact cK);(case bh=>exact dg);rintro e w4 ⟨rfl,hi,hb,hk⟩;refine⟨_,rfl,?_⟩;replace HK:=hk2 HK hk;replace HI0:=am (hi);replace HB:=am (hb);(try clear hk);(try clear hi)))
 go_ret
 exact⟨oE,HI0.out,HB.out,HK.out⟩
end Go.Proofs.YtkfoopcpihmbmaaGreatDoor.P
