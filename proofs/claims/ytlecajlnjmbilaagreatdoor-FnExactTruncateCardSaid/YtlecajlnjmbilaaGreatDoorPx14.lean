-- Printed walks.
import Derived.Test.YtlecajlnjmbilaaGreatDoorPx11
set_option linter.all false
namespace Go.Proofs.YtlecajlnjmbilaaGreatDoor.P
open Go.RowKit Go.Proofs.ab.ar Go.Proofs.ab.aV Go.Proofs.ab.aZ
attribute [local go_sem] fl fm gm gn eK eL fo fp

mutual
def bp.j0:Nat→Bool→List (bg)→Int→Option (Bool)
 |0,_,_,_=>none
 |k+1,b3,b1,b2=>if b3=true then(some false)else(bp.l0 k 0 b1 b2)
def bp.l0:Nat→Int→List (bg)→Int→Option (Bool)
 |0,_,_,_=>none
 |k+1,x3,b1,b2=>if x3<(b1.length:Int)then(if 0≤x3 then((cH.f k ((af b1 x3).f0) ((af b1 x3).f1) ((af b1 x3).f2) ((af b1 x3).f3) ((af b1 x3).f4) ((af b1 x3).f5)).bind fun b3=>(if b3=true then(if((af b1 x3).f0)≥b2 then(some false)else(if x3>0 then(if 0≤(wrap64 (x3-1))then(if(wrap64 (x3-1))<(b1.length:Int)then(if((af b1 (wrap64 (x3-1))).f0)≥((af b1 x3).f0)then(some false)else(bp.l0 k (wrap64 (x3+1)) b1 b2))else(none))else(none))else(bp.l0 k (wrap64 (x3+1)) b1 b2)))else(some false)))else(none))else(if 0<(b1.length:Int)then(if((af b1 0).f0)=1 then(some (((af b1 0).f1)==2))else(some false))else(none))
end
def bp.f (k:Nat) (ag:List (bg)) (ak:Int):Option (Bool):=(aN.f (ag.length:Int) 1 30).bind fun b1=>(if b1=true then((aN.f ak 2 1000).bind fun b2=>(bp.j0 k (!b2) ag ak))else(bp.j0 k true ag ak))
def bp.T7:Bool×List (List Nat×List Nat):=(true,[([],[]),([0],[0]),([1],[1]),([2,1],[2]),([3],[3]),([4,3],[3,4]),([3],[3]),([6,3],[3,6]),([5,7,3],[3,5,7]),([3,8],[3,8]),([9,3],[9]),([10],[10]),([11,10],[10,11]),([12,10,10],[10,12]),([13],[13]),([14,13],[13,14]),([13],[13]),([16,13],[13,16]),([15,17,13],[13,15,17]),([18,13],[13,18]),([19,13],[13,19]),([13],[13]),([21,13],[13,21]),([20,22,13],[13,20,22]),([13,23,10],[10,13,23]),([10,24],[10,24])])
def bp.B7:List Nat:=[0,1,3,7,15,31,15,79,255,511,1023,2047,4095,8191,16383,32767,16383,81919,262143,524287,1048575,16383,2113535,8388607,16777215,33554431]
theorem bp.qn:gj .any (opsOf Tryz.f79 7)=bp.T7:=by kernel_rfl
theorem bp.ni:eI bp.T7.2 bp.B7=true:=by kernel_rfl
set_option maxHeartbeats 8000000 in
set_option maxRecDepth 100000 in
theorem bp.calls (k:Nat) (bh:Option Addr) (aU:Nat) (ag:List (bg)) (ak:Int) (r:Bool) (w:World) (cg:Kd.C fy w bh ag.length ag) (cj:ag.length≤aU) (h:bp.f k ag ak=some r):
  Calls Tryz.prog 79 #[.agg #[.slice bh ag.length aU,.int .i64 ak]] w fun e w'=>e= .returned (.bool r)∧Below w.heap.size w w':=by
 have mZ:=Tryz.underlying28;have zA:=Tryz.underlying58;have bY:=ae.mk cg;have mG:=ae.mk cj;clear cg cj;have HB:=am (Below.refl w.heap.size w);unfold bp.f at h;have H:=h;clear h;have jD:=ae.mk H;clear H
 go_enter Tryz.func79,Tryz.ntmps79
 go_upto_region 1 with(first|((with_reducible refine ai (N:=1) rfl ?_);refine dd 1 #[.slice bh ag.length aU,.int .i64 ak] 28 ?_;intro bZ hg w3 hbox hb;have b2:=am (hbox);have mH:=de hg;replace HB:=hB HB hb;clear hb hbox hg))
 (try simp only[Act.put,List.setIfInBounds_toArray,List.set_cons_zero,List.set_cons_succ])
 go_cut [15] (fun m3 wc=>∃(kq:Nat) (gL:Bool),m3= .bool gL∧ae (bp.j0 kq gL ag ak=some r)∧ae (kq≤k)∧ae (wc.heap[bZ]? =some (.cells #[(.slice bh ag.length aU),.int .i64 ak] 28 (0,0)))∧ae (Below w.heap.size w wc))
 case first=>
  have H:=jD.out;clear jD;replace H:=bA H;obtain⟨zB,A4,H⟩:=H
  try dsimp only at H
  replace H:=kU H;rcases H with⟨rfl,H⟩|⟨rfl,H⟩;rotate_left
  ·have H':=ae.mk H;clear H;obtain⟨⟨_,_⟩,_,_⟩:=z2 b2
   go_wp2_with (first|((with_reducible refine aj (f:=60) rfl ?_);refine eG 8 Tryz.func60 (aN.calls (ag.length:Int) 1 30 false _ A4.out) ?_;rintro e w' ⟨rfl,⟨nd,rfl⟩⟩;refine⟨_,rfl,?_⟩))
   go_meet
   case rel=>exact⟨_,(true),oS,H',⟨by first|omega|exact Nat.le_refl _⟩,⟨oF b2⟩,⟨oB⟩⟩
  replace H:=bA H;obtain⟨jE,A6,H⟩:=H
  try dsimp only at H
  have H':=ae.mk H;clear H;obtain⟨⟨_,_⟩,_,_⟩:=z2 b2
  go_wp2_with (first|((with_reducible refine aj (f:=60) rfl ?_);refine eG 8 Tryz.func60 (aN.calls (ag.length:Int) 1 30 true _ A4.out) ?_;rintro e w' ⟨rfl,⟨nd,rfl⟩⟩;refine⟨_,rfl,?_⟩)|(go_at_call 60;(with_reducible refine(aN.calls ak 2 1000 jE _ A6.out).mono ?_);rintro e w' ⟨rfl,⟨nd,rfl⟩⟩))
  go_meet
  case rel=>exact⟨_,(!jE),oS,H',⟨by first|omega|exact Nat.le_refl _⟩,⟨oF b2⟩,⟨oB⟩⟩
 case rest=>
  clear jD;obtain⟨kq,gL,rfl,HA,gT,b2,HB⟩:=hcut
  cases kq with
  |zero=>exact absurd HA.out (by simp[bp.j0])
  |succ uZ=>
   have H:=HA.out;clear HA;simp only[bp.j0]at H;replace H:=kU H;rcases H with⟨rfl,H⟩|⟨rfl,H⟩
   ·obtain rfl:=Option.some.inj H
    go_wp2
    go_ret
    exact⟨oE,oB⟩
   have H':=ae.mk H;clear H
   go_wp2
   go_loopg [3] uZ (fun kq v3 w'=>∃(b1:Int),v3= .int .i64 b1∧ae (bp.l0 kq b1 ag ak=some r)∧ae (kq≤uZ)∧ae (w'.heap[bZ]? =some (.cells #[(.slice bh ag.length aU),.int .i64 ak] 28 (0,0)))∧ae (Below w.heap.size w w'))
   case atStart=>exact⟨(0),oS,H',⟨Nat.le_refl _⟩,⟨oF b2⟩,⟨oB⟩⟩
   case round=>
    clear H';obtain⟨b1,rfl,HA,gU,b2,HB⟩:=hrel
    cases gk with
    |zero=>exact absurd HA.out (by simp[bp.l0])
    |succ k2=>
     have H:=HA.out;clear HA;simp only[bp.l0]at H;replace H:=iE H;rcases H with⟨jL,H⟩|⟨jL,H⟩;rotate_left
     ·by_cases gV:0<(ag.length:Int)
      rotate_left
      ·rw[if_neg gV]at H;exact absurd H (by simp)
      rw[if_pos gV]at H;have mI:decide (0<(ag.length:Int))=true:=decide_eq_true gV;have mJ:decide (0<ag.length)=true:=decide_eq_true (by omega);clear gV
      by_cases dX:((af ag 0).f0)=1
      rotate_left
      ·rw[if_neg dX]at H;have jM:(((af ag 0).f0)==1)=false:=beq_eq_false_iff_ne.mpr dX;have jN:(((af ag 0).f0) !=1)=true:=bne_iff_ne.mpr dX;obtain rfl:=Option.some.inj H;obtain⟨⟨_,_⟩,_,_⟩:=z2 b2;have dQ:0≤(0:Int):=(by omega);have dR:0<(ag.length:Int):=oa;obtain⟨gW,jF,jG,jH,jI,jJ,jK,gP,bJ,bK,bL,bE,bF,bG,d4,d5,d6,d7,d8,d9⟩:=fk bY.out 0 dQ dR
       cases gP
       have jO:(0<ag.length)=True:=eq_true (by omega)
       (try rw[show((0:Int)).toNat=0 from rfl]at bJ)
       (try rw[show 0*6=0 from rfl]at bJ)
       (try rw[Addr.add_zero']at bJ)
       (try rw[show((0:Int)).toNat=0 from rfl]at bK)
       (try rw[show 0*6=0 from rfl]at bK)
       (try rw[Addr.add_zero']at bK)
       (try rw[show((0:Int)).toNat=0 from rfl]at bL)
       (try rw[show 0*6=0 from rfl]at bL)
       (try rw[Addr.add_zero']at bL)
       (try rw[show((0:Int)).toNat=0 from rfl]at bE)
       (try rw[show 0*6=0 from rfl]at bE)
       (try rw[Addr.add_zero']at bE)
       (try rw[show((0:Int)).toNat=0 from rfl]at bF)
       (try rw[show 0*6=0 from rfl]at bF)
       (try rw[Addr.add_zero']at bF)
       (try rw[show((0:Int)).toNat=0 from rfl]at bG)
       (try rw[show 0*6=0 from rfl]at bG)
       (try rw[Addr.add_zero']at bG)
       replace bJ:=cB HB bJ;replace bK:=cB HB bK;replace bL:=cB HB bL;replace bE:=cB HB bE;replace bF:=cB HB bF;replace bG:=cB HB bG;have gX:=ae.mk d5;have gY:=ae.mk d4;clear d5 d4;have gZ:=ae.mk d7;have j1:=ae.mk d6;clear d7 d6;have j2:=ae.mk d9;have j3:=ae.mk d8;clear d9 d8;replace dQ:=eq_true dQ;replace dR:=eq_true dR
       go_wp2
       go_ret
       exact⟨oE,oB⟩
      rw[if_pos dX]at H;have jM:(((af ag 0).f0)==1)=true:=beq_iff_eq.mpr dX;have jN:(((af ag 0).f0) !=1)=false:=bne_eq_false_iff_eq.mpr dX;clear dX;obtain rfl:=Option.some.inj H;obtain⟨⟨_,_⟩,_,_⟩:=z2 b2;have dQ:0≤(0:Int):=(by omega);have dR:0<(ag.length:Int):=oa;obtain⟨gW,jF,jG,jH,jI,jJ,jK,gP,bJ,bK,bL,bE,bF,bG,d4,d5,d6,d7,d8,d9⟩:=fk bY.out 0 dQ dR
      cases gP
      have jO:(0<ag.length)=True:=eq_true (by omega)
      (try rw[show((0:Int)).toNat=0 from rfl]at bJ)
      (try rw[show 0*6=0 from rfl]at bJ)
      (try rw[Addr.add_zero']at bJ)
      (try rw[show((0:Int)).toNat=0 from rfl]at bK)
      (try rw[show 0*6=0 from rfl]at bK)
      (try rw[Addr.add_zero']at bK)
      (try rw[show((0:Int)).toNat=0 from rfl]at bL)
      (try rw[show 0*6=0 from rfl]at bL)
      (try rw[Addr.add_zero']at bL)
      (try rw[show((0:Int)).toNat=0 from rfl]at bE)
      (try rw[show 0*6=0 from rfl]at bE)
      (try rw[Addr.add_zero']at bE)
      (try rw[show((0:Int)).toNat=0 from rfl]at bF)
      (try rw[show 0*6=0 from rfl]at bF)
      (try rw[Addr.add_zero']at bF)
      (try rw[show((0:Int)).toNat=0 from rfl]at bG)
      (try rw[show 0*6=0 from rfl]at bG)
      (try rw[Addr.add_zero']at bG)
      replace bJ:=cB HB bJ;replace bK:=cB HB bK;replace bL:=cB HB bL;replace bE:=cB HB bE;replace bF:=cB HB bF;replace bG:=cB HB bG;have gX:=ae.mk d5;have gY:=ae.mk d4;clear d5 d4;have gZ:=ae.mk d7;have j1:=ae.mk d6;clear d7 d6;have j2:=ae.mk d9;have j3:=ae.mk d8;clear d9 d8;replace dQ:=eq_true dQ;replace dR:=eq_true dR;have gQ:0≤(0:Int):=(by omega);have gR:0<(ag.length:Int):=oa;obtain⟨jP,m4,m5,m6,m7,m8,m9,jT,dA,dB,dC,d1,d2,d3,gE,gF,gG,gH,gI,gJ⟩:=fk bY.out 0 gQ gR;obtain rfl:gW=jP:=(by injection jT);have mK:(0<ag.length)=True:=eq_true (by omega)
      (try rw[show((0:Int)).toNat=0 from rfl]at dA)
      (try rw[show 0*6=0 from rfl]at dA)
      (try rw[Addr.add_zero']at dA)
      (try rw[show((0:Int)).toNat=0 from rfl]at dB)
      (try rw[show 0*6=0 from rfl]at dB)
      (try rw[Addr.add_zero']at dB)
      (try rw[show((0:Int)).toNat=0 from rfl]at dC)
      (try rw[show 0*6=0 from rfl]at dC)
      (try rw[Addr.add_zero']at dC)
      (try rw[show((0:Int)).toNat=0 from rfl]at d1)
      (try rw[show 0*6=0 from rfl]at d1)
      (try rw[Addr.add_zero']at d1)
      (try rw[show((0:Int)).toNat=0 from rfl]at d2)
      (try rw[show 0*6=0 from rfl]at d2)
      (try rw[Addr.add_zero']at d2)
      (try rw[show((0:Int)).toNat=0 from rfl]at d3)
      (try rw[show 0*6=0 from rfl]at d3)
      (try rw[Addr.add_zero']at d3)
      replace dA:=cB HB dA;replace dB:=cB HB dB;replace dC:=cB HB dC;replace d1:=cB HB d1;replace d2:=cB HB d2;replace d3:=cB HB d3;have jW:=ae.mk gF;have jX:=ae.mk gE;clear gF gE;have jY:=ae.mk gH;have jZ:=ae.mk gG;clear gH gG;have m1:=ae.mk gJ;have m2:=ae.mk gI;clear gJ gI;replace gQ:=eq_true gQ;replace gR:=eq_true gR;have iW:=Option.some.inj (bE.symm.trans d1);injection iW with iW nW nX;subst iW;subst nX;clear nW;have iW:=Option.some.inj (bF.symm.trans d2);injection iW with iW nW nX;subst iW;subst nX;clear nW;have iW:=Option.some.inj (bG.symm.trans d3);injection iW with iW nW nX;subst iW;subst nX;clear nW
      go_wp2
      go_ret
      exact⟨oE,oB⟩
     obtain⟨mL,H⟩:=cX H;replace H:=bA H;obtain⟨zC,gK,H⟩:=H
     try dsimp only at H
     replace H:=kU H;rcases H with⟨rfl,H⟩|⟨rfl,H⟩;rotate_left
     ·obtain rfl:=Option.some.inj H;obtain⟨⟨_,_⟩,_,_⟩:=z2 b2;have gM:(0≤(b1:Int))=True:=oT;have gN:(b1<(ag.length:Int))=True:=oT;obtain⟨b6,b7,b8,b9,bB,bC,bD,dJ,dK,dL,dM,dN,dO,dP,bM,bN,bO,bP,bQ,bR⟩:=fb bY HB b1 oa oa
      cases dJ
      try go_wp2_with (first|((with_reducible refine ai (N:=4) rfl ?_);refine dd 4 #[.int .i64 0,.int .i64 0,.int .i64 0,.slice none 0 0,.slice none 0 0,.slice none 0 0] 58 ?_;intro b3 hg mA hbox hb;have b4:=am (hbox);have dW:=de hg;have bH:=eE hg b2;have bI:=eF hg b2;replace b2:=bl b2 hb;replace HB:=hB HB hb;clear hb hbox hg;have mM:=bI.out;have mN:=bH.out;obtain⟨⟨_,_,_,_,_,_⟩,_,_,_,_,_,_⟩:=z6 b4))
      generalize ix:((((((mA.setCell ⟨b3,0,none⟩ (.int .i64 ((af ag b1).f0))).setCell ⟨b3,1,none⟩ (.int .i64 ((af ag b1).f1))).setCell ⟨b3,2,none⟩ (.int .i64 ((af ag b1).f2))).setCell ⟨b3,3,none⟩ (.slice b7 ((af ag b1).f3).length b8)).setCell ⟨b3,4,none⟩ (.slice b9 ((af ag b1).f4).length bB)).setCell ⟨b3,5,none⟩ (.slice bC ((af ag b1).f5).length bD))=w52;replace b2:=sr ix b2;replace b4:=vV #[.int .i64 ((af ag b1).f0),.int .i64 ((af ag b1).f1),.int .i64 ((af ag b1).f2),.slice b7 ((af ag b1).f3).length b8,.slice b9 ((af ag b1).f4).length bB,.slice bC ((af ag b1).f5).length bD] ix b4;replace HB:=tu ix HB;clear ix;replace b2:=am (au b2.out);replace b4:=am (au b4.out);replace HB:=am (aq HB.out);refine mb 26 (fun w'=>w'.cell? ⟨b3,0,none⟩=some (.int .i64 ((af ag b1).f0))∧w'.cell? ⟨b3,1,none⟩=some (.int .i64 ((af ag b1).f1))∧w'.cell? ⟨b3,2,none⟩=some (.int .i64 ((af ag b1).f2))∧w'.cell? ⟨b3,3,none⟩=some (.slice b7 ((af ag b1).f3).length b8)∧w'.cell? ⟨b3,4,none⟩=some (.slice b9 ((af ag b1).f4).length bB)∧w'.cell? ⟨b3,5,none⟩=some (.slice bC ((af ag b1).f5).length bD)) bp.qn bp.ni oH (fun hHeld av eu=> ?_);generalize w52.drew=zD at b2 b4 HB hHeld⊢;refine fK 0 28 av eu hHeld ?_;refine kD 1 29 av (fun K hK=> ?_);refine lK 29 Tryz.func116 (cH.calls k2 ((af ag b1).f0) ((af ag b1).f1) ((af ag b1).f2) _ _ ((af ag b1).f3) _ _ ((af ag b1).f4) _ _ ((af ag b1).f5) false _ (kC bN) bM.out (kC bP) bO.out (kC bR) bQ.out gK.out) ?_;rintro e zE ⟨rfl,hb⟩;refine⟨_,rfl,?_⟩;replace b2:=bl b2 hb;replace b4:=bl b4 hb;replace HB:=hB HB hb;refine fV hK 29 oH (fun hHeld=> ?_);clear hK K;refine bz 2 30 av ?_;refine bz 3 31 av ?_;refine fz 4 32 av ?_;refine fz 5 33 av ?_;refine fz 6 34 av ?_;refine fz 7 35 av ?_;refine fz 8 36 av ?_;refine bz 9 37 av ?_;refine bz 10 38 av ?_;refine fz 11 39 av ?_;refine fz 12 40 av ?_;refine fz 13 41 av ?_;refine fz 14 42 av ?_;refine fz 15 43 av ?_;refine fz 16 44 av ?_;refine fz 17 45 av ?_;refine fz 18 46 av ?_;refine fz 19 47 av ?_;refine fz 20 48 av ?_;refine fz 21 49 av ?_;refine fz 22 50 av ?_;refine fz 23 51 av ?_;refine fz 24 52 av ?_;refine bz 25 53 av ?_;refine lT av ?_
      try go_wp2
      go_ret
      exact⟨oE,oB⟩
     replace H:=itH H;rcases H with⟨jQ,H⟩|⟨jQ,H⟩
     ·obtain rfl:=Option.some.inj H;obtain⟨⟨_,_⟩,_,_⟩:=z2 b2;have gM:(0≤(b1:Int))=True:=oT;have gN:(b1<(ag.length:Int))=True:=oT;obtain⟨b6,b7,b8,b9,bB,bC,bD,dJ,dK,dL,dM,dN,dO,dP,bM,bN,bO,bP,bQ,bR⟩:=fb bY HB b1 oa oa
      cases dJ
      try go_wp2_with (first|((with_reducible refine ai (N:=4) rfl ?_);refine dd 4 #[.int .i64 0,.int .i64 0,.int .i64 0,.slice none 0 0,.slice none 0 0,.slice none 0 0] 58 ?_;intro b3 hg mB hbox hb;have b4:=am (hbox);have dW:=de hg;have bH:=eE hg b2;have bI:=eF hg b2;replace b2:=bl b2 hb;replace HB:=hB HB hb;clear hb hbox hg;have mO:=bI.out;have mP:=bH.out;obtain⟨⟨_,_,_,_,_,_⟩,_,_,_,_,_,_⟩:=z6 b4))
      generalize ix:((((((mB.setCell ⟨b3,0,none⟩ (.int .i64 ((af ag b1).f0))).setCell ⟨b3,1,none⟩ (.int .i64 ((af ag b1).f1))).setCell ⟨b3,2,none⟩ (.int .i64 ((af ag b1).f2))).setCell ⟨b3,3,none⟩ (.slice b7 ((af ag b1).f3).length b8)).setCell ⟨b3,4,none⟩ (.slice b9 ((af ag b1).f4).length bB)).setCell ⟨b3,5,none⟩ (.slice bC ((af ag b1).f5).length bD))=w19;replace b2:=sr ix b2;replace b4:=vV #[.int .i64 ((af ag b1).f0),.int .i64 ((af ag b1).f1),.int .i64 ((af ag b1).f2),.slice b7 ((af ag b1).f3).length b8,.slice b9 ((af ag b1).f4).length bB,.slice bC ((af ag b1).f5).length bD] ix b4;replace HB:=tu ix HB;clear ix;replace b2:=am (au b2.out);replace b4:=am (au b4.out);replace HB:=am (aq HB.out);refine mb 26 (fun w'=>w'.cell? ⟨b3,0,none⟩=some (.int .i64 ((af ag b1).f0))∧w'.cell? ⟨b3,1,none⟩=some (.int .i64 ((af ag b1).f1))∧w'.cell? ⟨b3,2,none⟩=some (.int .i64 ((af ag b1).f2))∧w'.cell? ⟨b3,3,none⟩=some (.slice b7 ((af ag b1).f3).length b8)∧w'.cell? ⟨b3,4,none⟩=some (.slice b9 ((af ag b1).f4).length bB)∧w'.cell? ⟨b3,5,none⟩=some (.slice bC ((af ag b1).f5).length bD)∧w'.cell? ⟨bZ,0,none⟩=some (.slice (some b6) ag.length aU)∧w'.cell? ⟨bZ,1,none⟩=some (.int .i64 ak)) bp.qn bp.ni oH (fun hHeld av eu=> ?_);generalize w19.drew=zF at b2 b4 HB hHeld⊢;refine fK 0 28 av eu hHeld ?_;refine kD 1 29 av (fun K hK=> ?_);refine lK 29 Tryz.func116 (cH.calls k2 ((af ag b1).f0) ((af ag b1).f1) ((af ag b1).f2) _ _ ((af ag b1).f3) _ _ ((af ag b1).f4) _ _ ((af ag b1).f5) true _ (kC bN) bM.out (kC bP) bO.out (kC bR) bQ.out gK.out) ?_;rintro e zG ⟨rfl,hb⟩;refine⟨_,rfl,?_⟩;replace b2:=bl b2 hb;replace b4:=bl b4 hb;replace HB:=hB HB hb;refine fV hK 29 oH (fun hHeld=> ?_);clear hK K;refine bz 2 30 av ?_;refine bz 3 31 av ?_;refine bz 4 32 av ?_;refine bz 6 34 av ?_;refine fK 5 33 av eu hHeld ?_;refine fK 7 35 av eu hHeld ?_;refine bz 8 36 av ?_;refine bz 9 37 av ?_;refine bz 10 38 av ?_;refine fz 11 39 av ?_;refine fz 12 40 av ?_;refine fz 13 41 av ?_;refine fz 14 42 av ?_;refine fz 15 43 av ?_;refine fz 16 44 av ?_;refine fz 17 45 av ?_;refine fz 18 46 av ?_;refine fz 19 47 av ?_;refine fz 20 48 av ?_;refine fz 21 49 av ?_;refine fz 22 50 av ?_;refine fz 23 51 av ?_;refine fz 24 52 av ?_;refine bz 25 53 av ?_;refine lT av ?_
      try go_wp2
      go_ret
      exact⟨oE,oB⟩
     replace H:=itG H;rcases H with⟨jR,H⟩|⟨jR,H⟩;rotate_left
     ·have H':=ae.mk H;clear H;obtain⟨⟨_,_⟩,_,_⟩:=z2 b2;have gM:(0≤(b1:Int))=True:=oT;have gN:(b1<(ag.length:Int))=True:=oT;obtain⟨b6,b7,b8,b9,bB,bC,bD,dJ,dK,dL,dM,dN,dO,dP,bM,bN,bO,bP,bQ,bR⟩:=fb bY HB b1 oa oa
      cases dJ
      try go_wp2_with (first|((with_reducible refine ai (N:=4) rfl ?_);refine dd 4 #[.int .i64 0,.int .i64 0,.int .i64 0,.slice none 0 0,.slice none 0 0,.slice none 0 0] 58 ?_;intro b3 hg mC hbox hb;have b4:=am (hbox);have dW:=de hg;have bH:=eE hg b2;have bI:=eF hg b2;replace b2:=bl b2 hb;replace HB:=hB HB hb;clear hb hbox hg;have mQ:=bI.out;have mS:=bH.out;obtain⟨⟨_,_,_,_,_,_⟩,_,_,_,_,_,_⟩:=z6 b4))
      generalize ix:((((((mC.setCell ⟨b3,0,none⟩ (.int .i64 ((af ag b1).f0))).setCell ⟨b3,1,none⟩ (.int .i64 ((af ag b1).f1))).setCell ⟨b3,2,none⟩ (.int .i64 ((af ag b1).f2))).setCell ⟨b3,3,none⟩ (.slice b7 ((af ag b1).f3).length b8)).setCell ⟨b3,4,none⟩ (.slice b9 ((af ag b1).f4).length bB)).setCell ⟨b3,5,none⟩ (.slice bC ((af ag b1).f5).length bD))=w45;replace b2:=sr ix b2;replace b4:=vV #[.int .i64 ((af ag b1).f0),.int .i64 ((af ag b1).f1),.int .i64 ((af ag b1).f2),.slice b7 ((af ag b1).f3).length b8,.slice b9 ((af ag b1).f4).length bB,.slice bC ((af ag b1).f5).length bD] ix b4;replace HB:=tu ix HB;clear ix;replace b2:=am (au b2.out);replace b4:=am (au b4.out);replace HB:=am (aq HB.out);refine mb 26 (fun w'=>w'.cell? ⟨b3,0,none⟩=some (.int .i64 ((af ag b1).f0))∧w'.cell? ⟨b3,1,none⟩=some (.int .i64 ((af ag b1).f1))∧w'.cell? ⟨b3,2,none⟩=some (.int .i64 ((af ag b1).f2))∧w'.cell? ⟨b3,3,none⟩=some (.slice b7 ((af ag b1).f3).length b8)∧w'.cell? ⟨b3,4,none⟩=some (.slice b9 ((af ag b1).f4).length bB)∧w'.cell? ⟨b3,5,none⟩=some (.slice bC ((af ag b1).f5).length bD)∧w'.cell? ⟨bZ,0,none⟩=some (.slice (some b6) ag.length aU)∧w'.cell? ⟨bZ,1,none⟩=some (.int .i64 ak)) bp.qn bp.ni oH (fun hHeld av eu=> ?_);generalize w45.drew=zH at b2 b4 HB hHeld⊢;refine fK 0 28 av eu hHeld ?_;refine kD 1 29 av (fun K hK=> ?_);refine lK 29 Tryz.func116 (cH.calls k2 ((af ag b1).f0) ((af ag b1).f1) ((af ag b1).f2) _ _ ((af ag b1).f3) _ _ ((af ag b1).f4) _ _ ((af ag b1).f5) true _ (kC bN) bM.out (kC bP) bO.out (kC bR) bQ.out gK.out) ?_;rintro e zI ⟨rfl,hb⟩;refine⟨_,rfl,?_⟩;replace b2:=bl b2 hb;replace b4:=bl b4 hb;replace HB:=hB HB hb;refine fV hK 29 oH (fun hHeld=> ?_);clear hK K;refine bz 2 30 av ?_;refine bz 3 31 av ?_;refine bz 4 32 av ?_;refine bz 6 34 av ?_;refine fK 5 33 av eu hHeld ?_;refine fK 7 35 av eu hHeld ?_;refine bz 8 36 av ?_;refine bz 9 37 av ?_;refine bz 10 38 av ?_;refine bz 11 39 av ?_;refine bz 12 40 av ?_;refine bz 13 41 av ?_;refine fz 14 42 av ?_;refine fz 15 43 av ?_;refine fz 16 44 av ?_;refine fz 17 45 av ?_;refine fz 18 46 av ?_;refine fz 19 47 av ?_;refine fz 20 48 av ?_;refine fz 21 49 av ?_;refine fz 22 50 av ?_;refine fz 23 51 av ?_;refine bz 24 52 av ?_;refine bz 25 53 av ?_;refine lT av ?_
      try go_wp2
      go_roundg k2
      case measure=>have:=gT.out;have:=gU.out;omega
      case rel=>exact⟨(wrap64 (b1+1)),oS,H',⟨by have:=gT.out;have:=gU.out;omega⟩,⟨oF b2⟩,⟨oB⟩⟩
     obtain⟨b5,dS⟩:∃j_:Int,(wrap64 (b1-1))=j_:=⟨_,rfl⟩
     replace H:(if 0≤(b5)then(if(b5)<(ag.length:Int)then(if((af ag (b5)).f0)≥((af ag b1).f0)then(some false)else(bp.l0 k2 (wrap64 (b1+1)) ag ak))else(none))else(none))=some r:=by first|(rw[dS]at H;exact H)|(simp only[dS]at H⊢;exact H)
     (try rw[dS]at gK)
     have mD:(IntKind.i64.wrap (b1-1))=b5:=(fR _).trans dS;obtain⟨mT,H⟩:=cX H;obtain⟨mU,H⟩:=cX H;replace H:=itH H;rcases H with⟨jS,H⟩|⟨jS,H⟩;rotate_left
     ·have H':=ae.mk H;clear H;obtain⟨⟨_,_⟩,_,_⟩:=z2 b2;have gM:(0≤(b1:Int))=True:=oT;have gN:(b1<(ag.length:Int))=True:=oT;obtain⟨b6,b7,b8,b9,bB,bC,bD,dJ,dK,dL,dM,dN,dO,dP,bM,bN,bO,bP,bQ,bR⟩:=fb bY HB b1 oa oa
      cases dJ
      try go_wp2_with (first|((with_reducible refine ai (N:=4) rfl ?_);refine dd 4 #[.int .i64 0,.int .i64 0,.int .i64 0,.slice none 0 0,.slice none 0 0,.slice none 0 0] 58 ?_;intro b3 hg mE hbox hb;have b4:=am (hbox);have dW:=de hg;have bH:=eE hg b2;have bI:=eF hg b2;replace b2:=bl b2 hb;replace HB:=hB HB hb;clear hb hbox hg;have mV:=bI.out;have mW:=bH.out;obtain⟨⟨_,_,_,_,_,_⟩,_,_,_,_,_,_⟩:=z6 b4))
      generalize ix:((((((mE.setCell ⟨b3,0,none⟩ (.int .i64 ((af ag b1).f0))).setCell ⟨b3,1,none⟩ (.int .i64 ((af ag b1).f1))).setCell ⟨b3,2,none⟩ (.int .i64 ((af ag b1).f2))).setCell ⟨b3,3,none⟩ (.slice b7 ((af ag b1).f3).length b8)).setCell ⟨b3,4,none⟩ (.slice b9 ((af ag b1).f4).length bB)).setCell ⟨b3,5,none⟩ (.slice bC ((af ag b1).f5).length bD))=w38;replace b2:=sr ix b2;replace b4:=vV #[.int .i64 ((af ag b1).f0),.int .i64 ((af ag b1).f1),.int .i64 ((af ag b1).f2),.slice b7 ((af ag b1).f3).length b8,.slice b9 ((af ag b1).f4).length bB,.slice bC ((af ag b1).f5).length bD] ix b4;replace HB:=tu ix HB;clear ix;replace b2:=am (au b2.out);replace b4:=am (au b4.out);replace HB:=am (aq HB.out);have jU:(0≤((b5):Int))=True:=oT;have jV:((b5)<(ag.length:Int))=True:=oT;obtain⟨gO,dY,dZ,gA,gB,gC,gD,gS,bS,bT,bU,bV,bW,bX,dD,dE,dF,dG,dH,dI⟩:=fk bY.out (b5) oa oa;have j4:=bX;have j5:=bW;have j6:=bV;have j7:=bU;have j8:=bT;have j9:=bS;obtain rfl:b6=gO:=(by injection gS);replace bS:=cB HB bS;replace bT:=cB HB bT;replace bU:=cB HB bU;replace bV:=cB HB bV;replace bW:=cB HB bW;replace bX:=cB HB bX;have dT:=ae.mk dE;have jA:=ae.mk dD;clear dE dD;have dU:=ae.mk dG;have jB:=ae.mk dF;clear dG dF;have dV:=ae.mk dI;have jC:=ae.mk dH;clear dI dH;refine mb 26 (fun w'=>w'.cell? ⟨b3,0,none⟩=some (.int .i64 ((af ag b1).f0))∧w'.cell? ⟨b3,1,none⟩=some (.int .i64 ((af ag b1).f1))∧w'.cell? ⟨b3,2,none⟩=some (.int .i64 ((af ag b1).f2))∧w'.cell? ⟨b3,3,none⟩=some (.slice b7 ((af ag b1).f3).length b8)∧w'.cell? ⟨b3,4,none⟩=some (.slice b9 ((af ag b1).f4).length bB)∧w'.cell? ⟨b3,5,none⟩=some (.slice bC ((af ag b1).f5).length bD)∧w'.cell? ⟨bZ,0,none⟩=some (.slice (some b6) ag.length aU)∧w'.cell? ⟨bZ,1,none⟩=some (.int .i64 ak)∧w'.cell? (b6.add (((b5)).toNat*6))=some (.int .i64 ((af ag (b5)).f0))∧w'.cell? ⟨(b6.add (((b5)).toNat*6)).block,(b6.add (((b5)).toNat*6)).off+1,none⟩=some (.int .i64 ((af ag (b5)).f1))∧w'.cell? ⟨(b6.add (((b5)).toNat*6)).block,(b6.add (((b5)).toNat*6)).off+2,none⟩=some (.int .i64 ((af ag (b5)).f2))∧w'.cell? ⟨(b6.add (((b5)).toNat*6)).block,(b6.add (((b5)).toNat*6)).off+3,none⟩=some (.slice dY ((af ag (b5)).f3).length dZ)∧w'.cell? ⟨(b6.add (((b5)).toNat*6)).block,(b6.add (((b5)).toNat*6)).off+4,none⟩=some (.slice gA ((af ag (b5)).f4).length gB)∧w'.cell? ⟨(b6.add (((b5)).toNat*6)).block,(b6.add (((b5)).toNat*6)).off+5,none⟩=some (.slice gC ((af ag (b5)).f5).length gD)) bp.qn bp.ni oH (fun hHeld av eu=> ?_);generalize w38.drew=zJ at b2 b4 HB dT dU dV bS bT bU bV bW bX hHeld⊢;refine fK 0 28 av eu hHeld ?_;refine kD 1 29 av (fun K hK=> ?_);refine lK 29 Tryz.func116 (cH.calls k2 ((af ag b1).f0) ((af ag b1).f1) ((af ag b1).f2) _ _ ((af ag b1).f3) _ _ ((af ag b1).f4) _ _ ((af ag b1).f5) true _ (kC bN) bM.out (kC bP) bO.out (kC bR) bQ.out gK.out) ?_;rintro e zK ⟨rfl,hb⟩;refine⟨_,rfl,?_⟩;replace b2:=bl b2 hb;replace b4:=bl b4 hb;replace HB:=hB HB hb;refine fV hK 29 oH (fun hHeld=> ?_);clear hK K;refine bz 2 30 av ?_;refine bz 3 31 av ?_;refine bz 4 32 av ?_;refine bz 6 34 av ?_;refine fK 5 33 av eu hHeld ?_;refine fK 7 35 av eu hHeld ?_;refine bz 8 36 av ?_;refine bz 9 37 av ?_;refine bz 10 38 av ?_;refine bz 11 39 av ?_;refine bz 12 40 av ?_;refine bz 13 41 av ?_;refine bz 14 42 av ?_;refine bz 16 44 av ?_;refine bz 17 45 av ?_;refine bz 21 49 av ?_;refine fK 15 43 av eu hHeld ?_;refine bz 18 46 av ?_;refine bz 19 47 av ?_;refine fK 20 48 av eu hHeld ?_;refine fK 22 50 av eu hHeld ?_;refine bz 23 51 av ?_;refine bz 24 52 av ?_;refine bz 25 53 av ?_;refine lT av ?_
      try go_wp2
      go_roundg k2
      case measure=>have:=gT.out;have:=gU.out;omega
      case rel=>exact⟨(wrap64 (b1+1)),oS,H',⟨by have:=gT.out;have:=gU.out;omega⟩,⟨oF b2⟩,⟨oB⟩⟩
     obtain rfl:=Option.some.inj H;obtain⟨⟨_,_⟩,_,_⟩:=z2 b2;have gM:(0≤(b1:Int))=True:=oT;have gN:(b1<(ag.length:Int))=True:=oT;obtain⟨b6,b7,b8,b9,bB,bC,bD,dJ,dK,dL,dM,dN,dO,dP,bM,bN,bO,bP,bQ,bR⟩:=fb bY HB b1 oa oa
     cases dJ
     try go_wp2_with (first|((with_reducible refine ai (N:=4) rfl ?_);refine dd 4 #[.int .i64 0,.int .i64 0,.int .i64 0,.slice none 0 0,.slice none 0 0,.slice none 0 0] 58 ?_;intro b3 hg mF hbox hb;have b4:=am (hbox);have dW:=de hg;have bH:=eE hg b2;have bI:=eF hg b2;replace b2:=bl b2 hb;replace HB:=hB HB hb;clear hb hbox hg;have mX:=bI.out;have mY:=bH.out;obtain⟨⟨_,_,_,_,_,_⟩,_,_,_,_,_,_⟩:=z6 b4))
     generalize ix:((((((mF.setCell ⟨b3,0,none⟩ (.int .i64 ((af ag b1).f0))).setCell ⟨b3,1,none⟩ (.int .i64 ((af ag b1).f1))).setCell ⟨b3,2,none⟩ (.int .i64 ((af ag b1).f2))).setCell ⟨b3,3,none⟩ (.slice b7 ((af ag b1).f3).length b8)).setCell ⟨b3,4,none⟩ (.slice b9 ((af ag b1).f4).length bB)).setCell ⟨b3,5,none⟩ (.slice bC ((af ag b1).f5).length bD))=w31;replace b2:=sr ix b2;replace b4:=vV #[.int .i64 ((af ag b1).f0),.int .i64 ((af ag b1).f1),.int .i64 ((af ag b1).f2),.slice b7 ((af ag b1).f3).length b8,.slice b9 ((af ag b1).f4).length bB,.slice bC ((af ag b1).f5).length bD] ix b4;replace HB:=tu ix HB;clear ix;replace b2:=am (au b2.out);replace b4:=am (au b4.out);replace HB:=am (aq HB.out);have jU:(0≤((b5):Int))=True:=oT;have jV:((b5)<(ag.length:Int))=True:=oT;obtain⟨gO,dY,dZ,gA,gB,gC,gD,gS,bS,bT,bU,bV,bW,bX,dD,dE,dF,dG,dH,dI⟩:=fk bY.out (b5) oa oa;have j4:=bX;have j5:=bW;have j6:=bV;have j7:=bU;have j8:=bT;have j9:=bS;obtain rfl:b6=gO:=(by injection gS);replace bS:=cB HB bS;replace bT:=cB HB bT;replace bU:=cB HB bU;replace bV:=cB HB bV;replace bW:=cB HB bW;replace bX:=cB HB bX;have dT:=ae.mk dE;have jA:=ae.mk dD;clear dE dD;have dU:=ae.mk dG;have jB:=ae.mk dF;clear dG dF;have dV:=ae.mk dI;have jC:=ae.mk dH;clear dI dH;refine mb 26 (fun w'=>w'.cell? ⟨b3,0,none⟩=some (.int .i64 ((af ag b1).f0))∧w'.cell? ⟨b3,1,none⟩=some (.int .i64 ((af ag b1).f1))∧w'.cell? ⟨b3,2,none⟩=some (.int .i64 ((af ag b1).f2))∧w'.cell? ⟨b3,3,none⟩=some (.slice b7 ((af ag b1).f3).length b8)∧w'.cell? ⟨b3,4,none⟩=some (.slice b9 ((af ag b1).f4).length bB)∧w'.cell? ⟨b3,5,none⟩=some (.slice bC ((af ag b1).f5).length bD)∧w'.cell? ⟨bZ,0,none⟩=some (.slice (some b6) ag.length aU)∧w'.cell? ⟨bZ,1,none⟩=some (.int .i64 ak)∧w'.cell? (b6.add (((b5)).toNat*6))=some (.int .i64 ((af ag (b5)).f0))∧w'.cell? ⟨(b6.add (((b5)).toNat*6)).block,(b6.add (((b5)).toNat*6)).off+1,none⟩=some (.int .i64 ((af ag (b5)).f1))∧w'.cell? ⟨(b6.add (((b5)).toNat*6)).block,(b6.add (((b5)).toNat*6)).off+2,none⟩=some (.int .i64 ((af ag (b5)).f2))∧w'.cell? ⟨(b6.add (((b5)).toNat*6)).block,(b6.add (((b5)).toNat*6)).off+3,none⟩=some (.slice dY ((af ag (b5)).f3).length dZ)∧w'.cell? ⟨(b6.add (((b5)).toNat*6)).block,(b6.add (((b5)).toNat*6)).off+4,none⟩=some (.slice gA ((af ag (b5)).f4).length gB)∧w'.cell? ⟨(b6.add (((b5)).toNat*6)).block,(b6.add (((b5)).toNat*6)).off+5,none⟩=some (.slice gC ((af ag (b5)).f5).length gD)) bp.qn bp.ni oH (fun hHeld av eu=> ?_);generalize w31.drew=zL at b2 b4 HB dT dU dV bS bT bU bV bW bX hHeld⊢;refine fK 0 28 av eu hHeld ?_;refine kD 1 29 av (fun K hK=> ?_);refine lK 29 Tryz.func116 (cH.calls k2 ((af ag b1).f0) ((af ag b1).f1) ((af ag b1).f2) _ _ ((af ag b1).f3) _ _ ((af ag b1).f4) _ _ ((af ag b1).f5) true _ (kC bN) bM.out (kC bP) bO.out (kC bR) bQ.out gK.out) ?_;rintro e zM ⟨rfl,hb⟩;refine⟨_,rfl,?_⟩;replace b2:=bl b2 hb;replace b4:=bl b4 hb;replace HB:=hB HB hb;refine fV hK 29 oH (fun hHeld=> ?_);clear hK K;refine bz 2 30 av ?_;refine bz 3 31 av ?_;refine bz 4 32 av ?_;refine bz 6 34 av ?_;refine fK 5 33 av eu hHeld ?_;refine fK 7 35 av eu hHeld ?_;refine bz 8 36 av ?_;refine bz 9 37 av ?_;refine bz 10 38 av ?_;refine bz 11 39 av ?_;refine bz 12 40 av ?_;refine bz 13 41 av ?_;refine bz 14 42 av ?_;refine bz 16 44 av ?_;refine bz 17 45 av ?_;refine bz 21 49 av ?_;refine fK 15 43 av eu hHeld ?_;refine bz 18 46 av ?_;refine bz 19 47 av ?_;refine fK 20 48 av eu hHeld ?_;refine fK 22 50 av eu hHeld ?_;refine bz 23 51 av ?_;refine bz 24 52 av ?_;refine bz 25 53 av ?_;refine lT av ?_
     try go_wp2
     go_ret
     exact⟨by first|rfl|(simp[eS,eT]<;>rfl)|(simp only[←dS];first|rfl|(simp[eS,eT]<;>rfl))|(simp[*,eS,eT]<;>rfl),oB⟩
end Go.Proofs.YtlecajlnjmbilaaGreatDoor.P
