-- Printed walks.
import Derived.Test.YtlecajlnjmbilaaGreatDoorPx11
set_option linter.all false
namespace Go.Proofs.YtlecajlnjmbilaaGreatDoor.P
open Go.RowKit Go.Proofs.ab.ao Go.Proofs.ab.aE Go.Proofs.ab.aI
attribute [local go_sem] fV fW im iq fh fi fX fY

mutual
def br.j0:Nat→Bool→List (aZ)→Int→Option (Bool)
 |0,_,_,_=>none
 |k+1,b3,b1,b2=>if b3=true then(some false)else(br.l0 k 0 b1 b2)
def br.l0:Nat→Int→List (aZ)→Int→Option (Bool)
 |0,_,_,_=>none
 |k+1,x3,b1,b2=>if x3<(b1.length:Int)then(if 0≤x3 then((cI.f k ((af b1 x3).f0) ((af b1 x3).f1) ((af b1 x3).f2) ((af b1 x3).f3) ((af b1 x3).f4) ((af b1 x3).f5)).bind fun b3=>(if b3=true then(if((af b1 x3).f0)≥b2 then(some false)else(if x3>0 then(if 0≤(wrap64 (x3-1))then(if(wrap64 (x3-1))<(b1.length:Int)then(if((af b1 (wrap64 (x3-1))).f0)≥((af b1 x3).f0)then(some false)else(br.l0 k (wrap64 (x3+1)) b1 b2))else(none))else(none))else(br.l0 k (wrap64 (x3+1)) b1 b2)))else(some false)))else(none))else(if 0<(b1.length:Int)then(if((af b1 0).f0)=1 then(some (((af b1 0).f1)==2))else(some false))else(none))
end
def br.f (k:Nat) (ag:List (aZ)) (ak:Int):Option (Bool):=(aY.f (ag.length:Int) 1 30).bind fun b1=>(if b1=true then((aY.f ak 2 1000).bind fun b2=>(br.j0 k (!b2) ag ak))else(br.j0 k true ag ak))
def br.T7:Bool×List (List Nat×List Nat):=(true,[([],[]),([0],[0]),([1],[1]),([2,1],[2]),([3],[3]),([4,3],[3,4]),([3],[3]),([6,3],[3,6]),([5,7,3],[3,5,7]),([3,8],[3,8]),([9,3],[9]),([10],[10]),([11,10],[10,11]),([12,10,10],[10,12]),([13],[13]),([14,13],[13,14]),([13],[13]),([16,13],[13,16]),([15,17,13],[13,15,17]),([18,13],[13,18]),([19,13],[13,19]),([13],[13]),([21,13],[13,21]),([20,22,13],[13,20,22]),([13,23,10],[10,13,23]),([10,24],[10,24])])
def br.B7:List Nat:=[0,1,3,7,15,31,15,79,255,511,1023,2047,4095,8191,16383,32767,16383,81919,262143,524287,1048575,16383,2113535,8388607,16777215,33554431]
theorem br.qR:gy .any (opsOf Tryz.f79 7)=br.T7:=by kernel_rfl
theorem br.nO:eR br.T7.2 br.B7=true:=by kernel_rfl
set_option maxHeartbeats 8000000 in
set_option maxRecDepth 100000 in
theorem br.calls (k:Nat) (bl:Option Addr) (aW:Nat) (ag:List (aZ)) (ak:Int) (r:Bool) (w:World) (cg:Kd.C fv w bl ag.length ag) (ch:ag.length≤aW) (h:br.f k ag ak=some r):
  Calls Tryz.prog 79 #[.agg #[.slice bl ag.length aW,.int .i64 ak]] w fun e w'=>e= .returned (.bool r)∧Below w.heap.size w w':=by
 have mZ:=Tryz.underlying28;have zA:=Tryz.underlying58;have bY:=ae.mk cg;have mG:=ae.mk ch;clear cg ch;have HB:=am (Below.refl w.heap.size w);unfold br.f at h;have H:=h;clear h;have jD:=ae.mk H;clear H
 go_enter Tryz.func79,Tryz.ntmps79
 go_upto_region 1 with(first|((with_reducible refine aj (N:=1) rfl ?_);refine dp 1 #[.slice bl ag.length aW,.int .i64 ak] 28 ?_;intro bZ hg w3 hbox hb;have b2:=am (hbox);have mH:=dn hg;replace HB:=hB HB hb;clear hb hbox hg))
 (try simp only[Act.put,List.setIfInBounds_toArray,List.set_cons_zero,List.set_cons_succ])
 go_cut [15] (fun m3 wc=>∃(kq:Nat) (gL:Bool),m3= .bool gL∧ae (br.j0 kq gL ag ak=some r)∧ae (kq≤k)∧ae (wc.heap[bZ]? =some (.cells #[(.slice bl ag.length aW),.int .i64 ak] 28 (0,0)))∧ae (Below w.heap.size w wc))
 case first=>
  have H:=jD.out;clear jD;replace H:=bA H;obtain⟨zB,A4,H⟩:=H
  try dsimp only at H
  replace H:=ll H;rcases H with⟨rfl,H⟩|⟨rfl,H⟩;rotate_left
  ·have H':=ae.mk H;clear H;obtain⟨⟨_,_⟩,_,_⟩:=z2 b2
   go_wp2_with (first|((with_reducible refine ai (f:=60) rfl ?_);refine eL 8 Tryz.func60 (aY.calls (ag.length:Int) 1 30 false _ A4.out) ?_;rintro e w' ⟨rfl,⟨nd,rfl⟩⟩;refine⟨_,rfl,?_⟩))
   go_meet
   case rel=>exact⟨_,(true),oS,H',⟨by first|omega|exact Nat.le_refl _⟩,⟨oF b2⟩,⟨oB⟩⟩
  replace H:=bA H;obtain⟨jE,A6,H⟩:=H
  try dsimp only at H
  have H':=ae.mk H;clear H;obtain⟨⟨_,_⟩,_,_⟩:=z2 b2
  go_wp2_with (first|((with_reducible refine ai (f:=60) rfl ?_);refine eL 8 Tryz.func60 (aY.calls (ag.length:Int) 1 30 true _ A4.out) ?_;rintro e w' ⟨rfl,⟨nd,rfl⟩⟩;refine⟨_,rfl,?_⟩)|(go_at_call 60;(with_reducible refine(aY.calls ak 2 1000 jE _ A6.out).mono ?_);rintro e w' ⟨rfl,⟨nd,rfl⟩⟩))
  go_meet
  case rel=>exact⟨_,(!jE),oS,H',⟨by first|omega|exact Nat.le_refl _⟩,⟨oF b2⟩,⟨oB⟩⟩
 case rest=>
  clear jD;obtain⟨kq,gL,rfl,HA,gT,b2,HB⟩:=hcut
  cases kq with
  |zero=>exact absurd HA.out (by simp[br.j0])
  |succ wE=>
   have H:=HA.out;clear HA;simp only[br.j0]at H;replace H:=ll H;rcases H with⟨rfl,H⟩|⟨rfl,H⟩
   ·obtain rfl:=Option.some.inj H
    go_wp2
    go_ret
    exact⟨oE,oB⟩
   have H':=ae.mk H;clear H
   go_wp2
   go_loopg [3] wE (fun kq v3 w'=>∃(b1:Int),v3= .int .i64 b1∧ae (br.l0 kq b1 ag ak=some r)∧ae (kq≤wE)∧ae (w'.heap[bZ]? =some (.cells #[(.slice bl ag.length aW),.int .i64 ak] 28 (0,0)))∧ae (Below w.heap.size w w'))
   case atStart=>exact⟨(0),oS,H',⟨Nat.le_refl _⟩,⟨oF b2⟩,⟨oB⟩⟩
   case round=>
    clear H';obtain⟨b1,rfl,HA,gU,b2,HB⟩:=hrel
    cases gk with
    |zero=>exact absurd HA.out (by simp[br.l0])
    |succ k2=>
     have H:=HA.out;clear HA;simp only[br.l0]at H;replace H:=jd H;rcases H with⟨jL,H⟩|⟨jL,H⟩;rotate_left
     ·by_cases gV:0<(ag.length:Int)
      rotate_left
      ·rw[if_neg gV]at H;exact absurd H (by simp)
      rw[if_pos gV]at H;have mI:decide (0<(ag.length:Int))=true:=decide_eq_true gV;have mJ:decide (0<ag.length)=true:=decide_eq_true (by omega);clear gV
      by_cases dX:((af ag 0).f0)=1
      rotate_left
      ·rw[if_neg dX]at H;have jM:(((af ag 0).f0)==1)=false:=beq_eq_false_iff_ne.mpr dX;have jN:(((af ag 0).f0) !=1)=true:=bne_iff_ne.mpr dX;obtain rfl:=Option.some.inj H;obtain⟨⟨_,_⟩,_,_⟩:=z2 b2;have dQ:0≤(0:Int):=(by omega);have dR:0<(ag.length:Int):=oa;obtain⟨gW,jF,jG,jH,jI,jJ,jK,gP,bJ,bK,bL,bE,bF,bG,d4,d5,d6,d7,d8,d9⟩:=fy bY.out 0 dQ dR
       cases gP
       have jO:(0<ag.length)=True:=eq_true (by omega)
       (try rw[show((0:Int)).toNat=0 from rfl]at bJ)
       (try rw[show 0*6=0 from rfl]at bJ)
       (try rw[Addr.add_zero']at bJ)
       (try rw[show((0:Int)).toNat=0 from rfl]at bK)
       (try rw[show 0*6=0 from rfl]at bK)
       (try rw[Addr.add_zero']at bK)
       (try rw[show((0:Int)).toNat=0 from rfl]at bL)
       (try rw[show 0*6=0 from rfl]at bL)
       (try rw[Addr.add_zero']at bL)
       (try rw[show((0:Int)).toNat=0 from rfl]at bE)
       (try rw[show 0*6=0 from rfl]at bE)
       (try rw[Addr.add_zero']at bE)
       (try rw[show((0:Int)).toNat=0 from rfl]at bF)
       (try rw[show 0*6=0 from rfl]at bF)
       (try rw[Addr.add_zero']at bF)
       (try rw[show((0:Int)).toNat=0 from rfl]at bG)
       (try rw[show 0*6=0 from rfl]at bG)
       (try rw[Addr.add_zero']at bG)
       replace bJ:=cB HB bJ;replace bK:=cB HB bK;replace bL:=cB HB bL;replace bE:=cB HB bE;replace bF:=cB HB bF;replace bG:=cB HB bG;have gX:=ae.mk d5;have gY:=ae.mk d4;clear d5 d4;have gZ:=ae.mk d7;have j1:=ae.mk d6;clear d7 d6;have j2:=ae.mk d9;have j3:=ae.mk d8;clear d9 d8;replace dQ:=eq_true dQ;replace dR:=eq_true dR
       go_wp2
       go_ret
       exact⟨oE,oB⟩
      rw[if_pos dX]at H;have jM:(((af ag 0).f0)==1)=true:=beq_iff_eq.mpr dX;have jN:(((af ag 0).f0) !=1)=false:=bne_eq_false_iff_eq.mpr dX;clear dX;obtain rfl:=Option.some.inj H;obtain⟨⟨_,_⟩,_,_⟩:=z2 b2;have dQ:0≤(0:Int):=(by omega);have dR:0<(ag.length:Int):=oa;obtain⟨gW,jF,jG,jH,jI,jJ,jK,gP,bJ,bK,bL,bE,bF,bG,d4,d5,d6,d7,d8,d9⟩:=fy bY.out 0 dQ dR
      cases gP
      have jO:(0<ag.length)=True:=eq_true (by omega)
      (try rw[show((0:Int)).toNat=0 from rfl]at bJ)
      (try rw[show 0*6=0 from rfl]at bJ)
      (try rw[Addr.add_zero']at bJ)
      (try rw[show((0:Int)).toNat=0 from rfl]at bK)
      (try rw[show 0*6=0 from rfl]at bK)
      (try rw[Addr.add_zero']at bK)
      (try rw[show((0:Int)).toNat=0 from rfl]at bL)
      (try rw[show 0*6=0 from rfl]at bL)
      (try rw[Addr.add_zero']at bL)
      (try rw[show((0:Int)).toNat=0 from rfl]at bE)
      (try rw[show 0*6=0 from rfl]at bE)
      (try rw[Addr.add_zero']at bE)
      (try rw[show((0:Int)).toNat=0 from rfl]at bF)
      (try rw[show 0*6=0 from rfl]at bF)
      (try rw[Addr.add_zero']at bF)
      (try rw[show((0:Int)).toNat=0 from rfl]at bG)
      (try rw[show 0*6=0 from rfl]at bG)
      (try rw[Addr.add_zero']at bG)
      replace bJ:=cB HB bJ;replace bK:=cB HB bK;replace bL:=cB HB bL;replace bE:=cB HB bE;replace bF:=cB HB bF;replace bG:=cB HB bG;have gX:=ae.mk d5;have gY:=ae.mk d4;clear d5 d4;have gZ:=ae.mk d7;have j1:=ae.mk d6;clear d7 d6;have j2:=ae.mk d9;have j3:=ae.mk d8;clear d9 d8;replace dQ:=eq_true dQ;replace dR:=eq_true dR;have gQ:0≤(0:Int):=(by omega);have gR:0<(ag.length:Int):=oa;obtain⟨jP,m4,m5,m6,m7,m8,m9,jT,dA,dB,dC,d1,d2,d3,gE,gF,gG,gH,gI,gJ⟩:=fy bY.out 0 gQ gR;obtain rfl:gW=jP:=(by injection jT);have mK:(0<ag.length)=True:=eq_true (by omega)
      (try rw[show((0:Int)).toNat=0 from rfl]at dA)
      (try rw[show 0*6=0 from rfl]at dA)
      (try rw[Addr.add_zero']at dA)
      (try rw[show((0:Int)).toNat=0 from rfl]at dB)
      (try rw[show 0*6=0 from rfl]at dB)
      (try rw[Addr.add_zero']at dB)
      (try rw[show((0:Int)).toNat=0 from rfl]at dC)
      (try rw[show 0*6=0 from rfl]at dC)
      (try rw[Addr.add_zero']at dC)
      (try rw[show((0:Int)).toNat=0 from rfl]at d1)
      (try rw[show 0*6=0 from rfl]at d1)
      (try rw[Addr.add_zero']at d1)
      (try rw[show((0:Int)).toNat=0 from rfl]at d2)
      (try rw[show 0*6=0 from rfl]at d2)
      (try rw[Addr.add_zero']at d2)
      (try rw[show((0:Int)).toNat=0 from rfl]at d3)
      (try rw[show 0*6=0 from rfl]at d3)
      (try rw[Addr.add_zero']at d3)
      replace dA:=cB HB dA;replace dB:=cB HB dB;replace dC:=cB HB dC;replace d1:=cB HB d1;replace d2:=cB HB d2;replace d3:=cB HB d3;have jW:=ae.mk gF;have jX:=ae.mk gE;clear gF gE;have jY:=ae.mk gH;have jZ:=ae.mk gG;clear gH gG;have m1:=ae.mk gJ;have m2:=ae.mk gI;clear gJ gI;replace gQ:=eq_true gQ;replace gR:=eq_true gR;have js:=Option.some.inj (bE.symm.trans d1);injection js with js oX oZ;subst js;subst oZ;clear oX;have js:=Option.some.inj (bF.symm.trans d2);injection js with js oX oZ;subst js;subst oZ;clear oX;have js:=Option.some.inj (bG.symm.trans d3);injection js with js oX oZ;subst js;subst oZ;clear oX
      go_wp2
      go_ret
      exact⟨oE,oB⟩
     obtain⟨mL,H⟩:=cX H;replace H:=bA H;obtain⟨zC,gK,H⟩:=H
     try dsimp only at H
     replace H:=ll H;rcases H with⟨rfl,H⟩|⟨rfl,H⟩;rotate_left
     ·obtain rfl:=Option.some.inj H;obtain⟨⟨_,_⟩,_,_⟩:=z2 b2;have gM:(0≤(b1:Int))=True:=oT;have gN:(b1<(ag.length:Int))=True:=oT;obtain⟨b6,b7,b8,b9,bB,bC,bD,dJ,dK,dL,dM,dN,dO,dP,bM,bN,bO,bP,bQ,bR⟩:=ft bY HB b1 oa oa
      cases dJ
      try go_wp2_with (first|((with_reducible refine aj (N:=4) rfl ?_);refine dp 4 #[.int .i64 0,.int .i64 0,.int .i64 0,.slice none 0 0,.slice none 0 0,.slice none 0 0] 58 ?_;intro b3 hg mA hbox hb;have b4:=am (hbox);have dW:=dn hg;have bH:=eN hg b2;have bI:=eO hg b2;replace b2:=bj b2 hb;replace HB:=hB HB hb;clear hb hbox hg;have mM:=bI.out;have mN:=bH.out;obtain⟨⟨_,_,_,_,_,_⟩,_,_,_,_,_,_⟩:=z6 b4))
      generalize jy:((((((mA.setCell ⟨b3,0,none⟩ (.int .i64 ((af ag b1).f0))).setCell ⟨b3,1,none⟩ (.int .i64 ((af ag b1).f1))).setCell ⟨b3,2,none⟩ (.int .i64 ((af ag b1).f2))).setCell ⟨b3,3,none⟩ (.slice b7 ((af ag b1).f3).length b8)).setCell ⟨b3,4,none⟩ (.slice b9 ((af ag b1).f4).length bB)).setCell ⟨b3,5,none⟩ (.slice bC ((af ag b1).f5).length bD))=w52;replace b2:=vO jy b2;replace b4:=xz #[.int .i64 ((af ag b1).f0),.int .i64 ((af ag b1).f1),.int .i64 ((af ag b1).f2),.slice b7 ((af ag b1).f3).length b8,.slice b9 ((af ag b1).f4).length bB,.slice bC ((af ag b1).f5).length bD] jy b4;replace HB:=vS jy HB;clear jy;replace b2:=am (av b2.out);replace b4:=am (av b4.out);replace HB:=am (au HB.out);refine mn 26 (fun w'=>w'.cell? ⟨b3,0,none⟩=some (.int .i64 ((af ag b1).f0))∧w'.cell? ⟨b3,1,none⟩=some (.int .i64 ((af ag b1).f1))∧w'.cell? ⟨b3,2,none⟩=some (.int .i64 ((af ag b1).f2))∧w'.cell? ⟨b3,3,none⟩=some (.slice b7 ((af ag b1).f3).length b8)∧w'.cell? ⟨b3,4,none⟩=some (.slice b9 ((af ag b1).f4).length bB)∧w'.cell? ⟨b3,5,none⟩=some (.slice bC ((af ag b1).f5).length bD)) br.qR br.nO oH (fun hHeld ax eF=> ?_);generalize w52.drew=zD at b2 b4 HB hHeld⊢;refine fS 0 28 ax eF hHeld ?_;refine kM 1 29 ax (fun K hK=> ?_);refine lG 29 Tryz.func116 (cI.calls k2 ((af ag b1).f0) ((af ag b1).f1) ((af ag b1).f2) _ _ ((af ag b1).f3) _ _ ((af ag b1).f4) _ _ ((af ag b1).f5) false _ (kC bN) bM.out (kC bP) bO.out (kC bR) bQ.out gK.out) ?_;rintro e zE ⟨rfl,hb⟩;refine⟨_,rfl,?_⟩;replace b2:=bj b2 hb;replace b4:=bj b4 hb;replace HB:=hB HB hb;refine eY hK 29 oH (fun hHeld=> ?_);clear hK K;refine bx 2 30 ax ?_;refine bx 3 31 ax ?_;refine gh 4 32 ax ?_;refine gh 5 33 ax ?_;refine gh 6 34 ax ?_;refine gh 7 35 ax ?_;refine gh 8 36 ax ?_;refine bx 9 37 ax ?_;refine bx 10 38 ax ?_;refine gh 11 39 ax ?_;refine gh 12 40 ax ?_;refine gh 13 41 ax ?_;refine gh 14 42 ax ?_;refine gh 15 43 ax ?_;refine gh 16 44 ax ?_;refine gh 17 45 ax ?_;refine gh 18 46 ax ?_;refine gh 19 47 ax ?_;refine gh 20 48 ax ?_;refine gh 21 49 ax ?_;refine gh 22 50 ax ?_;refine gh 23 51 ax ?_;refine gh 24 52 ax ?_;refine bx 25 53 ax ?_;refine lY ax ?_
      try go_wp2
      go_ret
      exact⟨oE,oB⟩
     replace H:=itH H;rcases H with⟨jQ,H⟩|⟨jQ,H⟩
     ·obtain rfl:=Option.some.inj H;obtain⟨⟨_,_⟩,_,_⟩:=z2 b2;have gM:(0≤(b1:Int))=True:=oT;have gN:(b1<(ag.length:Int))=True:=oT;obtain⟨b6,b7,b8,b9,bB,bC,bD,dJ,dK,dL,dM,dN,dO,dP,bM,bN,bO,bP,bQ,bR⟩:=ft bY HB b1 oa oa
      cases dJ
      try go_wp2_with (first|((with_reducible refine aj (N:=4) rfl ?_);refine dp 4 #[.int .i64 0,.int .i64 0,.int .i64 0,.slice none 0 0,.slice none 0 0,.slice none 0 0] 58 ?_;intro b3 hg mB hbox hb;have b4:=am (hbox);have dW:=dn hg;have bH:=eN hg b2;have bI:=eO hg b2;replace b2:=bj b2 hb;replace HB:=hB HB hb;clear hb hbox hg;have mO:=bI.out;have mP:=bH.out;obtain⟨⟨_,_,_,_,_,_⟩,_,_,_,_,_,_⟩:=z6 b4))
      generalize jy:((((((mB.setCell ⟨b3,0,none⟩ (.int .i64 ((af ag b1).f0))).setCell ⟨b3,1,none⟩ (.int .i64 ((af ag b1).f1))).setCell ⟨b3,2,none⟩ (.int .i64 ((af ag b1).f2))).setCell ⟨b3,3,none⟩ (.slice b7 ((af ag b1).f3).length b8)).setCell ⟨b3,4,none⟩ (.slice b9 ((af ag b1).f4).length bB)).setCell ⟨b3,5,none⟩ (.slice bC ((af ag b1).f5).length bD))=w19;replace b2:=vO jy b2;replace b4:=xz #[.int .i64 ((af ag b1).f0),.int .i64 ((af ag b1).f1),.int .i64 ((af ag b1).f2),.slice b7 ((af ag b1).f3).length b8,.slice b9 ((af ag b1).f4).length bB,.slice bC ((af ag b1).f5).length bD] jy b4;replace HB:=vS jy HB;clear jy;replace b2:=am (av b2.out);replace b4:=am (av b4.out);replace HB:=am (au HB.out);refine mn 26 (fun w'=>w'.cell? ⟨b3,0,none⟩=some (.int .i64 ((af ag b1).f0))∧w'.cell? ⟨b3,1,none⟩=some (.int .i64 ((af ag b1).f1))∧w'.cell? ⟨b3,2,none⟩=some (.int .i64 ((af ag b1).f2))∧w'.cell? ⟨b3,3,none⟩=some (.slice b7 ((af ag b1).f3).length b8)∧w'.cell? ⟨b3,4,none⟩=some (.slice b9 ((af ag b1).f4).length bB)∧w'.cell? ⟨b3,5,none⟩=some (.slice bC ((af ag b1).f5).length bD)∧w'.cell? ⟨bZ,0,none⟩=some (.slice (some b6) ag.length aW)∧w'.cell? ⟨bZ,1,none⟩=some (.int .i64 ak)) br.qR br.nO oH (fun hHeld ax eF=> ?_);generalize w19.drew=zF at b2 b4 HB hHeld⊢;refine fS 0 28 ax eF hHeld ?_;refine kM 1 29 ax (fun K hK=> ?_);refine lG 29 Tryz.func116 (cI.calls k2 ((af ag b1).f0) ((af ag b1).f1) ((af ag b1).f2) _ _ ((af ag b1).f3) _ _ ((af ag b1).f4) _ _ ((af ag b1).f5) true _ (kC bN) bM.out (kC bP) bO.out (kC bR) bQ.out gK.out) ?_;rintro e zG ⟨rfl,hb⟩;refine⟨_,rfl,?_⟩;replace b2:=bj b2 hb;replace b4:=bj b4 hb;replace HB:=hB HB hb;refine eY hK 29 oH (fun hHeld=> ?_);clear hK K;refine bx 2 30 ax ?_;refine bx 3 31 ax ?_;refine bx 4 32 ax ?_;refine bx 6 34 ax ?_;refine fS 5 33 ax eF hHeld ?_;refine fS 7 35 ax eF hHeld ?_;refine bx 8 36 ax ?_;refine bx 9 37 ax ?_;refine bx 10 38 ax ?_;refine gh 11 39 ax ?_;refine gh 12 40 ax ?_;refine gh 13 41 ax ?_;refine gh 14 42 ax ?_;refine gh 15 43 ax ?_;refine gh 16 44 ax ?_;refine gh 17 45 ax ?_;refine gh 18 46 ax ?_;refine gh 19 47 ax ?_;refine gh 20 48 ax ?_;refine gh 21 49 ax ?_;refine gh 22 50 ax ?_;refine gh 23 51 ax ?_;refine gh 24 52 ax ?_;refine bx 25 53 ax ?_;refine lY ax ?_
      try go_wp2
      go_ret
      exact⟨oE,oB⟩
     replace H:=itG H;rcases H with⟨jR,H⟩|⟨jR,H⟩;rotate_left
     ·have H':=ae.mk H;clear H;obtain⟨⟨_,_⟩,_,_⟩:=z2 b2;have gM:(0≤(b1:Int))=True:=oT;have gN:(b1<(ag.length:Int))=True:=oT;obtain⟨b6,b7,b8,b9,bB,bC,bD,dJ,dK,dL,dM,dN,dO,dP,bM,bN,bO,bP,bQ,bR⟩:=ft bY HB b1 oa oa
      cases dJ
      try go_wp2_with (first|((with_reducible refine aj (N:=4) rfl ?_);refine dp 4 #[.int .i64 0,.int .i64 0,.int .i64 0,.slice none 0 0,.slice none 0 0,.slice none 0 0] 58 ?_;intro b3 hg mC hbox hb;have b4:=am (hbox);have dW:=dn hg;have bH:=eN hg b2;have bI:=eO hg b2;replace b2:=bj b2 hb;replace HB:=hB HB hb;clear hb hbox hg;have mQ:=bI.out;have mS:=bH.out;obtain⟨⟨_,_,_,_,_,_⟩,_,_,_,_,_,_⟩:=z6 b4))
      generalize jy:((((((mC.setCell ⟨b3,0,none⟩ (.int .i64 ((af ag b1).f0))).setCell ⟨b3,1,none⟩ (.int .i64 ((af ag b1).f1))).setCell ⟨b3,2,none⟩ (.int .i64 ((af ag b1).f2))).setCell ⟨b3,3,none⟩ (.slice b7 ((af ag b1).f3).length b8)).setCell ⟨b3,4,none⟩ (.slice b9 ((af ag b1).f4).length bB)).setCell ⟨b3,5,none⟩ (.slice bC ((af ag b1).f5).length bD))=w45;replace b2:=vO jy b2;replace b4:=xz #[.int .i64 ((af ag b1).f0),.int .i64 ((af ag b1).f1),.int .i64 ((af ag b1).f2),.slice b7 ((af ag b1).f3).length b8,.slice b9 ((af ag b1).f4).length bB,.slice bC ((af ag b1).f5).length bD] jy b4;replace HB:=vS jy HB;clear jy;replace b2:=am (av b2.out);replace b4:=am (av b4.out);replace HB:=am (au HB.out);refine mn 26 (fun w'=>w'.cell? ⟨b3,0,none⟩=some (.int .i64 ((af ag b1).f0))∧w'.cell? ⟨b3,1,none⟩=some (.int .i64 ((af ag b1).f1))∧w'.cell? ⟨b3,2,none⟩=some (.int .i64 ((af ag b1).f2))∧w'.cell? ⟨b3,3,none⟩=some (.slice b7 ((af ag b1).f3).length b8)∧w'.cell? ⟨b3,4,none⟩=some (.slice b9 ((af ag b1).f4).length bB)∧w'.cell? ⟨b3,5,none⟩=some (.slice bC ((af ag b1).f5).length bD)∧w'.cell? ⟨bZ,0,none⟩=some (.slice (some b6) ag.length aW)∧w'.cell? ⟨bZ,1,none⟩=some (.int .i64 ak)) br.qR br.nO oH (fun hHeld ax eF=> ?_);generalize w45.drew=zH at b2 b4 HB hHeld⊢;refine fS 0 28 ax eF hHeld ?_;refine kM 1 29 ax (fun K hK=> ?_);refine lG 29 Tryz.func116 (cI.calls k2 ((af ag b1).f0) ((af ag b1).f1) ((af ag b1).f2) _ _ ((af ag b1).f3) _ _ ((af ag b1).f4) _ _ ((af ag b1).f5) true _ (kC bN) bM.out (kC bP) bO.out (kC bR) bQ.out gK.out) ?_;rintro e zI ⟨rfl,hb⟩;refine⟨_,rfl,?_⟩;replace b2:=bj b2 hb;replace b4:=bj b4 hb;replace HB:=hB HB hb;refine eY hK 29 oH (fun hHeld=> ?_);clear hK K;refine bx 2 30 ax ?_;refine bx 3 31 ax ?_;refine bx 4 32 ax ?_;refine bx 6 34 ax ?_;refine fS 5 33 ax eF hHeld ?_;refine fS 7 35 ax eF hHeld ?_;refine bx 8 36 ax ?_;refine bx 9 37 ax ?_;refine bx 10 38 ax ?_;refine bx 11 39 ax ?_;refine bx 12 40 ax ?_;refine bx 13 41 ax ?_;refine gh 14 42 ax ?_;refine gh 15 43 ax ?_;refine gh 16 44 ax ?_;refine gh 17 45 ax ?_;refine gh 18 46 ax ?_;refine gh 19 47 ax ?_;refine gh 20 48 ax ?_;refine gh 21 49 ax ?_;refine gh 22 50 ax ?_;refine gh 23 51 ax ?_;refine bx 24 52 ax ?_;refine bx 25 53 ax ?_;refine lY ax ?_
      try go_wp2
      go_roundg k2
      case measure=>have:=gT.out;have:=gU.out;omega
      case rel=>exact⟨(wrap64 (b1+1)),oS,H',⟨by have:=gT.out;have:=gU.out;omega⟩,⟨oF b2⟩,⟨oB⟩⟩
     obtain⟨b5,dS⟩:∃j_:Int,(wrap64 (b1-1))=j_:=⟨_,rfl⟩
     replace H:(if 0≤(b5)then(if(b5)<(ag.length:Int)then(if((af ag (b5)).f0)≥((af ag b1).f0)then(some false)else(br.l0 k2 (wrap64 (b1+1)) ag ak))else(none))else(none))=some r:=by first|(rw[dS]at H;exact H)|(simp only[dS]at H⊢;exact H)
     (try rw[dS]at gK)
     have mD:(IntKind.i64.wrap (b1-1))=b5:=(fZ _).trans dS;obtain⟨mT,H⟩:=cX H;obtain⟨mU,H⟩:=cX H;replace H:=itH H;rcases H with⟨jS,H⟩|⟨jS,H⟩;rotate_left
     ·have H':=ae.mk H;clear H;obtain⟨⟨_,_⟩,_,_⟩:=z2 b2;have gM:(0≤(b1:Int))=True:=oT;have gN:(b1<(ag.length:Int))=True:=oT;obtain⟨b6,b7,b8,b9,bB,bC,bD,dJ,dK,dL,dM,dN,dO,dP,bM,bN,bO,bP,bQ,bR⟩:=ft bY HB b1 oa oa
      cases dJ
      try go_wp2_with (first|((with_reducible refine aj (N:=4) rfl ?_);refine dp 4 #[.int .i64 0,.int .i64 0,.int .i64 0,.slice none 0 0,.slice none 0 0,.slice none 0 0] 58 ?_;intro b3 hg mE hbox hb;have b4:=am (hbox);have dW:=dn hg;have bH:=eN hg b2;have bI:=eO hg b2;replace b2:=bj b2 hb;replace HB:=hB HB hb;clear hb hbox hg;have mV:=bI.out;have mW:=bH.out;obtain⟨⟨_,_,_,_,_,_⟩,_,_,_,_,_,_⟩:=z6 b4))
      generalize jy:((((((mE.setCell ⟨b3,0,none⟩ (.int .i64 ((af ag b1).f0))).setCell ⟨b3,1,none⟩ (.int .i64 ((af ag b1).f1))).setCell ⟨b3,2,none⟩ (.int .i64 ((af ag b1).f2))).setCell ⟨b3,3,none⟩ (.slice b7 ((af ag b1).f3).length b8)).setCell ⟨b3,4,none⟩ (.slice b9 ((af ag b1).f4).length bB)).setCell ⟨b3,5,none⟩ (.slice bC ((af ag b1).f5).length bD))=w38;replace b2:=vO jy b2;replace b4:=xz #[.int .i64 ((af ag b1).f0),.int .i64 ((af ag b1).f1),.int .i64 ((af ag b1).f2),.slice b7 ((af ag b1).f3).length b8,.slice b9 ((af ag b1).f4).length bB,.slice bC ((af ag b1).f5).length bD] jy b4;replace HB:=vS jy HB;clear jy;replace b2:=am (av b2.out);replace b4:=am (av b4.out);replace HB:=am (au HB.out);have jU:(0≤((b5):Int))=True:=oT;have jV:((b5)<(ag.length:Int))=True:=oT;obtain⟨gO,dY,dZ,gA,gB,gC,gD,gS,bS,bT,bU,bV,bW,bX,dD,dE,dF,dG,dH,dI⟩:=fy bY.out (b5) oa oa;have j4:=bX;have j5:=bW;have j6:=bV;have j7:=bU;have j8:=bT;have j9:=bS;obtain rfl:b6=gO:=(by injection gS);replace bS:=cB HB bS;replace bT:=cB HB bT;replace bU:=cB HB bU;replace bV:=cB HB bV;replace bW:=cB HB bW;replace bX:=cB HB bX;have dT:=ae.mk dE;have jA:=ae.mk dD;clear dE dD;have dU:=ae.mk dG;have jB:=ae.mk dF;clear dG dF;have dV:=ae.mk dI;have jC:=ae.mk dH;clear dI dH;refine mn 26 (fun w'=>w'.cell? ⟨b3,0,none⟩=some (.int .i64 ((af ag b1).f0))∧w'.cell? ⟨b3,1,none⟩=some (.int .i64 ((af ag b1).f1))∧w'.cell? ⟨b3,2,none⟩=some (.int .i64 ((af ag b1).f2))∧w'.cell? ⟨b3,3,none⟩=some (.slice b7 ((af ag b1).f3).length b8)∧w'.cell? ⟨b3,4,none⟩=some (.slice b9 ((af ag b1).f4).length bB)∧w'.cell? ⟨b3,5,none⟩=some (.slice bC ((af ag b1).f5).length bD)∧w'.cell? ⟨bZ,0,none⟩=some (.slice (some b6) ag.length aW)∧w'.cell? ⟨bZ,1,none⟩=some (.int .i64 ak)∧w'.cell? (b6.add (((b5)).toNat*6))=some (.int .i64 ((af ag (b5)).f0))∧w'.cell? ⟨(b6.add (((b5)).toNat*6)).block,(b6.add (((b5)).toNat*6)).off+1,none⟩=some (.int .i64 ((af ag (b5)).f1))∧w'.cell? ⟨(b6.add (((b5)).toNat*6)).block,(b6.add (((b5)).toNat*6)).off+2,none⟩=some (.int .i64 ((af ag (b5)).f2))∧w'.cell? ⟨(b6.add (((b5)).toNat*6)).block,(b6.add (((b5)).toNat*6)).off+3,none⟩=some (.slice dY ((af ag (b5)).f3).length dZ)∧w'.cell? ⟨(b6.add (((b5)).toNat*6)).block,(b6.add (((b5)).toNat*6)).off+4,none⟩=some (.slice gA ((af ag (b5)).f4).length gB)∧w'.cell? ⟨(b6.add (((b5)).toNat*6)).block,(b6.add (((b5)).toNat*6)).off+5,none⟩=some (.slice gC ((af ag (b5)).f5).length gD)) br.qR br.nO oH (fun hHeld ax eF=> ?_);generalize w38.drew=zJ at b2 b4 HB dT dU dV bS bT bU bV bW bX hHeld⊢;refine fS 0 28 ax eF hHeld ?_;refine kM 1 29 ax (fun K hK=> ?_);refine lG 29 Tryz.func116 (cI.calls k2 ((af ag b1).f0) ((af ag b1).f1) ((af ag b1).f2) _ _ ((af ag b1).f3) _ _ ((af ag b1).f4) _ _ ((af ag b1).f5) true _ (kC bN) bM.out (kC bP) bO.out (kC bR) bQ.out gK.out) ?_;rintro e zK ⟨rfl,hb⟩;refine⟨_,rfl,?_⟩;replace b2:=bj b2 hb;replace b4:=bj b4 hb;replace HB:=hB HB hb;refine eY hK 29 oH (fun hHeld=> ?_);clear hK K;refine bx 2 30 ax ?_;refine bx 3 31 ax ?_;refine bx 4 32 ax ?_;refine bx 6 34 ax ?_;refine fS 5 33 ax eF hHeld ?_;refine fS 7 35 ax eF hHeld ?_;refine bx 8 36 ax ?_;refine bx 9 37 ax ?_;refine bx 10 38 ax ?_;refine bx 11 39 ax ?_;refine bx 12 40 ax ?_;refine bx 13 41 ax ?_;refine bx 14 42 ax ?_;refine bx 16 44 ax ?_;refine bx 17 45 ax ?_;refine bx 21 49 ax ?_;refine fS 15 43 ax eF hHeld ?_;refine bx 18 46 ax ?_;refine bx 19 47 ax ?_;refine fS 20 48 ax eF hHeld ?_;refine fS 22 50 ax eF hHeld ?_;refine bx 23 51 ax ?_;refine bx 24 52 ax ?_;refine bx 25 53 ax ?_;refine lY ax ?_
      try go_wp2
      go_roundg k2
      case measure=>have:=gT.out;have:=gU.out;omega
      case rel=>exact⟨(wrap64 (b1+1)),oS,H',⟨by have:=gT.out;have:=gU.out;omega⟩,⟨oF b2⟩,⟨oB⟩⟩
     obtain rfl:=Option.some.inj H;obtain⟨⟨_,_⟩,_,_⟩:=z2 b2;have gM:(0≤(b1:Int))=True:=oT;have gN:(b1<(ag.length:Int))=True:=oT;obtain⟨b6,b7,b8,b9,bB,bC,bD,dJ,dK,dL,dM,dN,dO,dP,bM,bN,bO,bP,bQ,bR⟩:=ft bY HB b1 oa oa
     cases dJ
     try go_wp2_with (first|((with_reducible refine aj (N:=4) rfl ?_);refine dp 4 #[.int .i64 0,.int .i64 0,.int .i64 0,.slice none 0 0,.slice none 0 0,.slice none 0 0] 58 ?_;intro b3 hg mF hbox hb;have b4:=am (hbox);have dW:=dn hg;have bH:=eN hg b2;have bI:=eO hg b2;replace b2:=bj b2 hb;replace HB:=hB HB hb;clear hb hbox hg;have mX:=bI.out;have mY:=bH.out;obtain⟨⟨_,_,_,_,_,_⟩,_,_,_,_,_,_⟩:=z6 b4))
     generalize jy:((((((mF.setCell ⟨b3,0,none⟩ (.int .i64 ((af ag b1).f0))).setCell ⟨b3,1,none⟩ (.int .i64 ((af ag b1).f1))).setCell ⟨b3,2,none⟩ (.int .i64 ((af ag b1).f2))).setCell ⟨b3,3,none⟩ (.slice b7 ((af ag b1).f3).length b8)).setCell ⟨b3,4,none⟩ (.slice b9 ((af ag b1).f4).length bB)).setCell ⟨b3,5,none⟩ (.slice bC ((af ag b1).f5).length bD))=w31;replace b2:=vO jy b2;replace b4:=xz #[.int .i64 ((af ag b1).f0),.int .i64 ((af ag b1).f1),.int .i64 ((af ag b1).f2),.slice b7 ((af ag b1).f3).length b8,.slice b9 ((af ag b1).f4).length bB,.slice bC ((af ag b1).f5).length bD] jy b4;replace HB:=vS jy HB;clear jy;replace b2:=am (av b2.out);replace b4:=am (av b4.out);replace HB:=am (au HB.out);have jU:(0≤((b5):Int))=True:=oT;have jV:((b5)<(ag.length:Int))=True:=oT;obtain⟨gO,dY,dZ,gA,gB,gC,gD,gS,bS,bT,bU,bV,bW,bX,dD,dE,dF,dG,dH,dI⟩:=fy bY.out (b5) oa oa;have j4:=bX;have j5:=bW;have j6:=bV;have j7:=bU;have j8:=bT;have j9:=bS;obtain rfl:b6=gO:=(by injection gS);replace bS:=cB HB bS;replace bT:=cB HB bT;replace bU:=cB HB bU;replace bV:=cB HB bV;replace bW:=cB HB bW;replace bX:=cB HB bX;have dT:=ae.mk dE;have jA:=ae.mk dD;clear dE dD;have dU:=ae.mk dG;have jB:=ae.mk dF;clear dG dF;have dV:=ae.mk dI;have jC:=ae.mk dH;clear dI dH;refine mn 26 (fun w'=>w'.cell? ⟨b3,0,none⟩=some (.int .i64 ((af ag b1).f0))∧w'.cell? ⟨b3,1,none⟩=some (.int .i64 ((af ag b1).f1))∧w'.cell? ⟨b3,2,none⟩=some (.int .i64 ((af ag b1).f2))∧w'.cell? ⟨b3,3,none⟩=some (.slice b7 ((af ag b1).f3).length b8)∧w'.cell? ⟨b3,4,none⟩=some (.slice b9 ((af ag b1).f4).length bB)∧w'.cell? ⟨b3,5,none⟩=some (.slice bC ((af ag b1).f5).length bD)∧w'.cell? ⟨bZ,0,none⟩=some (.slice (some b6) ag.length aW)∧w'.cell? ⟨bZ,1,none⟩=some (.int .i64 ak)∧w'.cell? (b6.add (((b5)).toNat*6))=some (.int .i64 ((af ag (b5)).f0))∧w'.cell? ⟨(b6.add (((b5)).toNat*6)).block,(b6.add (((b5)).toNat*6)).off+1,none⟩=some (.int .i64 ((af ag (b5)).f1))∧w'.cell? ⟨(b6.add (((b5)).toNat*6)).block,(b6.add (((b5)).toNat*6)).off+2,none⟩=some (.int .i64 ((af ag (b5)).f2))∧w'.cell? ⟨(b6.add (((b5)).toNat*6)).block,(b6.add (((b5)).toNat*6)).off+3,none⟩=some (.slice dY ((af ag (b5)).f3).length dZ)∧w'.cell? ⟨(b6.add (((b5)).toNat*6)).block,(b6.add (((b5)).toNat*6)).off+4,none⟩=some (.slice gA ((af ag (b5)).f4).length gB)∧w'.cell? ⟨(b6.add (((b5)).toNat*6)).block,(b6.add (((b5)).toNat*6)).off+5,none⟩=some (.slice gC ((af ag (b5)).f5).length gD)) br.qR br.nO oH (fun hHeld ax eF=> ?_);generalize w31.drew=zL at b2 b4 HB dT dU dV bS bT bU bV bW bX hHeld⊢;refine fS 0 28 ax eF hHeld ?_;refine kM 1 29 ax (fun K hK=> ?_);refine lG 29 Tryz.func116 (cI.calls k2 ((af ag b1).f0) ((af ag b1).f1) ((af ag b1).f2) _ _ ((af ag b1).f3) _ _ ((af ag b1).f4) _ _ ((af ag b1).f5) true _ (kC bN) bM.out (kC bP) bO.out (kC bR) bQ.out gK.out) ?_;rintro e zM ⟨rfl,hb⟩;refine⟨_,rfl,?_⟩;replace b2:=bj b2 hb;replace b4:=bj b4 hb;replace HB:=hB HB hb;refine eY hK 29 oH (fun hHeld=> ?_);clear hK K;refine bx 2 30 ax ?_;refine bx 3 31 ax ?_;refine bx 4 32 ax ?_;refine bx 6 34 ax ?_;refine fS 5 33 ax eF hHeld ?_;refine fS 7 35 ax eF hHeld ?_;refine bx 8 36 ax ?_;refine bx 9 37 ax ?_;refine bx 10 38 ax ?_;refine bx 11 39 ax ?_;refine bx 12 40 ax ?_;refine bx 13 41 ax ?_;refine bx 14 42 ax ?_;refine bx 16 44 ax ?_;refine bx 17 45 ax ?_;refine bx 21 49 ax ?_;refine fS 15 43 ax eF hHeld ?_;refine bx 18 46 ax ?_;refine bx 19 47 ax ?_;refine fS 20 48 ax eF hHeld ?_;refine fS 22 50 ax eF hHeld ?_;refine bx 23 51 ax ?_;refine bx 24 52 ax ?_;refine bx 25 53 ax ?_;refine lY ax ?_
     try go_wp2
     go_ret
     exact⟨by first|rfl|(simp[eC,eD]<;>rfl)|(simp only[←dS];first|rfl|(simp[eC,eD]<;>rfl))|(simp[*,eC,eD]<;>rfl),oB⟩
end Go.Proofs.YtlecajlnjmbilaaGreatDoor.P
