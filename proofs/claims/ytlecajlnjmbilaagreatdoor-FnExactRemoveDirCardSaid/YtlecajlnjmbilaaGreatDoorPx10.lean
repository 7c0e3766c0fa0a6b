-- Printed walks.
import Derived.Test.YtlecajlnjmbilaaGreatDoorPx7
import Derived.Test.YtlecajlnjmbilaaGreatDoorPx9
set_option linter.all false
set_option maxHeartbeats 8000000
set_option maxRecDepth 100000
namespace Go.Proofs.YtlecajlnjmbilaaGreatDoor.P
open Go.RowKit Go.Proofs.ab.ao Go.Proofs.ab.aE Go.Proofs.ab.aI
attribute [local go_sem] fV fW im iq fh fi fX fY

mutual
def bq.j0:Nat→Bool→List (aZ)→Int→Option (Bool)
 |0,_,_,_=>none
 |k+1,b3,b1,b2=>if b3=true then(some false)else(bq.l0 k b1 (b1.length:Int) 0 b1 b2)
def bq.l0:Nat→List (aZ)→Int→Int→List (aZ)→Int→Option (Bool)
 |0,_,_,_,_,_=>none
 |k+1,b3,b6,b1,b2,b4=>if b1<b6 then(if 0≤b1 then(if b1<(b3.length:Int)then((bh.f k ((af b3 b1).f0) ((af b3 b1).f1) ((af b3 b1).f2) ((af b3 b1).f3) ((af b3 b1).f4) ((af b3 b1).f5)).bind fun b7=>(if b7=true then(if((af b3 b1).f0)≥b4 then(some false)else(if b1>0 then(if 0≤(wrap64 (b1-1))then(if(wrap64 (b1-1))<(b2.length:Int)then(if((af b2 (wrap64 (b1-1))).f0)≥((af b3 b1).f0)then(some false)else(bq.l0 k b3 b6 (wrap64 (b1+1)) b2 b4))else(none))else(none))else(bq.l0 k b3 b6 (wrap64 (b1+1)) b2 b4)))else(some false)))else(none))else(none))else((cO.f k b2 b4 1).bind fun b5=>(if b5.2.2.2.2.2.2=true then(some (b5.2.1==2))else(some false)))
end
def bq.f (k:Nat) (ag:List (aZ)) (ak:Int):Option (Bool):=if(ag.length:Int)>30 then(bq.j0 k true ag ak)else((bs.f ak 2 1000).bind fun b1=>(bq.j0 k (!b1) ag ak))
def bq.T6:Bool×List (List Nat×List Nat):=(true,[([],[]),([0],[0]),([1],[1]),([2,1],[2]),([3],[3]),([4,3],[3,4]),([3],[3]),([6,3],[3,6]),([5,7,3],[3,5,7]),([3,8],[3,8]),([9,3],[9]),([10],[10]),([11,10],[10,11]),([12,10,10],[10,12]),([13],[13]),([14,13],[13,14]),([13],[13]),([16,13],[13,16]),([15,17,13],[13,15,17]),([18,13],[13,18]),([19,13],[13,19]),([13],[13]),([21,13],[13,21]),([20,22,13],[13,20,22]),([13,23,10],[10,13,23]),([10,24],[10,24])])
def bq.B6:List Nat:=[0,1,3,7,15,31,15,79,255,511,1023,2047,4095,8191,16383,32767,16383,81919,262143,524287,1048575,16383,2113535,8388607,16777215,33554431]
theorem bq.tab6:gy .any (opsOf Tryz.f123 6)=bq.T6:=by kernel_rfl
theorem bq.lP:eR bq.T6.2 bq.B6=true:=by kernel_rfl
theorem bq.calls (k:Nat) (bl:Option Addr) (aW:Nat) (ag:List (aZ)) (ak:Int) (r:Bool) (w:World) (cg:Kd.C fv w bl ag.length ag) (ch:ag.length≤aW) (h:bq.f k ag ak=some r):
  Calls Tryz.prog 123 #[.agg #[.slice bl ag.length aW,.int .i64 ak]] w fun e w'=>e= .returned (.bool r)∧Below w.heap.size w w':=by
 have m5:=Tryz.underlying28;have m6:=Tryz.underlying58;have bT:=ae.mk cg;have dY:=ae.mk ch;clear cg ch;have HB:=am (Below.refl w.heap.size w);unfold bq.f at h;have H:=h;clear h;have gK:=ae.mk H;clear H
 go_enter Tryz.func123,Tryz.ntmps123
 go_upto_region 1 with(first|((with_reducible refine aj (N:=1) rfl ?_);refine dp 1 #[.slice bl ag.length aW,.int .i64 ak] 28 ?_;intro bS hg w3 hbox hb;have b2:=am (hbox);have jL:=dn hg;replace HB:=hB HB hb;clear hb hbox hg))
 (try simp only[Act.put,List.setIfInBounds_toArray,List.set_cons_zero,List.set_cons_succ])
 go_cut [16] (fun jD wc=>∃(kq:Nat) (dQ:Bool),jD= .bool dQ∧ae (bq.j0 kq dQ ag ak=some r)∧ae (kq≤k)∧ae (wc.heap[bS]? =some (.cells #[(.slice bl ag.length aW),.int .i64 ak] 28 (0,0)))∧ae (Below w.heap.size w wc))
 case first=>
  have H:=gK.out;clear gK
  by_cases c4:(ag.length:Int)>30
  ·rw[if_pos c4]at H;have dI:decide (30<(ag.length:Int))=true:=decide_eq_true c4;have j1:decide (30<ag.length)=true:=decide_eq_true (by omega);clear c4
   (first|rw[dI]|rw[adu]|(simp only[fZ,iX];rw[dI])|skip)
   have H':=ae.mk H;clear H;obtain⟨⟨_,_⟩,_,_⟩:=z2 b2
   go_wp2
   go_meet
   case rel=>exact⟨_,(true),oS,H',⟨by first|omega|exact Nat.le_refl _⟩,⟨oF b2⟩,⟨oB⟩⟩
  rw[if_neg c4]at H;have dI:decide (30<(ag.length:Int))=false:=decide_eq_false c4;have j1:decide (30<ag.length)=false:=decide_eq_false (by omega);clear c4
  (first|rw[dI]|rw[adu]|(simp only[fZ,iX];rw[dI])|skip)
  replace H:=bA H;obtain⟨gL,A6,H⟩:=H
  try dsimp only at H
  have H':=ae.mk H;clear H;obtain⟨⟨_,_⟩,_,_⟩:=z2 b2
  go_wp2_with (first|(go_at_call 61;(with_reducible refine(bs.calls ak 2 1000 gL _ A6.out).mono ?_);rintro e w' ⟨rfl,⟨nd,rfl⟩⟩))
  go_meet
  case rel=>exact⟨_,(!gL),oS,H',⟨by first|omega|exact Nat.le_refl _⟩,⟨oF b2⟩,⟨oB⟩⟩
 case rest=>
  clear gK;obtain⟨kq,dQ,rfl,HA,dZ,b2,HB⟩:=hcut
  cases kq with
  |zero=>exact absurd HA.out (by simp[bq.j0])
  |succ wE=>
   have H:=HA.out;clear HA;simp only[bq.j0]at H;replace H:=ll H;rcases H with⟨rfl,H⟩|⟨rfl,H⟩
   ·obtain rfl:=Option.some.inj H
    go_wp2
    go_ret
    exact⟨oE,oB⟩
   have H':=ae.mk H;clear H;obtain⟨⟨_,_⟩,_,_⟩:=z2 b2
   go_wp2
   go_loopg [20] wE (fun kq jE w'=>∃(b1:Int),jE= .int .i64 b1∧ae (bq.l0 kq ag (ag.length:Int) b1 ag ak=some r)∧ae (kq≤wE)∧ae (w'.heap[bS]? =some (.cells #[(.slice bl ag.length aW),.int .i64 ak] 28 (0,0)))∧ae (Below w.heap.size w w'))
   case atStart=>exact⟨(0),oS,H',⟨Nat.le_refl _⟩,⟨oF b2⟩,⟨oB⟩⟩
   case round=>
    clear H';obtain⟨b1,rfl,HA,gA,b2,HB⟩:=hrel
    cases gk with
    |zero=>exact absurd HA.out (by simp[bq.l0])
    |succ k2=>
     have H:=HA.out;clear HA;simp only[bq.l0]at H;replace H:=jd H;rcases H with⟨gT,H⟩|⟨gT,H⟩;rotate_left
     ·replace H:=bA H;obtain⟨⟨gM,gN,gO,gP,gQ,gR,m7⟩,gZ,H⟩:=H
      try dsimp only at H
      replace H:=ll H;rcases H with⟨rfl,H⟩|⟨rfl,H⟩
      ·obtain rfl:=Option.some.inj H;obtain⟨⟨_,_⟩,_,_⟩:=z2 b2
       go_wp2_with (first|((with_reducible refine ai (f:=91) rfl ?_);refine eL 54 Tryz.func91 (cO.calls k2 _ _ ag ak 1 gM gN gO gP gQ gR true _ (kC bT) dY.out gZ.out) ?_;rintro e mL ⟨j2,j3,j4,rfl,gS,dV,dW,hb⟩;refine⟨_,rfl,?_⟩;have d1:=am (Kd.ar gS (ah oB));have d2:=am (Kd.ar dV (ah oB));have d3:=am (Kd.ar dW (ah oB));replace b2:=bj b2 hb;replace HB:=hB HB hb;(try clear dV);(try clear dW))|((with_reducible refine aj (N:=5) rfl ?_);refine dp 5 #[.int .i64 0,.int .i64 0,.int .i64 0,.slice none 0 0,.slice none 0 0,.slice none 0 0] 58 ?_;intro gU hg mM hbox hb;have dR:=am (hbox);have gV:=dn hg;have d5:=eN hg b2;have d6:=eO hg b2;replace d1:=ga d1 hb;replace d2:=ga d2 hb;replace d3:=ga d3 hb;replace b2:=bj b2 hb;replace HB:=hB HB hb;clear hb hbox hg;have jM:=d6.out;have jN:=d5.out;obtain⟨⟨_,_,_,_,_,_⟩,_,_,_,_,_,_⟩:=z6 dR;obtain⟨m8,m9,j5⟩:=Kd.aw d1.out;subst j5;obtain⟨mA,mB,j6⟩:=Kd.aw d2.out;subst j6;obtain⟨mC,mD,j7⟩:=Kd.aw d3.out;subst j7))
       go_ret
       exact⟨oE,oB⟩
      obtain rfl:=Option.some.inj H;obtain⟨⟨_,_⟩,_,_⟩:=z2 b2
      go_wp2_with (first|((with_reducible refine ai (f:=91) rfl ?_);refine eL 54 Tryz.func91 (cO.calls k2 _ _ ag ak 1 gM gN gO gP gQ gR false _ (kC bT) dY.out gZ.out) ?_;rintro e mN ⟨j2,j3,j4,rfl,gS,dV,dW,hb⟩;refine⟨_,rfl,?_⟩;have d1:=am (Kd.ar gS (ah oB));have d2:=am (Kd.ar dV (ah oB));have d3:=am (Kd.ar dW (ah oB));replace b2:=bj b2 hb;replace HB:=hB HB hb;(try clear dV);(try clear dW))|((with_reducible refine aj (N:=5) rfl ?_);refine dp 5 #[.int .i64 0,.int .i64 0,.int .i64 0,.slice none 0 0,.slice none 0 0,.slice none 0 0] 58 ?_;intro gU hg mO hbox hb;have dR:=am (hbox);have gV:=dn hg;have d5:=eN hg b2;have d6:=eO hg b2;replace d1:=ga d1 hb;replace d2:=ga d2 hb;replace d3:=ga d3 hb;replace b2:=bj b2 hb;replace HB:=hB HB hb;clear hb hbox hg;have jO:=d6.out;have jP:=d5.out;obtain⟨⟨_,_,_,_,_,_⟩,_,_,_,_,_,_⟩:=z6 dR;obtain⟨mE,mF,j8⟩:=Kd.aw d1.out;subst j8;obtain⟨mG,mH,j9⟩:=Kd.aw d2.out;subst j9;obtain⟨mI,mJ,jA⟩:=Kd.aw d3.out;subst jA))
      go_ret
      exact⟨oE,oB⟩
     obtain⟨jQ,H⟩:=cX H;obtain⟨jR,H⟩:=cX H;replace H:=bA H;obtain⟨mK,dP,H⟩:=H
     try dsimp only at H
     replace H:=ll H;rcases H with⟨rfl,H⟩|⟨rfl,H⟩;rotate_left
     ·obtain rfl:=Option.some.inj H;have dS:(0≤(b1:Int))=True:=oT;have dT:(b1<(ag.length:Int))=True:=oT;obtain⟨b6,b7,b8,b9,bB,bC,bD,d4,d7,d8,d9,dA,dB,dC,bG,bH,bI,bJ,bK,bL⟩:=ft bT HB b1 oa oa
      cases d4
      try go_wp2_with (first|((with_reducible refine aj (N:=4) rfl ?_);refine dp 4 #[.int .i64 0,.int .i64 0,.int .i64 0,.slice none 0 0,.slice none 0 0,.slice none 0 0] 58 ?_;intro b3 hg jF hbox hb;have b4:=am (hbox);have dH:=dn hg;have bE:=eN hg b2;have bF:=eO hg b2;replace b2:=bj b2 hb;replace HB:=hB HB hb;clear hb hbox hg;have jS:=bF.out;have jT:=bE.out;obtain⟨⟨_,_,_,_,_,_⟩,_,_,_,_,_,_⟩:=z6 b4))
      generalize jy:((((((jF.setCell ⟨b3,0,none⟩ (.int .i64 ((af ag b1).f0))).setCell ⟨b3,1,none⟩ (.int .i64 ((af ag b1).f1))).setCell ⟨b3,2,none⟩ (.int .i64 ((af ag b1).f2))).setCell ⟨b3,3,none⟩ (.slice b7 ((af ag b1).f3).length b8)).setCell ⟨b3,4,none⟩ (.slice b9 ((af ag b1).f4).length bB)).setCell ⟨b3,5,none⟩ (.slice bC ((af ag b1).f5).length bD))=w48;replace b2:=vO jy b2;replace b4:=xz #[.int .i64 ((af ag b1).f0),.int .i64 ((af ag b1).f1),.int .i64 ((af ag b1).f2),.slice b7 ((af ag b1).f3).length b8,.slice b9 ((af ag b1).f4).length bB,.slice bC ((af ag b1).f5).length bD] jy b4;replace HB:=vS jy HB;clear jy;replace b2:=am (av b2.out);replace b4:=am (av b4.out);replace HB:=am (au HB.out);refine mn 26 (fun w'=>w'.cell? ⟨b3,0,none⟩=some (.int .i64 ((af ag b1).f0))∧w'.cell? ⟨b3,1,none⟩=some (.int .i64 ((af ag b1).f1))∧w'.cell? ⟨b3,2,none⟩=some (.int .i64 ((af ag b1).f2))∧w'.cell? ⟨b3,3,none⟩=some (.slice b7 ((af ag b1).f3).length b8)∧w'.cell? ⟨b3,4,none⟩=some (.slice b9 ((af ag b1).f4).length bB)∧w'.cell? ⟨b3,5,none⟩=some (.slice bC ((af ag b1).f5).length bD)) bq.tab6 bq.lP oH (fun hHeld ax eF=> ?_);generalize w48.drew=mP at b2 b4 HB hHeld⊢;refine fS 0 25 ax eF hHeld ?_;refine kM 1 26 ax (fun K hK=> ?_);refine lG 26 Tryz.func145 (bh.calls k2 ((af ag b1).f0) ((af ag b1).f1) ((af ag b1).f2) _ _ ((af ag b1).f3) _ _ ((af ag b1).f4) _ _ ((af ag b1).f5) false _ (kC bH) bG.out (kC bJ) bI.out (kC bL) bK.out dP.out) ?_;rintro e mQ ⟨rfl,hb⟩;refine⟨_,rfl,?_⟩;replace b2:=bj b2 hb;replace b4:=bj b4 hb;replace HB:=hB HB hb;refine eY hK 26 oH (fun hHeld=> ?_);clear hK K;refine bx 2 27 ax ?_;refine bx 3 28 ax ?_;refine gh 4 29 ax ?_;refine gh 5 30 ax ?_;refine gh 6 31 ax ?_;refine gh 7 32 ax ?_;refine gh 8 33 ax ?_;refine bx 9 34 ax ?_;refine bx 10 35 ax ?_;refine gh 11 36 ax ?_;refine gh 12 37 ax ?_;refine gh 13 38 ax ?_;refine gh 14 39 ax ?_;refine gh 15 40 ax ?_;refine gh 16 41 ax ?_;refine gh 17 42 ax ?_;refine gh 18 43 ax ?_;refine gh 19 44 ax ?_;refine gh 20 45 ax ?_;refine gh 21 46 ax ?_;refine gh 22 47 ax ?_;refine gh 23 48 ax ?_;refine gh 24 49 ax ?_;refine bx 25 50 ax ?_;refine lY ax ?_
      try go_wp2
      go_ret
      exact⟨oE,oB⟩
     replace H:=itH H;rcases H with⟨gW,H⟩|⟨gW,H⟩
     ·obtain rfl:=Option.some.inj H;have dS:(0≤(b1:Int))=True:=oT;have dT:(b1<(ag.length:Int))=True:=oT;obtain⟨b6,b7,b8,b9,bB,bC,bD,d4,d7,d8,d9,dA,dB,dC,bG,bH,bI,bJ,bK,bL⟩:=ft bT HB b1 oa oa
      cases d4
      try go_wp2_with (first|((with_reducible refine aj (N:=4) rfl ?_);refine dp 4 #[.int .i64 0,.int .i64 0,.int .i64 0,.slice none 0 0,.slice none 0 0,.slice none 0 0] 58 ?_;intro b3 hg jG hbox hb;have b4:=am (hbox);have dH:=dn hg;have bE:=eN hg b2;have bF:=eO hg b2;replace b2:=bj b2 hb;replace HB:=hB HB hb;clear hb hbox hg;have jU:=bF.out;have jV:=bE.out;obtain⟨⟨_,_,_,_,_,_⟩,_,_,_,_,_,_⟩:=z6 b4))
      generalize jy:((((((jG.setCell ⟨b3,0,none⟩ (.int .i64 ((af ag b1).f0))).setCell ⟨b3,1,none⟩ (.int .i64 ((af ag b1).f1))).setCell ⟨b3,2,none⟩ (.int .i64 ((af ag b1).f2))).setCell ⟨b3,3,none⟩ (.slice b7 ((af ag b1).f3).length b8)).setCell ⟨b3,4,none⟩ (.slice b9 ((af ag b1).f4).length bB)).setCell ⟨b3,5,none⟩ (.slice bC ((af ag b1).f5).length bD))=w19;replace b2:=vO jy b2;replace b4:=xz #[.int .i64 ((af ag b1).f0),.int .i64 ((af ag b1).f1),.int .i64 ((af ag b1).f2),.slice b7 ((af ag b1).f3).length b8,.slice b9 ((af ag b1).f4).length bB,.slice bC ((af ag b1).f5).length bD] jy b4;replace HB:=vS jy HB;clear jy;replace b2:=am (av b2.out);replace b4:=am (av b4.out);replace HB:=am (au HB.out);refine mn 26 (fun w'=>w'.cell? ⟨b3,0,none⟩=some (.int .i64 ((af ag b1).f0))∧w'.cell? ⟨b3,1,none⟩=some (.int .i64 ((af ag b1).f1))∧w'.cell? ⟨b3,2,none⟩=some (.int .i64 ((af ag b1).f2))∧w'.cell? ⟨b3,3,none⟩=some (.slice b7 ((af ag b1).f3).length b8)∧w'.cell? ⟨b3,4,none⟩=some (.slice b9 ((af ag b1).f4).length bB)∧w'.cell? ⟨b3,5,none⟩=some (.slice bC ((af ag b1).f5).length bD)∧w'.cell? ⟨bS,0,none⟩=some (.slice (some b6) ag.length aW)∧w'.cell? ⟨bS,1,none⟩=some (.int .i64 ak)) bq.tab6 bq.lP oH (fun hHeld ax eF=> ?_);generalize w19.drew=mS at b2 b4 HB hHeld⊢;refine fS 0 25 ax eF hHeld ?_;refine kM 1 26 ax (fun K hK=> ?_);refine lG 26 Tryz.func145 (bh.calls k2 ((af ag b1).f0) ((af ag b1).f1) ((af ag b1).f2) _ _ ((af ag b1).f3) _ _ ((af ag b1).f4) _ _ ((af ag b1).f5) true _ (kC bH) bG.out (kC bJ) bI.out (kC bL) bK.out dP.out) ?_;rintro e mT ⟨rfl,hb⟩;refine⟨_,rfl,?_⟩;replace b2:=bj b2 hb;replace b4:=bj b4 hb;replace HB:=hB HB hb;refine eY hK 26 oH (fun hHeld=> ?_);clear hK K;refine bx 2 27 ax ?_;refine bx 3 28 ax ?_;refine bx 4 29 ax ?_;refine bx 6 31 ax ?_;refine fS 5 30 ax eF hHeld ?_;refine fS 7 32 ax eF hHeld ?_;refine bx 8 33 ax ?_;refine bx 9 34 ax ?_;refine bx 10 35 ax ?_;refine gh 11 36 ax ?_;refine gh 12 37 ax ?_;refine gh 13 38 ax ?_;refine gh 14 39 ax ?_;refine gh 15 40 ax ?_;refine gh 16 41 ax ?_;refine gh 17 42 ax ?_;refine gh 18 43 ax ?_;refine gh 19 44 ax ?_;refine gh 20 45 ax ?_;refine gh 21 46 ax ?_;refine gh 22 47 ax ?_;refine gh 23 48 ax ?_;refine gh 24 49 ax ?_;refine bx 25 50 ax ?_;refine lY ax ?_
      try go_wp2
      go_ret
      exact⟨oE,oB⟩
     replace H:=itG H;rcases H with⟨gX,H⟩|⟨gX,H⟩;rotate_left
     ·have H':=ae.mk H;clear H;have dS:(0≤(b1:Int))=True:=oT;have dT:(b1<(ag.length:Int))=True:=oT;obtain⟨b6,b7,b8,b9,bB,bC,bD,d4,d7,d8,d9,dA,dB,dC,bG,bH,bI,bJ,bK,bL⟩:=ft bT HB b1 oa oa
      cases d4
      try go_wp2_with (first|((with_reducible refine aj (N:=4) rfl ?_);refine dp 4 #[.int .i64 0,.int .i64 0,.int .i64 0,.slice none 0 0,.slice none 0 0,.slice none 0 0] 58 ?_;intro b3 hg jH hbox hb;have b4:=am (hbox);have dH:=dn hg;have bE:=eN hg b2;have bF:=eO hg b2;replace b2:=bj b2 hb;replace HB:=hB HB hb;clear hb hbox hg;have jW:=bF.out;have jX:=bE.out;obtain⟨⟨_,_,_,_,_,_⟩,_,_,_,_,_,_⟩:=z6 b4))
      generalize jy:((((((jH.setCell ⟨b3,0,none⟩ (.int .i64 ((af ag b1).f0))).setCell ⟨b3,1,none⟩ (.int .i64 ((af ag b1).f1))).setCell ⟨b3,2,none⟩ (.int .i64 ((af ag b1).f2))).setCell ⟨b3,3,none⟩ (.slice b7 ((af ag b1).f3).length b8)).setCell ⟨b3,4,none⟩ (.slice b9 ((af ag b1).f4).length bB)).setCell ⟨b3,5,none⟩ (.slice bC ((af ag b1).f5).length bD))=w42;replace b2:=vO jy b2;replace b4:=xz #[.int .i64 ((af ag b1).f0),.int .i64 ((af ag b1).f1),.int .i64 ((af ag b1).f2),.slice b7 ((af ag b1).f3).length b8,.slice b9 ((af ag b1).f4).length bB,.slice bC ((af ag b1).f5).length bD] jy b4;replace HB:=vS jy HB;clear jy;replace b2:=am (av b2.out);replace b4:=am (av b4.out);replace HB:=am (au HB.out);refine mn 26 (fun w'=>w'.cell? ⟨b3,0,none⟩=some (.int .i64 ((af ag b1).f0))∧w'.cell? ⟨b3,1,none⟩=some (.int .i64 ((af ag b1).f1))∧w'.cell? ⟨b3,2,none⟩=some (.int .i64 ((af ag b1).f2))∧w'.cell? ⟨b3,3,none⟩=some (.slice b7 ((af ag b1).f3).length b8)∧w'.cell? ⟨b3,4,none⟩=some (.slice b9 ((af ag b1).f4).length bB)∧w'.cell? ⟨b3,5,none⟩=some (.slice bC ((af ag b1).f5).length bD)∧w'.cell? ⟨bS,0,none⟩=some (.slice (some b6) ag.length aW)∧w'.cell? ⟨bS,1,none⟩=some (.int .i64 ak)) bq.tab6 bq.lP oH (fun hHeld ax eF=> ?_);generalize w42.drew=mU at b2 b4 HB hHeld⊢;refine fS 0 25 ax eF hHeld ?_;refine kM 1 26 ax (fun K hK=> ?_);refine lG 26 Tryz.func145 (bh.calls k2 ((af ag b1).f0) ((af ag b1).f1) ((af ag b1).f2) _ _ ((af ag b1).f3) _ _ ((af ag b1).f4) _ _ ((af ag b1).f5) true _ (kC bH) bG.out (kC bJ) bI.out (kC bL) bK.out dP.out) ?_;rintro e mV ⟨rfl,hb⟩;refine⟨_,rfl,?_⟩;replace b2:=bj b2 hb;replace b4:=bj b4 hb;replace HB:=hB HB hb;refine eY hK 26 oH (fun hHeld=> ?_);clear hK K;refine bx 2 27 ax ?_;refine bx 3 28 ax ?_;refine bx 4 29 ax ?_;refine bx 6 31 ax ?_;refine fS 5 30 ax eF hHeld ?_;refine fS 7 32 ax eF hHeld ?_;refine bx 8 33 ax ?_;refine bx 9 34 ax ?_;refine bx 10 35 ax ?_;refine bx 11 36 ax ?_;refine bx 12 37 ax ?_;refine bx 13 38 ax ?_;refine gh 14 39 ax ?_;refine gh 15 40 ax ?_;refine gh 16 41 ax ?_;refine gh 17 42 ax ?_;refine gh 18 43 ax ?_;refine gh 19 44 ax ?_;refine gh 20 45 ax ?_;refine gh 21 46 ax ?_;refine gh 22 47 ax ?_;refine gh 23 48 ax ?_;refine bx 24 49 ax ?_;refine bx 25 50 ax ?_;refine lY ax ?_
      try go_wp2
      go_roundg k2
      case measure=>have:=dZ.out;have:=gA.out;omega
      case rel=>exact⟨(wrap64 (b1+1)),oS,H',⟨by have:=dZ.out;have:=gA.out;omega⟩,⟨oF b2⟩,⟨oB⟩⟩
     obtain⟨b5,dD⟩:∃j_:Int,(wrap64 (b1-1))=j_:=⟨_,rfl⟩
     replace H:(if 0≤(b5)then(if(b5)<(ag.length:Int)then(if((af ag (b5)).f0)≥((af ag b1).f0)then(some false)else(bq.l0 k2 ag (ag.length:Int) (wrap64 (b1+1)) ag ak))else(none))else(none))=some r:=by first|(rw[dD]at H;exact H)|(simp only[dD]at H⊢;exact H)
     (try rw[dD]at dP)
     have jI:(IntKind.i64.wrap (b1-1))=b5:=(fZ _).trans dD;obtain⟨jY,H⟩:=cX H;obtain⟨jZ,H⟩:=cX H;replace H:=itH H;rcases H with⟨gY,H⟩|⟨gY,H⟩;rotate_left
     ·have H':=ae.mk H;clear H;have dS:(0≤(b1:Int))=True:=oT;have dT:(b1<(ag.length:Int))=True:=oT;obtain⟨b6,b7,b8,b9,bB,bC,bD,d4,d7,d8,d9,dA,dB,dC,bG,bH,bI,bJ,bK,bL⟩:=ft bT HB b1 oa oa
      cases d4
      try go_wp2_with (first|((with_reducible refine aj (N:=4) rfl ?_);refine dp 4 #[.int .i64 0,.int .i64 0,.int .i64 0,.slice none 0 0,.slice none 0 0,.slice none 0 0] 58 ?_;intro b3 hg jJ hbox hb;have b4:=am (hbox);have dH:=dn hg;have bE:=eN hg b2;have bF:=eO hg b2;replace b2:=bj b2 hb;replace HB:=hB HB hb;clear hb hbox hg;have m1:=bF.out;have m2:=bE.out;obtain⟨⟨_,_,_,_,_,_⟩,_,_,_,_,_,_⟩:=z6 b4))
      generalize jy:((((((jJ.setCell ⟨b3,0,none⟩ (.int .i64 ((af ag b1).f0))).setCell ⟨b3,1,none⟩ (.int .i64 ((af ag b1).f1))).setCell ⟨b3,2,none⟩ (.int .i64 ((af ag b1).f2))).setCell ⟨b3,3,none⟩ (.slice b7 ((af ag b1).f3).length b8)).setCell ⟨b3,4,none⟩ (.slice b9 ((af ag b1).f4).length bB)).setCell ⟨b3,5,none⟩ (.slice bC ((af ag b1).f5).length bD))=w36;replace b2:=vO jy b2;replace b4:=xz #[.int .i64 ((af ag b1).f0),.int .i64 ((af ag b1).f1),.int .i64 ((af ag b1).f2),.slice b7 ((af ag b1).f3).length b8,.slice b9 ((af ag b1).f4).length bB,.slice bC ((af ag b1).f5).length bD] jy b4;replace HB:=vS jy HB;clear jy;replace b2:=am (av b2.out);replace b4:=am (av b4.out);replace HB:=am (au HB.out);have jB:(0≤((b5):Int))=True:=oT;have jC:((b5)<(ag.length:Int))=True:=oT;obtain⟨dU,dJ,dK,dL,dM,dN,dO,dX,bM,bN,bO,bP,bQ,bR,bU,bV,bW,bX,bY,bZ⟩:=fy bT.out (b5) oa oa;have gB:=bR;have gC:=bQ;have gD:=bP;have gE:=bO;have gF:=bN;have gG:=bM;obtain rfl:b6=dU:=(by injection dX);replace bM:=cB HB bM;replace bN:=cB HB bN;replace bO:=cB HB bO;replace bP:=cB HB bP;replace bQ:=cB HB bQ;replace bR:=cB HB bR;have dE:=ae.mk bV;have gH:=ae.mk bU;clear bV bU;have dF:=ae.mk bX;have gI:=ae.mk bW;clear bX bW;have dG:=ae.mk bZ;have gJ:=ae.mk bY;clear bZ bY;refine mn 26 (fun w'=>w'.cell? ⟨b3,0,none⟩=some (.int .i64 ((af ag b1).f0))∧w'.cell? ⟨b3,1,none⟩=some (.int .i64 ((af ag b1).f1))∧w'.cell? ⟨b3,2,none⟩=some (.int .i64 ((af ag b1).f2))∧w'.cell? ⟨b3,3,none⟩=some (.slice b7 ((af ag b1).f3).length b8)∧w'.cell? ⟨b3,4,none⟩=some (.slice b9 ((af ag b1).f4).length bB)∧w'.cell? ⟨b3,5,none⟩=some (.slice bC ((af ag b1).f5).length bD)∧w'.cell? ⟨bS,0,none⟩=some (.slice (some b6) ag.length aW)∧w'.cell? ⟨bS,1,none⟩=some (.int .i64 ak)∧w'.cell? (b6.add (((b5)).toNat*6))=some (.int .i64 ((af ag (b5)).f0))∧w'.cell? ⟨(b6.add (((b5)).toNat*6)).block,(b6.add (((b5)).toNat*6)).off+1,none⟩=some (.int .i64 ((af ag (b5)).f1))∧w'.cell? ⟨(b6.add (((b5)).toNat*6)).block,(b6.add (((b5)).toNat*6)).off+2,none⟩=some (.int .i64 ((af ag (b5)).f2))∧w'.cell? ⟨(b6.add (((b5)).toNat*6)).block,(b6.add (((b5)).toNat*6)).off+3,none⟩=some (.slice dJ ((af ag (b5)).f3).length dK)∧w'.cell? ⟨(b6.add (((b5)).toNat*6)).block,(b6.add (((b5)).toNat*6)).off+4,none⟩=some (.slice dL ((af ag (b5)).f4).length dM)∧w'.cell? ⟨(b6.add (((b5)).toNat*6)).block,(b6.add (((b5)).toNat*6)).off+5,none⟩=some (.slice dN ((af ag (b5)).f5).length dO)) bq.tab6 bq.lP oH (fun hHeld ax eF=> ?_);generalize w36.drew=mW at b2 b4 HB dE dF dG bM bN bO bP bQ bR hHeld⊢;refine fS 0 25 ax eF hHeld ?_;refine kM 1 26 ax (fun K hK=> ?_);refine lG 26 Tryz.func145 (bh.calls k2 ((af ag b1).f0) ((af ag b1).f1) ((af ag b1).f2) _ _ ((af ag b1).f3) _ _ ((af ag b1).f4) _ _ ((af ag b1).f5) true _ (kC bH) bG.out (kC bJ) bI.out (kC bL) bK.out dP.out) ?_;rintro e mX ⟨rfl,hb⟩;refine⟨_,rfl,?_⟩;replace b2:=bj b2 hb;replace b4:=bj b4 hb;replace HB:=hB HB hb;refine eY hK 26 oH (fun hHeld=> ?_);clear hK K;refine bx 2 27 ax ?_;refine bx 3 28 ax ?_;refine bx 4 29 ax ?_;refine bx 6 31 ax ?_;refine fS 5 30 ax eF hHeld ?_;refine fS 7 32 ax eF hHeld ?_;refine bx 8 33 ax ?_;refine bx 9 34 ax ?_;refine bx 10 35 ax ?_;refine bx 11 36 ax ?_;refine bx 12 37 ax ?_;refine bx 13 38 ax ?_;refine bx 14 39 ax ?_;refine bx 16 41 ax ?_;refine bx 17 42 ax ?_;refine bx 21 46 ax ?_;refine fS 15 40 ax eF hHeld ?_;refine bx 18 43 ax ?_;refine bx 19 44 ax ?_;refine fS 20 45 ax eF hHeld ?_;refine fS 22 47 ax eF hHeld ?_;refine bx 23 48 ax ?_;refine bx 24 49 ax ?_;refine bx 25 50 ax ?_;refine lY ax ?_
      try go_wp2
      go_roundg k2
      case measure=>have:=dZ.out;have:=gA.out;omega
      case rel=>exact⟨(wrap64 (b1+1)),oS,H',⟨by have:=dZ.out;have:=gA.out;omega⟩,⟨oF b2⟩,⟨oB⟩⟩
     obtain rfl:=Option.some.inj H;have dS:(0≤(b1:Int))=True:=oT;have dT:(b1<(ag.length:Int))=True:=oT;obtain⟨b6,b7,b8,b9,bB,bC,bD,d4,d7,d8,d9,dA,dB,dC,bG,bH,bI,bJ,bK,bL⟩:=ft bT HB b1 oa oa
     cases d4
     try go_wp2_with (first|((with_reducible refine aj (N:=4) rfl ?_);refine dp 4 #[.int .i64 0,.int .i64 0,.int .i64 0,.slice none 0 0,.slice none 0 0,.slice none 0 0] 58 ?_;intro b3 hg jK hbox hb;have b4:=am (hbox);have dH:=dn hg;have bE:=eN hg b2;have bF:=eO hg b2;replace b2:=bj b2 hb;replace HB:=hB HB hb;clear hb hbox hg;have m3:=bF.out;have m4:=bE.out;obtain⟨⟨_,_,_,_,_,_⟩,_,_,_,_,_,_⟩:=z6 b4))
     generalize jy:((((((jK.setCell ⟨b3,0,none⟩ (.int .i64 ((af ag b1).f0))).setCell ⟨b3,1,none⟩ (.int .i64 ((af ag b1).f1))).setCell ⟨b3,2,none⟩ (.int .i64 ((af ag b1).f2))).setCell ⟨b3,3,none⟩ (.slice b7 ((af ag b1).f3).length b8)).setCell ⟨b3,4,none⟩ (.slice b9 ((af ag b1).f4).length bB)).setCell ⟨b3,5,none⟩ (.slice bC ((af ag b1).f5).length bD))=w30;replace b2:=vO jy b2;replace b4:=xz #[.int .i64 ((af ag b1).f0),.int .i64 ((af ag b1).f1),.int .i64 ((af ag b1).f2),.slice b7 ((af ag b1).f3).length b8,.slice b9 ((af ag b1).f4).length bB,.slice bC ((af ag b1).f5).length bD] jy b4;replace HB:=vS jy HB;clear jy;replace b2:=am (av b2.out);replace b4:=am (av b4.out);replace HB:=am (au HB.out);have jB:(0≤((b5):Int))=True:=oT;have jC:((b5)<(ag.length:Int))=True:=oT;obtain⟨dU,dJ,dK,dL,dM,dN,dO,dX,bM,bN,bO,bP,bQ,bR,bU,bV,bW,bX,bY,bZ⟩:=fy bT.out (b5) oa oa;have gB:=bR;have gC:=bQ;have gD:=bP;have gE:=bO;have gF:=bN;have gG:=bM;obtain rfl:b6=dU:=(by injection dX);replace bM:=cB HB bM;replace bN:=cB HB bN;replace bO:=cB HB bO;replace bP:=cB HB bP;replace bQ:=cB HB bQ;replace bR:=cB HB bR;have dE:=ae.mk bV;have gH:=ae.mk bU;clear bV bU;have dF:=ae.mk bX;have gI:=ae.mk bW;clear bX bW;have dG:=ae.mk bZ;have gJ:=ae.mk bY;clear bZ bY;refine mn 26 (fun w'=>w'.cell? ⟨b3,0,none⟩=some (.int .i64 ((af ag b1).f0))∧w'.cell? ⟨b3,1,none⟩=some (.int .i64 ((af ag b1).f1))∧w'.cell? ⟨b3,2,none⟩=some (.int .i64 ((af ag b1).f2))∧w'.cell? ⟨b3,3,none⟩=some (.slice b7 ((af ag b1).f3).length b8)∧w'.cell? ⟨b3,4,none⟩=some (.slice b9 ((af ag b1).f4).length bB)∧w'.cell? ⟨b3,5,none⟩=some (.slice bC ((af ag b1).f5).length bD)∧w'.cell? ⟨bS,0,none⟩=some (.slice (some b6) ag.length aW)∧w'.cell? ⟨bS,1,none⟩=some (.int .i64 ak)∧w'.cell? (b6.add (((b5)).toNat*6))=some (.int .i64 ((af ag (b5)).f0))∧w'.cell? ⟨(b6.add (((b5)).toNat*6)).block,(b6.add (((b5)).toNat*6)).off+1,none⟩=some (.int .i64 ((af ag (b5)).f1))∧w'.cell? ⟨(b6.add (((b5)).toNat*6)).block,(b6.add (((b5)).toNat*6)).off+2,none⟩=some (.int .i64 ((af ag (b5)).f2))∧w'.cell? ⟨(b6.add (((b5)).toNat*6)).block,(b6.add (((b5)).toNat*6)).off+3,none⟩=some (.slice dJ ((af ag (b5)).f3).length dK)∧w'.cell? ⟨(b6.add (((b5)).toNat*6)).block,(b6.add (((b5)).toNat*6)).off+4,none⟩=some (.slice dL ((af ag (b5)).f4).length dM)∧w'.cell? ⟨(b6.add (((b5)).toNat*6)).block,(b6.add (((b5)).toNat*6)).off+5,none⟩=some (.slice dN ((af ag (b5)).f5).length dO)) bq.tab6 bq.lP oH (fun hHeld ax eF=> ?_);generalize w30.drew=mY at b2 b4 HB dE dF dG bM bN bO bP bQ bR hHeld⊢;refine fS 0 25 ax eF hHeld ?_;refine kM 1 26 ax (fun K hK=> ?_);refine lG 26 Tryz.func145 (bh.calls k2 ((af ag b1).f0) ((af ag b1).f1) ((af ag b1).f2) _ _ ((af ag b1).f3) _ _ ((af ag b1).f4) _ _ ((af ag b1).f5) true _ (kC bH) bG.out (kC bJ) bI.out (kC bL) bK.out dP.out) ?_;rintro e mZ ⟨rfl,hb⟩;refine⟨_,rfl,?_⟩;replace b2:=bj b2 hb;replace b4:=bj b4 hb;replace HB:=hB HB hb;refine eY hK 26 oH (fun hHeld=> ?_);clear hK K;refine bx 2 27 ax ?_;refine bx 3 28 ax ?_;refine bx 4 29 ax ?_;refine bx 6 31 ax ?_;refine fS 5 30 ax eF hHeld ?_;refine fS 7 32 ax eF hHeld ?_;refine bx 8 33 ax ?_;refine bx 9 34 ax ?_;refine bx 10 35 ax ?_;refine bx 11 36 ax ?_;refine bx 12 37 ax ?_;refine bx 13 38 ax ?_;refine bx 14 39 ax ?_;refine bx 16 41 ax ?_;refine bx 17 42 ax ?_;refine bx 21 46 ax ?_;refine fS 15 40 ax eF hHeld ?_;refine bx 18 43 ax ?_;refine bx 19 44 ax ?_;refine fS 20 45 ax eF hHeld ?_;refine fS 22 47 ax eF hHeld ?_;refine bx 23 48 ax ?_;refine bx 24 49 ax ?_;refine bx 25 50 ax ?_;refine lY ax ?_
     try go_wp2
     go_ret
     exact⟨by first|rfl|(simp[eC,eD]<;>rfl)|(simp only[←dD];first|rfl|(simp[eC,eD]<;>rfl))|(simp[*,eC,eD]<;>rfl),oB⟩

def ca.l0:Nat→List (aZ)→List (aZ)→Int→Option (Bool)
 |0,_,_,_=>none
 |k+1,x0,x1,x5=>if x5<(x0.length:Int)then(if 0≤x5 then(if x5<(x1.length:Int)then((iO.f k ((af x0 x5).f0) ((af x0 x5).f1) ((af x0 x5).f2) ((af x0 x5).f3) ((af x0 x5).f4) ((af x0 x5).f5) ((af x1 x5).f0) ((af x1 x5).f1) ((af x1 x5).f2) ((af x1 x5).f3) ((af x1 x5).f4) ((af x1 x5).f5)).bind fun b1=>(if b1=true then(ca.l0 k x0 x1 (wrap64 (x5+1)))else(some false)))else(none))else(none))else(some true)
def ca.f (k:Nat) (l0:List (aZ)) (l1:List (aZ)):Option (Bool):=if(l0.length:Int)=(l1.length:Int)then(ca.l0 k l0 l1 0)else(some false)
def ca.T6:Bool×List (List Nat×List Nat):=(true,[([],[]),([],[]),([0,1],[0,1]),([2],[2]),([],[]),([],[]),([4,5],[4,5]),([6],[6]),([3,7],[3,7]),([8],[8])])
def ca.B6:List Nat:=[0,0,3,7,0,0,48,112,255,511]
theorem ca.tab6:gy .any (opsOf Tryz.f36 6)=ca.T6:=by kernel_rfl
theorem ca.lP:eR ca.T6.2 ca.B6=true:=by kernel_rfl
theorem ca.calls (k:Nat) (A0:Option Addr) (c0:Nat) (l0:List (aZ)) (A1:Option Addr) (c1:Nat) (l1:List (aZ)) (r:Bool) (w:World) (hr0:Kd.C fv w A0 l0.length l0) (hc0:l0.length≤c0) (hr1:Kd.C fv w A1 l1.length l1) (hc1:l1.length≤c1) (h:ca.f k l0 l1=some r):
  Calls Tryz.prog 36 #[.slice A0 l0.length c0,.slice A1 l1.length c1] w fun e w'=>e= .returned (.bool r)∧Below w.heap.size w w':=by
 have gH:=Tryz.underlying58;have dW:=ae.mk hr0;have gL:=ae.mk hc0;clear hr0 hc0;have dX:=ae.mk hr1;have gM:=ae.mk hc1;clear hr1 hc1;have HB:=am (Below.refl w.heap.size w);unfold ca.f at h;have H:=h;clear h
 by_cases c3:(l0.length:Int)=(l1.length:Int)
 rotate_left
 ·rw[if_neg c3]at H;have dZ:((l0.length:Int)==(l1.length:Int))=false:=beq_eq_false_iff_ne.mpr c3;have gA:((l0.length:Int) !=(l1.length:Int))=true:=bne_iff_ne.mpr c3
  have gB:(l0.length==l1.length)=false:=by first|simpa using c3|(simp at c3⊢;omega)
  obtain rfl:=Option.some.inj H
  go_enter Tryz.func36,Tryz.ntmps36
  go_wp2
  go_ret
  exact⟨oE,oB⟩
 rw[if_pos c3]at H;have dZ:((l0.length:Int)==(l1.length:Int))=true:=beq_iff_eq.mpr c3;have gA:((l0.length:Int) !=(l1.length:Int))=false:=bne_eq_false_iff_eq.mpr c3
 have gB:(l0.length==l1.length)=true:=by first|simpa using c3|(simp at c3⊢;omega)
 clear c3;have H':=ae.mk H;clear H
 go_enter Tryz.func36,Tryz.ntmps36
 go_wp2
 go_loopg [5] k (fun kq v5 w'=>∃(b1:Int),v5= .int .i64 b1∧ae (ca.l0 kq l0 l1 b1=some r)∧ae (kq≤k)∧ae (Below w.heap.size w w'))
 case atStart=>exact⟨(0),oS,H',⟨Nat.le_refl _⟩,⟨oB⟩⟩
 case round=>
  clear H'
  try clear c1
  try clear c3
  obtain⟨b1,rfl,HA,dY,HB⟩:=hrel
  cases gk with
  |zero=>exact absurd HA.out (by simp[ca.l0])
  |succ k1=>
   have H:=HA.out;clear HA;simp only[ca.l0]at H;replace H:=jd H;rcases H with⟨gC,H⟩|⟨gC,H⟩;rotate_left
   ·obtain rfl:=Option.some.inj H
    go_wp2
    go_ret
    exact⟨oE,oB⟩
   obtain⟨gI,H⟩:=cX H;obtain⟨gJ,H⟩:=cX H;replace H:=bA H;obtain⟨gK,A7,H⟩:=H
   try dsimp only at H
   replace H:=ll H;rcases H with⟨rfl,H⟩|⟨rfl,H⟩;rotate_left
   ·obtain rfl:=Option.some.inj H
    try go_wp2
    replace HB:=am (au HB.out);have gD:(0≤(b1:Int))=True:=oT;have gE:(b1<(l0.length:Int))=True:=oT;obtain⟨b2,d6,d7,d8,d9,dA,dB,dI,b4,b5,b6,b7,b8,b9,bH,bI,bJ,bK,bL,bM⟩:=fy dW.out b1 oa oa;have dK:=b9;have dL:=b8;have dM:=b7;have dN:=b6;have dO:=b5;have dP:=b4
    cases dI
    replace b4:=cB HB b4;replace b5:=cB HB b5;replace b6:=cB HB b6;replace b7:=cB HB b7;replace b8:=cB HB b8;replace b9:=cB HB b9;have bN:=ae.mk bI;have bZ:=ae.mk bH;clear bI bH;have bO:=ae.mk bK;have d1:=ae.mk bJ;clear bK bJ;have bP:=ae.mk bM;have d2:=ae.mk bL;clear bM bL;have gF:(0≤(b1:Int))=True:=oT;have gG:(b1<(l1.length:Int))=True:=oT;obtain⟨b3,dC,dD,dE,dF,dG,dH,dJ,bB,bC,bD,bE,bF,bG,bQ,bR,bS,bT,bU,bV⟩:=fy dX.out b1 oa oa;have dQ:=bG;have dR:=bF;have dS:=bE;have dT:=bD;have dU:=bC;have dV:=bB
    cases dJ
    replace bB:=cB HB bB;replace bC:=cB HB bC;replace bD:=cB HB bD;replace bE:=cB HB bE;replace bF:=cB HB bF;replace bG:=cB HB bG;have bW:=ae.mk bR;have d3:=ae.mk bQ;clear bR bQ;have bX:=ae.mk bT;have d4:=ae.mk bS;clear bT bS;have bY:=ae.mk bV;have d5:=ae.mk bU;clear bV bU;refine mn 10 (fun w'=>w'.cell? (b2.add ((b1).toNat*6))=some (.int .i64 ((af l0 b1).f0))∧w'.cell? ⟨(b2.add ((b1).toNat*6)).block,(b2.add ((b1).toNat*6)).off+1,none⟩=some (.int .i64 ((af l0 b1).f1))∧w'.cell? ⟨(b2.add ((b1).toNat*6)).block,(b2.add ((b1).toNat*6)).off+2,none⟩=some (.int .i64 ((af l0 b1).f2))∧w'.cell? ⟨(b2.add ((b1).toNat*6)).block,(b2.add ((b1).toNat*6)).off+3,none⟩=some (.slice d6 ((af l0 b1).f3).length d7)∧w'.cell? ⟨(b2.add ((b1).toNat*6)).block,(b2.add ((b1).toNat*6)).off+4,none⟩=some (.slice d8 ((af l0 b1).f4).length d9)∧w'.cell? ⟨(b2.add ((b1).toNat*6)).block,(b2.add ((b1).toNat*6)).off+5,none⟩=some (.slice dA ((af l0 b1).f5).length dB)∧w'.cell? (b3.add ((b1).toNat*6))=some (.int .i64 ((af l1 b1).f0))∧w'.cell? ⟨(b3.add ((b1).toNat*6)).block,(b3.add ((b1).toNat*6)).off+1,none⟩=some (.int .i64 ((af l1 b1).f1))∧w'.cell? ⟨(b3.add ((b1).toNat*6)).block,(b3.add ((b1).toNat*6)).off+2,none⟩=some (.int .i64 ((af l1 b1).f2))∧w'.cell? ⟨(b3.add ((b1).toNat*6)).block,(b3.add ((b1).toNat*6)).off+3,none⟩=some (.slice dC ((af l1 b1).f3).length dD)∧w'.cell? ⟨(b3.add ((b1).toNat*6)).block,(b3.add ((b1).toNat*6)).off+4,none⟩=some (.slice dE ((af l1 b1).f4).length dF)∧w'.cell? ⟨(b3.add ((b1).toNat*6)).block,(b3.add ((b1).toNat*6)).off+5,none⟩=some (.slice dG ((af l1 b1).f5).length dH)) ca.tab6 ca.lP oH (fun hHeld ax eF=> ?_);generalize wr.drew=gN at HB bN bO bP bW bX bY b4 b5 b6 b7 b8 b9 bB bC bD bE bF bG hHeld⊢;refine bx 0 17 ax ?_;refine bx 1 18 ax ?_;refine bx 2 19 ax ?_;refine bx 4 21 ax ?_;refine bx 5 22 ax ?_;refine bx 6 23 ax ?_;refine fS 3 20 ax eF hHeld ?_;refine fS 7 24 ax eF hHeld ?_;refine kM 8 25 ax (fun K hK=> ?_);refine lG 25 Tryz.func72 (iO.calls k1 ((af l0 b1).f0) ((af l0 b1).f1) ((af l0 b1).f2) _ _ ((af l0 b1).f3) _ _ ((af l0 b1).f4) _ _ ((af l0 b1).f5) ((af l1 b1).f0) ((af l1 b1).f1) ((af l1 b1).f2) _ _ ((af l1 b1).f3) _ _ ((af l1 b1).f4) _ _ ((af l1 b1).f5) false _ (kC bN) bZ.out (kC bO) d1.out (kC bP) d2.out (kC bW) d3.out (kC bX) d4.out (kC bY) d5.out A7.out) ?_;rintro e gO ⟨rfl,hb⟩;refine⟨_,rfl,?_⟩;replace HB:=hB HB hb;refine eY hK 25 oH (fun hHeld=> ?_);clear hK K;refine bx 9 26 ax ?_;refine lY ax ?_
    try go_wp2
    go_ret
    exact⟨oE,oB⟩
   have H':=ae.mk H;clear H
   try go_wp2
   replace HB:=am (au HB.out);have gD:(0≤(b1:Int))=True:=oT;have gE:(b1<(l0.length:Int))=True:=oT;obtain⟨b2,d6,d7,d8,d9,dA,dB,dI,b4,b5,b6,b7,b8,b9,bH,bI,bJ,bK,bL,bM⟩:=fy dW.out b1 oa oa;have dK:=b9;have dL:=b8;have dM:=b7;have dN:=b6;have dO:=b5;have dP:=b4
   cases dI
   replace b4:=cB HB b4;replace b5:=cB HB b5;replace b6:=cB HB b6;replace b7:=cB HB b7;replace b8:=cB HB b8;replace b9:=cB HB b9;have bN:=ae.mk bI;have bZ:=ae.mk bH;clear bI bH;have bO:=ae.mk bK;have d1:=ae.mk bJ;clear bK bJ;have bP:=ae.mk bM;have d2:=ae.mk bL;clear bM bL;have gF:(0≤(b1:Int))=True:=oT;have gG:(b1<(l1.length:Int))=True:=oT;obtain⟨b3,dC,dD,dE,dF,dG,dH,dJ,bB,bC,bD,bE,bF,bG,bQ,bR,bS,bT,bU,bV⟩:=fy dX.out b1 oa oa;have dQ:=bG;have dR:=bF;have dS:=bE;have dT:=bD;have dU:=bC;have dV:=bB
   cases dJ
   replace bB:=cB HB bB;replace bC:=cB HB bC;replace bD:=cB HB bD;replace bE:=cB HB bE;replace bF:=cB HB bF;replace bG:=cB HB bG;have bW:=ae.mk bR;have d3:=ae.mk bQ;clear bR bQ;have bX:=ae.mk bT;have d4:=ae.mk bS;clear bT bS;have bY:=ae.mk bV;have d5:=ae.mk bU;clear bV bU;refine mn 10 (fun w'=>w'.cell? (b2.add ((b1).toNat*6))=some (.int .i64 ((af l0 b1).f0))∧w'.cell? ⟨(b2.add ((b1).toNat*6)).block,(b2.add ((b1).toNat*6)).off+1,none⟩=some (.int .i64 ((af l0 b1).f1))∧w'.cell? ⟨(b2.add ((b1).toNat*6)).block,(b2.add ((b1).toNat*6)).off+2,none⟩=some (.int .i64 ((af l0 b1).f2))∧w'.cell? ⟨(b2.add ((b1).toNat*6)).block,(b2.add ((b1).toNat*6)).off+3,none⟩=some (.slice d6 ((af l0 b1).f3).length d7)∧w'.cell? ⟨(b2.add ((b1).toNat*6)).block,(b2.add ((b1).toNat*6)).off+4,none⟩=some (.slice d8 ((af l0 b1).f4).length d9)∧w'.cell? ⟨(b2.add ((b1).toNat*6)).block,(b2.add ((b1).toNat*6)).off+5,none⟩=some (.slice dA ((af l0 b1).f5).length dB)∧w'.cell? (b3.add ((b1).toNat*6))=some (.int .i64 ((af l1 b1).f0))∧w'.cell? ⟨(b3.add ((b1).toNat*6)).block,(b3.add ((b1).toNat*6)).off+1,none⟩=some (.int .i64 ((af l1 b1).f1))∧w'.cell? ⟨(b3.add ((b1).toNat*6)).block,(b3.add ((b1).toNat*6)).off+2,none⟩=some (.int .i64 ((af l1 b1).f2))∧w'.cell? ⟨(b3.add ((b1).toNat*6)).block,(b3.add ((b1).toNat*6)).off+3,none⟩=some (.slice dC ((af l1 b1).f3).length dD)∧w'.cell? ⟨(b3.add ((b1).toNat*6)).block,(b3.add ((b1).toNat*6)).off+4,none⟩=some (.slice dE ((af l1 b1).f4).length dF)∧w'.cell? ⟨(b3.add ((b1).toNat*6)).block,(b3.add ((b1).toNat*6)).off+5,none⟩=some (.slice dG ((af l1 b1).f5).length dH)) ca.tab6 ca.lP oH (fun hHeld ax eF=> ?_);generalize wr.drew=w9 at HB bN bO bP bW bX bY b4 b5 b6 b7 b8 b9 bB bC bD bE bF bG hHeld⊢;refine bx 0 17 ax ?_;refine bx 1 18 ax ?_;refine bx 2 19 ax ?_;refine bx 4 21 ax ?_;refine bx 5 22 ax ?_;refine bx 6 23 ax ?_;refine fS 3 20 ax eF hHeld ?_;refine fS 7 24 ax eF hHeld ?_;refine kM 8 25 ax (fun K hK=> ?_);refine lG 25 Tryz.func72 (iO.calls k1 ((af l0 b1).f0) ((af l0 b1).f1) ((af l0 b1).f2) _ _ ((af l0 b1).f3) _ _ ((af l0 b1).f4) _ _ ((af l0 b1).f5) ((af l1 b1).f0) ((af l1 b1).f1) ((af l1 b1).f2) _ _ ((af l1 b1).f3) _ _ ((af l1 b1).f4) _ _ ((af l1 b1).f5) true _ (kC bN) bZ.out (kC bO) d1.out (kC bP) d2.out (kC bW) d3.out (kC bX) d4.out (kC bY) d5.out A7.out) ?_;rintro e gP ⟨rfl,hb⟩;refine⟨_,rfl,?_⟩;replace HB:=hB HB hb;refine eY hK 25 oH (fun hHeld=> ?_);clear hK K;refine bx 9 26 ax ?_;refine lY ax ?_
   try go_wp2
   go_roundg k1
   case measure=>have:=dY.out;omega
   case rel=>exact⟨(wrap64 (b1+1)),oS,H',⟨by have:=dY.out;omega⟩,⟨oB⟩⟩
end Go.Proofs.YtlecajlnjmbilaaGreatDoor.P
