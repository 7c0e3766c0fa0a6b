-- Printed walks.
import Derived.Test.YtlecajlnjmbilaaGreatDoorPx6
import Derived.Test.YtlecajlnjmbilaaGreatDoorPx8
set_option linter.all false
set_option maxHeartbeats 8000000
set_option maxRecDepth 100000
namespace Go.Proofs.YtlecajlnjmbilaaGreatDoor.P
open Go.RowKit Go.Proofs.ab.ar Go.Proofs.ab.aH Go.Proofs.ab.aN Go.Proofs.Tryz
attribute [local go_sem] ib ic jc jd fU fV ie ig

mutual
def bs.j0:Nat→Bool→List (aX)→Int→Option (Bool)
 |0,_,_,_=>none
 |k+1,b3,b1,b2=>if b3=true then(some false)else(bs.l0 k b1 (b1.length:Int) 0 b1 b2)
def bs.l0:Nat→List (aX)→Int→Int→List (aX)→Int→Option (Bool)
 |0,_,_,_,_,_=>none
 |k+1,b3,b6,b1,b2,b4=>if b1<b6 then(if 0≤b1 then(if b1<(b3.length:Int)then((bm.f k ((af b3 b1).f0) ((af b3 b1).f1) ((af b3 b1).f2) ((af b3 b1).f3) ((af b3 b1).f4) ((af b3 b1).f5)).bind fun b7=>(if b7=true then(if((af b3 b1).f0)≥b4 then(some false)else(if b1>0 then(if 0≤(wrap64 (b1-1))then(if(wrap64 (b1-1))<(b2.length:Int)then(if((af b2 (wrap64 (b1-1))).f0)≥((af b3 b1).f0)then(some false)else(bs.l0 k b3 b6 (wrap64 (b1+1)) b2 b4))else(none))else(none))else(bs.l0 k b3 b6 (wrap64 (b1+1)) b2 b4)))else(some false)))else(none))else(none))else((cT.f k b2 b4 1).bind fun b5=>(if b5.2.2.2.2.2.2=true then(some (b5.2.1==2))else(some false)))
end
def bs.f (k:Nat) (ag:List (aX)) (ak:Int):Option (Bool):=if(ag.length:Int)>30 then(bs.j0 k true ag ak)else((bw.f ak 2 1000).bind fun b1=>(bs.j0 k (!b1) ag ak))
def bs.T6:Bool×List (List Nat×List Nat):=(true,[([],[]),([0],[0]),([1],[1]),([2,1],[2]),([3],[3]),([4,3],[3,4]),([3],[3]),([6,3],[3,6]),([5,7,3],[3,5,7]),([3,8],[3,8]),([9,3],[9]),([10],[10]),([11,10],[10,11]),([12,10,10],[10,12]),([13],[13]),([14,13],[13,14]),([13],[13]),([16,13],[13,16]),([15,17,13],[13,15,17]),([18,13],[13,18]),([19,13],[13,19]),([13],[13]),([21,13],[13,21]),([20,22,13],[13,20,22]),([13,23,10],[10,13,23]),([10,24],[10,24])])
def bs.B6:List Nat:=[0,1,3,7,15,31,15,79,255,511,1023,2047,4095,8191,16383,32767,16383,81919,262143,524287,1048575,16383,2113535,8388607,16777215,33554431]
theorem bs.tab6:ij .any (opsOf Tryz.f123 6)=bs.T6:=by kernel_rfl
theorem bs.nv:fa bs.T6.2 bs.B6=true:=by kernel_rfl
theorem bs.calls (k:Nat) (bh:Option Addr) (aT:Nat) (ag:List (aX)) (ak:Int) (r:Bool) (w:World) (cj:Kd.C gh w bh ag.length ag) (ck:ag.length≤aT) (h:bs.f k ag ak=some r):
  Calls Tryz.prog 123 #[.agg #[.slice bh ag.length aT,.int .i64 ak]] w fun e w'=>e= .returned (.bool r)∧Below w.heap.size w w':=by
 have m5:=underlying28;have m6:=underlying58;have bT:=ae.mk cj;have dZ:=ae.mk ck;clear cj ck;have HB:=am (Below.refl w.heap.size w);unfold bs.f at h;have H:=h;clear h;have gL:=ae.mk H;clear H
 go_enter func123,ntmps123
 go_upto_region 1 with(first|((with_reducible refine aj (N:=1) rfl ?_);refine cO 1 #[.slice bh ag.length aT,.int .i64 ak] 28 ?_;intro bS hg w3 hbox hb;have b2:=am (hbox);have jL:=cN hg;replace HB:=hB HB hb;clear hb hbox hg))
 (try simp only[Act.put,List.setIfInBounds_toArray,List.set_cons_zero,List.set_cons_succ])
 go_cut [16] (fun jD wc=>∃(kq:Nat) (dP:Bool),jD= .bool dP∧ae (bs.j0 kq dP ag ak=some r)∧ae (kq≤k)∧ae (wc.heap[bS]? =some (.cells #[(.slice bh ag.length aT),.int .i64 ak] 28 (0,0)))∧ae (Below w.heap.size w wc))
 case first=>
  have H:=gL.out;clear gL
  by_cases c4:(ag.length:Int)>30
  ·rw[if_pos c4]at H;have dW:decide (30<(ag.length:Int))=true:=decide_eq_true c4;have dX:decide (30<ag.length)=true:=decide_eq_true (by omega);clear c4
   (first|rw[dW]|rw[dX]|skip)
   have H':=ae.mk H;clear H;obtain⟨⟨_,_⟩,_,_⟩:=z2 b2
   go_wp2
   go_meet
   case rel=>exact⟨_,(true),oS,H',⟨by first|omega|exact Nat.le_refl _⟩,⟨oF b2⟩,⟨oB⟩⟩
  rw[if_neg c4]at H;have dW:decide (30<(ag.length:Int))=false:=decide_eq_false c4;have dX:decide (30<ag.length)=false:=decide_eq_false (by omega);clear c4
  (first|rw[dW]|rw[dX]|skip)
  replace H:=bA H;obtain⟨gM,A6,H⟩:=H
  try dsimp only at H
  have H':=ae.mk H;clear H;obtain⟨⟨_,_⟩,_,_⟩:=z2 b2
  go_wp2_with (first|(go_at_call 61;(with_reducible refine(bw.calls ak 2 1000 gM _ A6.out).mono ?_);rintro e w' ⟨rfl,⟨nd,rfl⟩⟩))
  go_meet
  case rel=>exact⟨_,(!gM),oS,H',⟨by first|omega|exact Nat.le_refl _⟩,⟨oF b2⟩,⟨oB⟩⟩
 case rest=>
  clear gL;obtain⟨kq,dP,rfl,HA,gA,b2,HB⟩:=hcut
  cases kq with
  |zero=>exact absurd HA.out (by simp[bs.j0])
  |succ xw=>
   have H:=HA.out;clear HA;simp only[bs.j0]at H;replace H:=lr H;rcases H with⟨rfl,H⟩|⟨rfl,H⟩
   ·obtain rfl:=Option.some.inj H
    go_wp2
    go_ret
    exact⟨oE,oB⟩
   have H':=ae.mk H;clear H;obtain⟨⟨_,_⟩,_,_⟩:=z2 b2
   go_wp2
   go_loopg [20] xw (fun kq jE w'=>∃(b1:Int),jE= .int .i64 b1∧ae (bs.l0 kq ag (ag.length:Int) b1 ag ak=some r)∧ae (kq≤xw)∧ae (w'.heap[bS]? =some (.cells #[(.slice bh ag.length aT),.int .i64 ak] 28 (0,0)))∧ae (Below w.heap.size w w'))
   case atStart=>exact⟨(0),oS,H',⟨Nat.le_refl _⟩,⟨oF b2⟩,⟨oB⟩⟩
   case round=>
    clear H';obtain⟨b1,rfl,HA,gB,b2,HB⟩:=hrel
    cases gk with
    |zero=>exact absurd HA.out (by simp[bs.l0])
    |succ k2=>
     have H:=HA.out;clear HA;simp only[bs.l0]at H;replace H:=jm H;rcases H with⟨gU,H⟩|⟨gU,H⟩;rotate_left
     ·replace H:=bA H;obtain⟨⟨gN,gO,gP,gQ,gR,gS,m7⟩,j1,H⟩:=H
      try dsimp only at H
      replace H:=lr H;rcases H with⟨rfl,H⟩|⟨rfl,H⟩
      ·obtain rfl:=Option.some.inj H;obtain⟨⟨_,_⟩,_,_⟩:=z2 b2
       go_wp2_with (first|((with_reducible refine ai (f:=91) rfl ?_);refine ej 54 func91 (cT.calls k2 _ _ ag ak 1 gN gO gP gQ gR gS true _ (kC bT) dZ.out j1.out) ?_;rintro e mL ⟨j2,j3,j4,rfl,gT,dU,dV,hb⟩;refine⟨_,rfl,?_⟩;have d1:=am (Kd.an gT (ah oB));have d2:=am (Kd.an dU (ah oB));have d3:=am (Kd.an dV (ah oB));replace b2:=aJ b2 hb;replace HB:=hB HB hb;(try clear dU);(try clear dV))|((with_reducible refine aj (N:=5) rfl ?_);refine cO 5 #[.int .i64 0,.int .i64 0,.int .i64 0,.slice none 0 0,.slice none 0 0,.slice none 0 0] 58 ?_;intro gV hg mM hbox hb;have dQ:=am (hbox);have gW:=cN hg;have d5:=dm hg b2;have d6:=dn hg b2;replace d1:=ei d1 hb;replace d2:=ei d2 hb;replace d3:=ei d3 hb;replace b2:=aJ b2 hb;replace HB:=hB HB hb;clear hb hbox hg;have jM:=d6.out;have jN:=d5.out;obtain⟨⟨_,_,_,_,_,_⟩,_,_,_,_,_,_⟩:=z6 dQ;obtain⟨m8,m9,j5⟩:=Kd.ao d1.out;subst j5;obtain⟨mA,mB,j6⟩:=Kd.ao d2.out;subst j6;obtain⟨mC,mD,j7⟩:=Kd.ao d3.out;subst j7))
       go_ret
       exact⟨oE,oB⟩
      obtain rfl:=Option.some.inj H;obtain⟨⟨_,_⟩,_,_⟩:=z2 b2
      go_wp2_with (first|((with_reducible refine ai (f:=91) rfl ?_);refine ej 54 func91 (cT.calls k2 _ _ ag ak 1 gN gO gP gQ gR gS false _ (kC bT) dZ.out j1.out) ?_;rintro e mN ⟨j2,j3,j4,rfl,gT,dU,dV,hb⟩;refine⟨_,rfl,?_⟩;have d1:=am (Kd.an gT (ah oB));have d2:=am (Kd.an dU (ah oB));have d3:=am (Kd.an dV (ah oB));replace b2:=aJ b2 hb;replace HB:=hB HB hb;(try clear dU);(try clear dV))|((with_reducible refine aj (N:=5) rfl ?_);refine cO 5 #[.int .i64 0,.int .i64 0,.int .i64 0,.slice none 0 0,.slice none 0 0,.slice none 0 0] 58 ?_;intro gV hg mO hbox hb;have dQ:=am (hbox);have gW:=cN hg;have d5:=dm hg b2;have d6:=dn hg b2;replace d1:=ei d1 hb;replace d2:=ei d2 hb;replace d3:=ei d3 hb;replace b2:=aJ b2 hb;replace HB:=hB HB hb;clear hb hbox hg;have jO:=d6.out;have jP:=d5.out;obtain⟨⟨_,_,_,_,_,_⟩,_,_,_,_,_,_⟩:=z6 dQ;obtain⟨mE,mF,j8⟩:=Kd.ao d1.out;subst j8;obtain⟨mG,mH,j9⟩:=Kd.ao d2.out;subst j9;obtain⟨mI,mJ,jA⟩:=Kd.ao d3.out;subst jA))
      go_ret
      exact⟨oE,oB⟩
     obtain⟨jQ,H⟩:=cU H;obtain⟨jR,H⟩:=cU H;replace H:=bA H;obtain⟨mK,dO,H⟩:=H
     try dsimp only at H
     replace H:=lr H;rcases H with⟨rfl,H⟩|⟨rfl,H⟩;rotate_left
     ·obtain rfl:=Option.some.inj H;have dR:(0≤(b1:Int))=True:=oT;have dS:(b1<(ag.length:Int))=True:=oT;obtain⟨b6,b7,b8,b9,bB,bC,bD,d4,d7,d8,d9,dA,dB,dC,bG,bH,bI,bJ,bK,bL⟩:=fN bT HB b1 oa oa
      cases d4
      try go_wp2_with (first|((with_reducible refine aj (N:=4) rfl ?_);refine cO 4 #[.int .i64 0,.int .i64 0,.int .i64 0,.slice none 0 0,.slice none 0 0,.slice none 0 0] 58 ?_;intro b3 hg jF hbox hb;have b4:=am (hbox);have dH:=cN hg;have bE:=dm hg b2;have bF:=dn hg b2;replace b2:=aJ b2 hb;replace HB:=hB HB hb;clear hb hbox hg;have jS:=bF.out;have jT:=bE.out;obtain⟨⟨_,_,_,_,_,_⟩,_,_,_,_,_,_⟩:=z6 b4))
      generalize kc:((((((jF.setCell ⟨b3,0,none⟩ (.int .i64 ((af ag b1).f0))).setCell ⟨b3,1,none⟩ (.int .i64 ((af ag b1).f1))).setCell ⟨b3,2,none⟩ (.int .i64 ((af ag b1).f2))).setCell ⟨b3,3,none⟩ (.slice b7 ((af ag b1).f3).length b8)).setCell ⟨b3,4,none⟩ (.slice b9 ((af ag b1).f4).length bB)).setCell ⟨b3,5,none⟩ (.slice bC ((af ag b1).f5).length bD))=w48;replace b2:=wO kc b2;replace b4:=yl #[.int .i64 ((af ag b1).f0),.int .i64 ((af ag b1).f1),.int .i64 ((af ag b1).f2),.slice b7 ((af ag b1).f3).length b8,.slice b9 ((af ag b1).f4).length bB,.slice bC ((af ag b1).f5).length bD] kc b4;replace HB:=wS kc HB;clear kc;replace b2:=am (au b2.out);replace b4:=am (au b4.out);replace HB:=am (av HB.out);refine np 26 (fun w'=>w'.cell? ⟨b3,0,none⟩=some (.int .i64 ((af ag b1).f0))∧w'.cell? ⟨b3,1,none⟩=some (.int .i64 ((af ag b1).f1))∧w'.cell? ⟨b3,2,none⟩=some (.int .i64 ((af ag b1).f2))∧w'.cell? ⟨b3,3,none⟩=some (.slice b7 ((af ag b1).f3).length b8)∧w'.cell? ⟨b3,4,none⟩=some (.slice b9 ((af ag b1).f4).length bB)∧w'.cell? ⟨b3,5,none⟩=some (.slice bC ((af ag b1).f5).length bD)) bs.tab6 bs.nv oH (fun hHeld ax eN=> ?_);generalize w48.drew=mP at b2 b4 HB hHeld⊢;refine gj 0 25 ax eN hHeld ?_;refine lg 1 26 ax (fun K hK=> ?_);refine lO 26 func145 (bm.calls k2 ((af ag b1).f0) ((af ag b1).f1) ((af ag b1).f2) _ _ ((af ag b1).f3) _ _ ((af ag b1).f4) _ _ ((af ag b1).f5) false _ (kC bH) bG.out (kC bJ) bI.out (kC bL) bK.out dO.out) ?_;rintro e mQ ⟨rfl,hb⟩;refine⟨_,rfl,?_⟩;replace b2:=aJ b2 hb;replace b4:=aJ b4 hb;replace HB:=hB HB hb;refine eW hK 26 oH (fun hHeld=> ?_);clear hK K;refine bz 2 27 ax ?_;refine bz 3 28 ax ?_;refine fX 4 29 ax ?_;refine fX 5 30 ax ?_;refine fX 6 31 ax ?_;refine fX 7 32 ax ?_;refine fX 8 33 ax ?_;refine bz 9 34 ax ?_;refine bz 10 35 ax ?_;refine fX 11 36 ax ?_;refine fX 12 37 ax ?_;refine fX 13 38 ax ?_;refine fX 14 39 ax ?_;refine fX 15 40 ax ?_;refine fX 16 41 ax ?_;refine fX 17 42 ax ?_;refine fX 18 43 ax ?_;refine fX 19 44 ax ?_;refine fX 20 45 ax ?_;refine fX 21 46 ax ?_;refine fX 22 47 ax ?_;refine fX 23 48 ax ?_;refine fX 24 49 ax ?_;refine bz 25 50 ax ?_;refine mo ax ?_
      try go_wp2
      go_ret
      exact⟨oE,oB⟩
     replace H:=itH H;rcases H with⟨gX,H⟩|⟨gX,H⟩
     ·obtain rfl:=Option.some.inj H;have dR:(0≤(b1:Int))=True:=oT;have dS:(b1<(ag.length:Int))=True:=oT;obtain⟨b6,b7,b8,b9,bB,bC,bD,d4,d7,d8,d9,dA,dB,dC,bG,bH,bI,bJ,bK,bL⟩:=fN bT HB b1 oa oa
      cases d4
      try go_wp2_with (first|((with_reducible refine aj (N:=4) rfl ?_);refine cO 4 #[.int .i64 0,.int .i64 0,.int .i64 0,.slice none 0 0,.slice none 0 0,.slice none 0 0] 58 ?_;intro b3 hg jG hbox hb;have b4:=am (hbox);have dH:=cN hg;have bE:=dm hg b2;have bF:=dn hg b2;replace b2:=aJ b2 hb;replace HB:=hB HB hb;clear hb hbox hg;have jU:=bF.out;have jV:=bE.out;obtain⟨⟨_,_,_,_,_,_⟩,_,_,_,_,_,_⟩:=z6 b4))
      generalize kc:((((((jG.setCell ⟨b3,0,none⟩ (.int .i64 ((af ag b1).f0))).setCell ⟨b3,1,none⟩ (.int .i64 ((af ag b1).f1))).setCell ⟨b3,2,none⟩ (.int .i64 ((af ag b1).f2))).setCell ⟨b3,3,none⟩ (.slice b7 ((af ag b1).f3).length b8)).setCell ⟨b3,4,none⟩ (.slice b9 ((af ag b1).f4).length bB)).setCell ⟨b3,5,none⟩ (.slice bC ((af ag b1).f5).length bD))=w19;replace b2:=wO kc b2;replace b4:=yl #[.int .i64 ((af ag b1).f0),.int .i64 ((af ag b1).f1),.int .i64 ((af ag b1).f2),.slice b7 ((af ag b1).f3).length b8,.slice b9 ((af ag b1).f4).length bB,.slice bC ((af ag b1).f5).length bD] kc b4;replace HB:=wS kc HB;clear kc;replace b2:=am (au b2.out);replace b4:=am (au b4.out);replace HB:=am (av HB.out);refine np 26 (fun w'=>w'.cell? ⟨b3,0,none⟩=some (.int .i64 ((af ag b1).f0))∧w'.cell? ⟨b3,1,none⟩=some (.int .i64 ((af ag b1).f1))∧w'.cell? ⟨b3,2,none⟩=some (.int .i64 ((af ag b1).f2))∧w'.cell? ⟨b3,3,none⟩=some (.slice b7 ((af ag b1).f3).length b8)∧w'.cell? ⟨b3,4,none⟩=some (.slice b9 ((af ag b1).f4).length bB)∧w'.cell? ⟨b3,5,none⟩=some (.slice bC ((af ag b1).f5).length bD)∧w'.cell? ⟨bS,0,none⟩=some (.slice (some b6) ag.length aT)∧w'.cell? ⟨bS,1,none⟩=some (.int .i64 ak)) bs.tab6 bs.nv oH (fun hHeld ax eN=> ?_);generalize w19.drew=mS at b2 b4 HB hHeld⊢;refine gj 0 25 ax eN hHeld ?_;refine lg 1 26 ax (fun K hK=> ?_);refine lO 26 func145 (bm.calls k2 ((af ag b1).f0) ((af ag b1).f1) ((af ag b1).f2) _ _ ((af ag b1).f3) _ _ ((af ag b1).f4) _ _ ((af ag b1).f5) true _ (kC bH) bG.out (kC bJ) bI.out (kC bL) bK.out dO.out) ?_;rintro e mT ⟨rfl,hb⟩;refine⟨_,rfl,?_⟩;replace b2:=aJ b2 hb;replace b4:=aJ b4 hb;replace HB:=hB HB hb;refine eW hK 26 oH (fun hHeld=> ?_);clear hK K;refine bz 2 27 ax ?_;refine bz 3 28 ax ?_;refine bz 4 29 ax ?_;refine bz 6 31 ax ?_;refine gj 5 30 ax eN hHeld ?_;refine gj 7 32 ax eN hHeld ?_;refine bz 8 33 ax ?_;refine bz 9 34 ax ?_;refine bz 10 35 ax ?_;refine fX 11 36 ax ?_;refine fX 12 37 ax ?_;refine fX 13 38 ax ?_;refine fX 14 39 ax ?_;refine fX 15 40 ax ?_;refine fX 16 41 ax ?_;refine fX 17 42 ax ?_;refine fX 18 43 ax ?_;refine fX 19 44 ax ?_;refine fX 20 45 ax ?_;refine fX 21 46 ax ?_;refine fX 22 47 ax ?_;refine fX 23 48 ax ?_;refine fX 24 49 ax ?_;refine bz 25 50 ax ?_;refine mo ax ?_
      try go_wp2
      go_ret
      exact⟨oE,oB⟩
     replace H:=AA H;rcases H with⟨gY,H⟩|⟨gY,H⟩;rotate_left
     ·have H':=ae.mk H;clear H;have dR:(0≤(b1:Int))=True:=oT;have dS:(b1<(ag.length:Int))=True:=oT;obtain⟨b6,b7,b8,b9,bB,bC,bD,d4,d7,d8,d9,dA,dB,dC,bG,bH,bI,bJ,bK,bL⟩:=fN bT HB b1 oa oa
      cases d4
      try go_wp2_with (first|((with_reducible refine aj (N:=4) rfl ?_);refine cO 4 #[.int .i64 0,.int .i64 0,.int .i64 0,.slice none 0 0,.slice none 0 0,.slice none 0 0] 58 ?_;intro b3 hg jH hbox hb;have b4:=am (hbox);have dH:=cN hg;have bE:=dm hg b2;have bF:=dn hg b2;replace b2:=aJ b2 hb;replace HB:=hB HB hb;clear hb hbox hg;have jW:=bF.out;have jX:=bE.out;obtain⟨⟨_,_,_,_,_,_⟩,_,_,_,_,_,_⟩:=z6 b4))
      generalize kc:((((((jH.setCell ⟨b3,0,none⟩ (.int .i64 ((af ag b1).f0))).setCell ⟨b3,1,none⟩ (.int .i64 ((af ag b1).f1))).setCell ⟨b3,2,none⟩ (.int .i64 ((af ag b1).f2))).setCell ⟨b3,3,none⟩ (.slice b7 ((af ag b1).f3).length b8)).setCell ⟨b3,4,none⟩ (.slice b9 ((af ag b1).f4).length bB)).setCell ⟨b3,5,none⟩ (.slice bC ((af ag b1).f5).length bD))=w42;replace b2:=wO kc b2;replace b4:=yl #[.int .i64 ((af ag b1).f0),.int .i64 ((af ag b1).f1),.int .i64 ((af ag b1).f2),.slice b7 ((af ag b1).f3).length b8,.slice b9 ((af ag b1).f4).length bB,.slice bC ((af ag b1).f5).length bD] kc b4;replace HB:=wS kc HB;clear kc;replace b2:=am (au b2.out);replace b4:=am (au b4.out);replace HB:=am (av HB.out);refine np 26 (fun w'=>w'.cell? ⟨b3,0,none⟩=some (.int .i64 ((af ag b1).f0))∧w'.cell? ⟨b3,1,none⟩=some (.int .i64 ((af ag b1).f1))∧w'.cell? ⟨b3,2,none⟩=some (.int .i64 ((af ag b1).f2))∧w'.cell? ⟨b3,3,none⟩=some (.slice b7 ((af ag b1).f3).length b8)∧w'.cell? ⟨b3,4,none⟩=some (.slice b9 ((af ag b1).f4).length bB)∧w'.cell? ⟨b3,5,none⟩=some (.slice bC ((af ag b1).f5).length bD)∧w'.cell? ⟨bS,0,none⟩=some (.slice (some b6) ag.length aT)∧w'.cell? ⟨bS,1,none⟩=some (.int .i64 ak)) bs.tab6 bs.nv oH (fun hHeld ax eN=> ?_);generalize w42.drew=mU at b2 b4 HB hHeld⊢;refine gj 0 25 ax eN hHeld ?_;refine lg 1 26 ax (fun K hK=> ?_);refine lO 26 func145 (bm.calls k2 ((af ag b1).f0) ((af ag b1).f1) ((af ag b1).f2) _ _ ((af ag b1).f3) _ _ ((af ag b1).f4) _ _ ((af ag b1).f5) true _ (kC bH) bG.out (kC bJ) bI.out (kC bL) bK.out dO.out) ?_;rintro e mV ⟨rfl,hb⟩;refine⟨_,rfl,?_⟩;replace b2:=aJ b2 hb;replace b4:=aJ b4 hb;replace HB:=hB HB hb;refine eW hK 26 oH (fun hHeld=> ?_);clear hK K;refine bz 2 27 ax ?_;refine bz 3 28 ax ?_;refine bz 4 29 ax ?_;refine bz 6 31 ax ?_;refine gj 5 30 ax eN hHeld ?_;refine gj 7 32 ax eN hHeld ?_;refine bz 8 33 ax ?_;refine bz 9 34 ax ?_;refine bz 10 35 ax ?_;refine bz 11 36 ax ?_;refine bz 12 37 ax ?_;refine bz 13 38 ax ?_;refine fX 14 39 ax ?_;refine fX 15 40 ax ?_;refine fX 16 41 ax ?_;refine fX 17 42 ax ?_;refine fX 18 43 ax ?_;refine fX 19 44 ax ?_;refine fX 20 45 ax ?_;refine fX 21 46 ax ?_;refine fX 22 47 ax ?_;refine fX 23 48 ax ?_;refine bz 24 49 ax ?_;refine bz 25 50 ax ?_;refine mo ax ?_
      try go_wp2
      go_roundg k2
      case measure=>have:=gA.out;have:=gB.out;omega
      case rel=>exact⟨(wrap64 (b1+1)),oS,H',⟨by have:=gA.out;have:=gB.out;omega⟩,⟨oF b2⟩,⟨oB⟩⟩
     obtain⟨b5,dD⟩:∃j_:Int,(wrap64 (b1-1))=j_:=⟨_,rfl⟩
     replace H:(if 0≤(b5)then(if(b5)<(ag.length:Int)then(if((af ag (b5)).f0)≥((af ag b1).f0)then(some false)else(bs.l0 k2 ag (ag.length:Int) (wrap64 (b1+1)) ag ak))else(none))else(none))=some r:=by first|(rw[dD]at H;exact H)|(simp only[dD]at H⊢;exact H)
     (try rw[dD]at dO)
     have jI:(IntKind.i64.wrap (b1-1))=b5:=(kK _).trans dD;obtain⟨jY,H⟩:=cU H;obtain⟨jZ,H⟩:=cU H;replace H:=itH H;rcases H with⟨gZ,H⟩|⟨gZ,H⟩;rotate_left
     ·have H':=ae.mk H;clear H;have dR:(0≤(b1:Int))=True:=oT;have dS:(b1<(ag.length:Int))=True:=oT;obtain⟨b6,b7,b8,b9,bB,bC,bD,d4,d7,d8,d9,dA,dB,dC,bG,bH,bI,bJ,bK,bL⟩:=fN bT HB b1 oa oa
      cases d4
      try go_wp2_with (first|((with_reducible refine aj (N:=4) rfl ?_);refine cO 4 #[.int .i64 0,.int .i64 0,.int .i64 0,.slice none 0 0,.slice none 0 0,.slice none 0 0] 58 ?_;intro b3 hg jJ hbox hb;have b4:=am (hbox);have dH:=cN hg;have bE:=dm hg b2;have bF:=dn hg b2;replace b2:=aJ b2 hb;replace HB:=hB HB hb;clear hb hbox hg;have m1:=bF.out;have m2:=bE.out;obtain⟨⟨_,_,_,_,_,_⟩,_,_,_,_,_,_⟩:=z6 b4))
      generalize kc:((((((jJ.setCell ⟨b3,0,none⟩ (.int .i64 ((af ag b1).f0))).setCell ⟨b3,1,none⟩ (.int .i64 ((af ag b1).f1))).setCell ⟨b3,2,none⟩ (.int .i64 ((af ag b1).f2))).setCell ⟨b3,3,none⟩ (.slice b7 ((af ag b1).f3).length b8)).setCell ⟨b3,4,none⟩ (.slice b9 ((af ag b1).f4).length bB)).setCell ⟨b3,5,none⟩ (.slice bC ((af ag b1).f5).length bD))=w36;replace b2:=wO kc b2;replace b4:=yl #[.int .i64 ((af ag b1).f0),.int .i64 ((af ag b1).f1),.int .i64 ((af ag b1).f2),.slice b7 ((af ag b1).f3).length b8,.slice b9 ((af ag b1).f4).length bB,.slice bC ((af ag b1).f5).length bD] kc b4;replace HB:=wS kc HB;clear kc;replace b2:=am (au b2.out);replace b4:=am (au b4.out);replace HB:=am (av HB.out);have jB:(0≤((b5):Int))=True:=oT;have jC:((b5)<(ag.length:Int))=True:=oT;obtain⟨dT,dI,dJ,dK,dL,dM,dN,dY,bM,bN,bO,bP,bQ,bR,bU,bV,bW,bX,bY,bZ⟩:=gi bT.out (b5) oa oa;have gC:=bR;have gD:=bQ;have gE:=bP;have gF:=bO;have gG:=bN;have gH:=bM;obtain rfl:b6=dT:=(by injection dY);replace bM:=cB HB bM;replace bN:=cB HB bN;replace bO:=cB HB bO;replace bP:=cB HB bP;replace bQ:=cB HB bQ;replace bR:=cB HB bR;have dE:=ae.mk bV;have gI:=ae.mk bU;clear bV bU;have dF:=ae.mk bX;have gJ:=ae.mk bW;clear bX bW;have dG:=ae.mk bZ;have gK:=ae.mk bY;clear bZ bY;refine np 26 (fun w'=>w'.cell? ⟨b3,0,none⟩=some (.int .i64 ((af ag b1).f0))∧w'.cell? ⟨b3,1,none⟩=some (.int .i64 ((af ag b1).f1))∧w'.cell? ⟨b3,2,none⟩=some (.int .i64 ((af ag b1).f2))∧w'.cell? ⟨b3,3,none⟩=some (.slice b7 ((af ag b1).f3).length b8)∧w'.cell? ⟨b3,4,none⟩=some (.slice b9 ((af ag b1).f4).length bB)∧w'.cell? ⟨b3,5,none⟩=some (.slice bC ((af ag b1).f5).length bD)∧w'.cell? ⟨bS,0,none⟩=some (.slice (some b6) ag.length aT)∧w'.cell? ⟨bS,1,none⟩=some (.int .i64 ak)∧w'.cell? (b6.add (((b5)).toNat*6))=some (.int .i64 ((af ag (b5)).f0))∧w'.cell? ⟨(b6.add (((b5)).toNat*6)).block,(b6.add (((b5)).toNat*6)).off+1,none⟩=some (.int .i64 ((af ag (b5)).f1))∧w'.cell? ⟨(b6.add (((b5)).toNat*6)).block,(b6.add (((b5)).toNat*6)).off+2,none⟩=some (.int .i64 ((af ag (b5)).f2))∧w'.cell? ⟨(b6.add (((b5)).toNat*6)).block,(b6.add (((b5)).toNat*6)).off+3,none⟩=some (.slice dI ((af ag (b5)).f3).length dJ)∧w'.cell? ⟨(b6.add (((b5)).toNat*6)).block,(b6.add (((b5)).toNat*6)).off+4,none⟩=some (.slice dK ((af ag (b5)).f4).length dL)∧w'.cell? ⟨(b6.add (((b5)).toNat*6)).block,(b6.add (((b5)).toNat*6)).off+5,none⟩=some (.slice dM ((af ag (b5)).f5).length dN)) bs.tab6 bs.nv oH (fun hHeld ax eN=> ?_);generalize w36.drew=mW at b2 b4 HB dE dF dG bM bN bO bP bQ bR hHeld⊢;refine gj 0 25 ax eN hHeld ?_;refine lg 1 26 ax (fun K hK=> ?_);refine lO 26 func145 (bm.calls k2 ((af ag b1).f0) ((af ag b1).f1) ((af ag b1).f2) _ _ ((af ag b1).f3) _ _ ((af ag b1).f4) _ _ ((af ag b1).f5) true _ (kC bH) bG.out (kC bJ) bI.out (kC bL) bK.out dO.out) ?_;rintro e mX ⟨rfl,hb⟩;refine⟨_,rfl,?_⟩;replace b2:=aJ b2 hb;replace b4:=aJ b4 hb;replace HB:=hB HB hb;refine eW hK 26 oH (fun hHeld=> ?_);clear hK K;refine bz 2 27 ax ?_;refine bz 3 28 ax ?_;refine bz 4 29 ax ?_;refine bz 6 31 ax ?_;refine gj 5 30 ax eN hHeld ?_;refine gj 7 32 ax eN hHeld ?_;refine bz 8 33 ax ?_;refine bz 9 34 ax ?_;refine bz 10 35 ax ?_;refine bz 11 36 ax ?_;refine bz 12 37 ax ?_;refine bz 13 38 ax ?_;refine bz 14 39 ax ?_;refine bz 16 41 ax ?_;refine bz 17 42 ax ?_;refine bz 21 46 ax ?_;refine gj 15 40 ax eN hHeld ?_;refine bz 18 43 ax ?_;refine bz 19 44 ax ?_;refine gj 20 45 ax eN hHeld ?_;refine gj 22 47 ax eN hHeld ?_;refine bz 23 48 ax ?_;refine bz 24 49 ax ?_;refine bz 25 50 ax ?_;refine mo ax ?_
      try go_wp2
      go_roundg k2
      case measure=>have:=gA.out;have:=gB.out;omega
      case rel=>exact⟨(wrap64 (b1+1)),oS,H',⟨by have:=gA.out;have:=gB.out;omega⟩,⟨oF b2⟩,⟨oB⟩⟩
     obtain rfl:=Option.some.inj H;have dR:(0≤(b1:Int))=True:=oT;have dS:(b1<(ag.length:Int))=True:=oT;obtain⟨b6,b7,b8,b9,bB,bC,bD,d4,d7,d8,d9,dA,dB,dC,bG,bH,bI,bJ,bK,bL⟩:=fN bT HB b1 oa oa
     cases d4
     try go_wp2_with (first|((with_reducible refine aj (N:=4) rfl ?_);refine cO 4 #[.int .i64 0,.int .i64 0,.int .i64 0,.slice none 0 0,.slice none 0 0,.slice none 0 0] 58 ?_;intro b3 hg jK hbox hb;have b4:=am (hbox);have dH:=cN hg;have bE:=dm hg b2;have bF:=dn hg b2;replace b2:=aJ b2 hb;replace HB:=hB HB hb;clear hb hbox hg;have m3:=bF.out;have m4:=bE.out;obtain⟨⟨_,_,_,_,_,_⟩,_,_,_,_,_,_⟩:=z6 b4))
     generalize kc:((((((jK.setCell ⟨b3,0,none⟩ (.int .i64 ((af ag b1).f0))).setCell ⟨b3,1,none⟩ (.int .i64 ((af ag b1).f1))).setCell ⟨b3,2,none⟩ (.int .i64 ((af ag b1).f2))).setCell ⟨b3,3,none⟩ (.slice b7 ((af ag b1).f3).length b8)).setCell ⟨b3,4,none⟩ (.slice b9 ((af ag b1).f4).length bB)).setCell ⟨b3,5,none⟩ (.slice bC ((af ag b1).f5).length bD))=w30;replace b2:=wO kc b2;replace b4:=yl #[.int .i64 ((af ag b1).f0),.int .i64 ((af ag b1).f1),.int .i64 ((af ag b1).f2),.slice b7 ((af ag b1).f3).length b8,.slice b9 ((af ag b1).f4).length bB,.slice bC ((af ag b1).f5).length bD] kc b4;replace HB:=wS kc HB;clear kc;replace b2:=am (au b2.out);replace b4:=am (au b4.out);replace HB:=am (av HB.out);have jB:(0≤((b5):Int))=True:=oT;have jC:((b5)<(ag.length:Int))=True:=oT;obtain⟨dT,dI,dJ,dK,dL,dM,dN,dY,bM,bN,bO,bP,bQ,bR,bU,bV,bW,bX,bY,bZ⟩:=gi bT.out (b5) oa oa;have gC:=bR;have gD:=bQ;have gE:=bP;have gF:=bO;have gG:=bN;have gH:=bM;obtain rfl:b6=dT:=(by injection dY);replace bM:=cB HB bM;replace bN:=cB HB bN;replace bO:=cB HB bO;replace bP:=cB HB bP;replace bQ:=cB HB bQ;replace bR:=cB HB bR;have dE:=ae.mk bV;have gI:=ae.mk bU;clear bV bU;have dF:=ae.mk bX;have gJ:=ae.mk bW;clear bX bW;have dG:=ae.mk bZ;have gK:=ae.mk bY;clear bZ bY;refine np 26 (fun w'=>w'.cell? ⟨b3,0,none⟩=some (.int .i64 ((af ag b1).f0))∧w'.cell? ⟨b3,1,none⟩=some (.int .i64 ((af ag b1).f1))∧w'.cell? ⟨b3,2,none⟩=some (.int .i64 ((af ag b1).f2))∧w'.cell? ⟨b3,3,none⟩=some (.slice b7 ((af ag b1).f3).length b8)∧w'.cell? ⟨b3,4,none⟩=some (.slice b9 ((af ag b1).f4).length bB)∧w'.cell? ⟨b3,5,none⟩=some (.slice bC ((af ag b1).f5).length bD)∧w'.cell? ⟨bS,0,none⟩=some (.slice (some b6) ag.length aT)∧w'.cell? ⟨bS,1,none⟩=some (.int .i64 ak)∧w'.cell? (b6.add (((b5)).toNat*6))=some (.int .i64 ((af ag (b5)).f0))∧w'.cell? ⟨(b6.add (((b5)).toNat*6)).block,(b6.add (((b5)).toNat*6)).off+1,none⟩=some (.int .i64 ((af ag (b5)).f1))∧w'.cell? ⟨(b6.add (((b5)).toNat*6)).block,(b6.add (((b5)).toNat*6)).off+2,none⟩=some (.int .i64 ((af ag (b5)).f2))∧w'.cell? ⟨(b6.add (((b5)).toNat*6)).block,(b6.add (((b5)).toNat*6)).off+3,none⟩=some (.slice dI ((af ag (b5)).f3).length dJ)∧w'.cell? ⟨(b6.add (((b5)).toNat*6)).block,(b6.add (((b5)).toNat*6)).off+4,none⟩=some (.slice dK ((af ag (b5)).f4).length dL)∧w'.cell? ⟨(b6.add (((b5)).toNat*6)).block,(b6.add (((b5)).toNat*6)).off+5,none⟩=some (.slice dM ((af ag (b5)).f5).length dN)) bs.tab6 bs.nv oH (fun hHeld ax eN=> ?_);generalize w30.drew=mY at b2 b4 HB dE dF dG bM bN bO bP bQ bR hHeld⊢;refine gj 0 25 ax eN hHeld ?_;refine lg 1 26 ax (fun K hK=> ?_);refine lO 26 func145 (bm.calls k2 ((af ag b1).f0) ((af ag b1).f1) ((af ag b1).f2) _ _ ((af ag b1).f3) _ _ ((af ag b1).f4) _ _ ((af ag b1).f5) true _ (kC bH) bG.out (kC bJ) bI.out (kC bL) bK.out dO.out) ?_;rintro e mZ ⟨rfl,hb⟩;refine⟨_,rfl,?_⟩;replace b2:=aJ b2 hb;replace b4:=aJ b4 hb;replace HB:=hB HB hb;refine eW hK 26 oH (fun hHeld=> ?_);clear hK K;refine bz 2 27 ax ?_;refine bz 3 28 ax ?_;refine bz 4 29 ax ?_;refine bz 6 31 ax ?_;refine gj 5 30 ax eN hHeld ?_;refine gj 7 32 ax eN hHeld ?_;refine bz 8 33 ax ?_;refine bz 9 34 ax ?_;refine bz 10 35 ax ?_;refine bz 11 36 ax ?_;refine bz 12 37 ax ?_;refine bz 13 38 ax ?_;refine bz 14 39 ax ?_;refine bz 16 41 ax ?_;refine bz 17 42 ax ?_;refine bz 21 46 ax ?_;refine gj 15 40 ax eN hHeld ?_;refine bz 18 43 ax ?_;refine bz 19 44 ax ?_;refine gj 20 45 ax eN hHeld ?_;refine gj 22 47 ax eN hHeld ?_;refine bz 23 48 ax ?_;refine bz 24 49 ax ?_;refine bz 25 50 ax ?_;refine mo ax ?_
     try go_wp2
     go_ret
     exact⟨by first|rfl|(simp[ee,ef]<;>rfl)|(simp only[←dD];first|rfl|(simp[ee,ef]<;>rfl))|(simp[*,ee,ef]<;>rfl),oB⟩

def cg.l0:Nat→List (aX)→List (aX)→Int→Option (Bool)
 |0,_,_,_=>none
 |k+1,x0,x1,x5=>if x5<(x0.length:Int)then(if 0≤x5 then(if x5<(x1.length:Int)then((iS.f k ((af x0 x5).f0) ((af x0 x5).f1) ((af x0 x5).f2) ((af x0 x5).f3) ((af x0 x5).f4) ((af x0 x5).f5) ((af x1 x5).f0) ((af x1 x5).f1) ((af x1 x5).f2) ((af x1 x5).f3) ((af x1 x5).f4) ((af x1 x5).f5)).bind fun b1=>(if b1=true then(cg.l0 k x0 x1 (wrap64 (x5+1)))else(some false)))else(none))else(none))else(some true)
def cg.f (k:Nat) (l0:List (aX)) (l1:List (aX)):Option (Bool):=if(l0.length:Int)=(l1.length:Int)then(cg.l0 k l0 l1 0)else(some false)
def cg.T6:Bool×List (List Nat×List Nat):=(true,[([],[]),([],[]),([0,1],[0,1]),([2],[2]),([],[]),([],[]),([4,5],[4,5]),([6],[6]),([3,7],[3,7]),([8],[8])])
def cg.B6:List Nat:=[0,0,3,7,0,0,48,112,255,511]
theorem cg.tab6:ij .any (opsOf Tryz.f36 6)=cg.T6:=by kernel_rfl
theorem cg.nv:fa cg.T6.2 cg.B6=true:=by kernel_rfl
theorem cg.calls (k:Nat) (A0:Option Addr) (c0:Nat) (l0:List (aX)) (A1:Option Addr) (c1:Nat) (l1:List (aX)) (r:Bool) (w:World) (hr0:Kd.C gh w A0 l0.length l0) (hc0:l0.length≤c0) (hr1:Kd.C gh w A1 l1.length l1) (hc1:l1.length≤c1) (h:cg.f k l0 l1=some r):
  Calls Tryz.prog 36 #[.slice A0 l0.length c0,.slice A1 l1.length c1] w fun e w'=>e= .returned (.bool r)∧Below w.heap.size w w':=by
 have gH:=underlying58;have dW:=ae.mk hr0;have gL:=ae.mk hc0;clear hr0 hc0;have dX:=ae.mk hr1;have gM:=ae.mk hc1;clear hr1 hc1;have HB:=am (Below.refl w.heap.size w);unfold cg.f at h;have H:=h;clear h
 by_cases c3:(l0.length:Int)=(l1.length:Int)
 rotate_left
 ·rw[if_neg c3]at H;have dZ:((l0.length:Int)==(l1.length:Int))=false:=beq_eq_false_iff_ne.mpr c3;have gA:((l0.length:Int) !=(l1.length:Int))=true:=bne_iff_ne.mpr c3
  have gB:(l0.length==l1.length)=false:=by first|simpa using c3|(simp at c3⊢;omega)
  obtain rfl:=Option.some.inj H
  go_enter func36,ntmps36
  go_wp2
  go_ret
  exact⟨oE,oB⟩
 rw[if_pos c3]at H;have dZ:((l0.length:Int)==(l1.length:Int))=true:=beq_iff_eq.mpr c3;have gA:((l0.length:Int) !=(l1.length:Int))=false:=bne_eq_false_iff_eq.mpr c3
 have gB:(l0.length==l1.length)=true:=by first|simpa using c3|(simp at c3⊢;omega)
 clear c3;have H':=ae.mk H;clear H
 go_enter func36,ntmps36
 go_wp2
 go_loopg [5] k (fun kq v5 w'=>∃(b1:Int),v5= .int .i64 b1∧ae (cg.l0 kq l0 l1 b1=some r)∧ae (kq≤k)∧ae (Below w.heap.size w w'))
 case atStart=>exact⟨(0),oS,H',⟨Nat.le_refl _⟩,⟨oB⟩⟩
 case round=>
  clear H'
  try clear c1
  try clear c3
  obtain⟨b1,rfl,HA,dY,HB⟩:=hrel
  cases gk with
  |zero=>exact absurd HA.out (by simp[cg.l0])
  |succ k1=>
   have H:=HA.out;clear HA;simp only[cg.l0]at H;replace H:=jm H;rcases H with⟨gC,H⟩|⟨gC,H⟩;rotate_left
   ·obtain rfl:=Option.some.inj H
    go_wp2
    go_ret
    exact⟨oE,oB⟩
   obtain⟨gI,H⟩:=cU H;obtain⟨gJ,H⟩:=cU H;replace H:=bA H;obtain⟨gK,A7,H⟩:=H
   try dsimp only at H
   replace H:=lr H;rcases H with⟨rfl,H⟩|⟨rfl,H⟩;rotate_left
   ·obtain rfl:=Option.some.inj H
    try go_wp2
    replace HB:=am (av HB.out);have gD:(0≤(b1:Int))=True:=oT;have gE:(b1<(l0.length:Int))=True:=oT;obtain⟨b2,d6,d7,d8,d9,dA,dB,dI,b4,b5,b6,b7,b8,b9,bH,bI,bJ,bK,bL,bM⟩:=gi dW.out b1 oa oa;have dK:=b9;have dL:=b8;have dM:=b7;have dN:=b6;have dO:=b5;have dP:=b4
    cases dI
    replace b4:=cB HB b4;replace b5:=cB HB b5;replace b6:=cB HB b6;replace b7:=cB HB b7;replace b8:=cB HB b8;replace b9:=cB HB b9;have bN:=ae.mk bI;have bZ:=ae.mk bH;clear bI bH;have bO:=ae.mk bK;have d1:=ae.mk bJ;clear bK bJ;have bP:=ae.mk bM;have d2:=ae.mk bL;clear bM bL;have gF:(0≤(b1:Int))=True:=oT;have gG:(b1<(l1.length:Int))=True:=oT;obtain⟨b3,dC,dD,dE,dF,dG,dH,dJ,bB,bC,bD,bE,bF,bG,bQ,bR,bS,bT,bU,bV⟩:=gi dX.out b1 oa oa;have dQ:=bG;have dR:=bF;have dS:=bE;have dT:=bD;have dU:=bC;have dV:=bB
    cases dJ
    replace bB:=cB HB bB;replace bC:=cB HB bC;replace bD:=cB HB bD;replace bE:=cB HB bE;replace bF:=cB HB bF;replace bG:=cB HB bG;have bW:=ae.mk bR;have d3:=ae.mk bQ;clear bR bQ;have bX:=ae.mk bT;have d4:=ae.mk bS;clear bT bS;have bY:=ae.mk bV;have d5:=ae.mk bU;clear bV bU;refine np 10 (fun w'=>w'.cell? (b2.add ((b1).toNat*6))=some (.int .i64 ((af l0 b1).f0))∧w'.cell? ⟨(b2.add ((b1).toNat*6)).block,(b2.add ((b1).toNat*6)).off+1,none⟩=some (.int .i64 ((af l0 b1).f1))∧w'.cell? ⟨(b2.add ((b1).toNat*6)).block,(b2.add ((b1).toNat*6)).off+2,none⟩=some (.int .i64 ((af l0 b1).f2))∧w'.cell? ⟨(b2.add ((b1).toNat*6)).block,(b2.add ((b1).toNat*6)).off+3,none⟩=some (.slice d6 ((af l0 b1).f3).length d7)∧w'.cell? ⟨(b2.add ((b1).toNat*6)).block,(b2.add ((b1).toNat*6)).off+4,none⟩=some (.slice d8 ((af l0 b1).f4).length d9)∧w'.cell? ⟨(b2.add ((b1).toNat*6)).block,(b2.add ((b1).toNat*6)).off+5,none⟩=some (.slice dA ((af l0 b1).f5).length dB)∧w'.cell? (b3.add ((b1).toNat*6))=some (.int .i64 ((af l1 b1).f0))∧w'.cell? ⟨(b3.add ((b1).toNat*6)).block,(b3.add ((b1).toNat*6)).off+1,none⟩=some (.int .i64 ((af l1 b1).f1))∧w'.cell? ⟨(b3.add ((b1).toNat*6)).block,(b3.add ((b1).toNat*6)).off+2,none⟩=some (.int .i64 ((af l1 b1).f2))∧w'.cell? ⟨(b3.add ((b1).toNat*6)).block,(b3.add ((b1).toNat*6)).off+3,none⟩=some (.slice dC ((af l1 b1).f3).length dD)∧w'.cell? ⟨(b3.add ((b1).toNat*6)).block,(b3.add ((b1).toNat*6)).off+4,none⟩=some (.slice dE ((af l1 b1).f4).length dF)∧w'.cell? ⟨(b3.add ((b1).toNat*6)).block,(b3.add ((b1).toNat*6)).off+5,none⟩=some (.slice dG ((af l1 b1).f5).length dH)) cg.tab6 cg.nv oH (fun hHeld ax eN=> ?_);generalize wr.drew=gN at HB bN bO bP bW bX bY b4 b5 b6 b7 b8 b9 bB bC bD bE bF bG hHeld⊢;refine bz 0 17 ax ?_;refine bz 1 18 ax ?_;refine bz 2 19 ax ?_;refine bz 4 21 ax ?_;refine bz 5 22 ax ?_;refine bz 6 23 ax ?_;refine gj 3 20 ax eN hHeld ?_;refine gj 7 24 ax eN hHeld ?_;refine lg 8 25 ax (fun K hK=> ?_);refine lO 25 func72 (iS.calls k1 ((af l0 b1).f0) ((af l0 b1).f1) ((af l0 b1).f2) _ _ ((af l0 b1).f3) _ _ ((af l0 b1).f4) _ _ ((af l0 b1).f5) ((af l1 b1).f0) ((af l1 b1).f1) ((af l1 b1).f2) _ _ ((af l1 b1).f3) _ _ ((af l1 b1).f4) _ _ ((af l1 b1).f5) false _ (kC bN) bZ.out (kC bO) d1.out (kC bP) d2.out (kC bW) d3.out (kC bX) d4.out (kC bY) d5.out A7.out) ?_;rintro e gO ⟨rfl,hb⟩;refine⟨_,rfl,?_⟩;replace HB:=hB HB hb;refine eW hK 25 oH (fun hHeld=> ?_);clear hK K;refine bz 9 26 ax ?_;refine mo ax ?_
    try go_wp2
    go_ret
    exact⟨oE,oB⟩
   have H':=ae.mk H;clear H
   try go_wp2
   replace HB:=am (av HB.out);have gD:(0≤(b1:Int))=True:=oT;have gE:(b1<(l0.length:Int))=True:=oT;obtain⟨b2,d6,d7,d8,d9,dA,dB,dI,b4,b5,b6,b7,b8,b9,bH,bI,bJ,bK,bL,bM⟩:=gi dW.out b1 oa oa;have dK:=b9;have dL:=b8;have dM:=b7;have dN:=b6;have dO:=b5;have dP:=b4
   cases dI
   replace b4:=cB HB b4;replace b5:=cB HB b5;replace b6:=cB HB b6;replace b7:=cB HB b7;replace b8:=cB HB b8;replace b9:=cB HB b9;have bN:=ae.mk bI;have bZ:=ae.mk bH;clear bI bH;have bO:=ae.mk bK;have d1:=ae.mk bJ;clear bK bJ;have bP:=ae.mk bM;have d2:=ae.mk bL;clear bM bL;have gF:(0≤(b1:Int))=True:=oT;have gG:(b1<(l1.length:Int))=True:=oT;obtain⟨b3,dC,dD,dE,dF,dG,dH,dJ,bB,bC,bD,bE,bF,bG,bQ,bR,bS,bT,bU,bV⟩:=gi dX.out b1 oa oa;have dQ:=bG;have dR:=bF;have dS:=bE;have dT:=bD;have dU:=bC;have dV:=bB
   cases dJ
   replace bB:=cB HB bB;replace bC:=cB HB bC;replace bD:=cB HB bD;replace bE:=cB HB bE;replace bF:=cB HB bF;replace bG:=cB HB bG;have bW:=ae.mk bR;have d3:=ae.mk bQ;clear bR bQ;have bX:=ae.mk bT;have d4:=ae.mk bS;clear bT bS;have bY:=ae.mk bV;have d5:=ae.mk bU;clear bV bU;refine np 10 (fun w'=>w'.cell? (b2.add ((b1).toNat*6))=some (.int .i64 ((af l0 b1).f0))∧w'.cell? ⟨(b2.add ((b1).toNat*6)).block,(b2.add ((b1).toNat*6)).off+1,none⟩=some (.int .i64 ((af l0 b1).f1))∧w'.cell? ⟨(b2.add ((b1).toNat*6)).block,(b2.add ((b1).toNat*6)).off+2,none⟩=some (.int .i64 ((af l0 b1).f2))∧w'.cell? ⟨(b2.add ((b1).toNat*6)).block,(b2.add ((b1).toNat*6)).off+3,none⟩=some (.slice d6 ((af l0 b1).f3).length d7)∧w'.cell? ⟨(b2.add ((b1).toNat*6)).block,(b2.add ((b1).toNat*6)).off+4,none⟩=some (.slice d8 ((af l0 b1).f4).length d9)∧w'.cell? ⟨(b2.add ((b1).toNat*6)).block,(b2.add ((b1).toNat*6)).off+5,none⟩=some (.slice dA ((af l0 b1).f5).length dB)∧w'.cell? (b3.add ((b1).toNat*6))=some (.int .i64 ((af l1 b1).f0))∧w'.cell? ⟨(b3.add ((b1).toNat*6)).block,(b3.add ((b1).toNat*6)).off+1,none⟩=some (.int .i64 ((af l1 b1).f1))∧w'.cell? ⟨(b3.add ((b1).toNat*6)).block,(b3.add ((b1).toNat*6)).off+2,none⟩=some (.int .i64 ((af l1 b1).f2))∧w'.cell? ⟨(b3.add ((b1).toNat*6)).block,(b3.add ((b1).toNat*6)).off+3,none⟩=some (.slice dC ((af l1 b1).f3).length dD)∧w'.cell? ⟨(b3.add ((b1).toNat*6)).block,(b3.add ((b1).toNat*6)).off+4,none⟩=some (.slice dE ((af l1 b1).f4).length dF)∧w'.cell? ⟨(b3.add ((b1).toNat*6)).block,(b3.add ((b1).toNat*6)).off+5,none⟩=some (.slice dG ((af l1 b1).f5).length dH)) cg.tab6 cg.nv oH (fun hHeld ax eN=> ?_);generalize wr.drew=w9 at HB bN bO bP bW bX bY b4 b5 b6 b7 b8 b9 bB bC bD bE bF bG hHeld⊢;refine bz 0 17 ax ?_;refine bz 1 18 ax ?_;refine bz 2 19 ax ?_;refine bz 4 21 ax ?_;refine bz 5 22 ax ?_;refine bz 6 23 ax ?_;refine gj 3 20 ax eN hHeld ?_;refine gj 7 24 ax eN hHeld ?_;refine lg 8 25 ax (fun K hK=> ?_);refine lO 25 func72 (iS.calls k1 ((af l0 b1).f0) ((af l0 b1).f1) ((af l0 b1).f2) _ _ ((af l0 b1).f3) _ _ ((af l0 b1).f4) _ _ ((af l0 b1).f5) ((af l1 b1).f0) ((af l1 b1).f1) ((af l1 b1).f2) _ _ ((af l1 b1).f3) _ _ ((af l1 b1).f4) _ _ ((af l1 b1).f5) true _ (kC bN) bZ.out (kC bO) d1.out (kC bP) d2.out (kC bW) d3.out (kC bX) d4.out (kC bY) d5.out A7.out) ?_;rintro e gP ⟨rfl,hb⟩;refine⟨_,rfl,?_⟩;replace HB:=hB HB hb;refine eW hK 25 oH (fun hHeld=> ?_);clear hK K;refine bz 9 26 ax ?_;refine mo ax ?_
   try go_wp2
   go_roundg k1
   case measure=>have:=dY.out;omega
   case rel=>exact⟨(wrap64 (b1+1)),oS,H',⟨by have:=dY.out;omega⟩,⟨oB⟩⟩
end Go.Proofs.YtlecajlnjmbilaaGreatDoor.P
