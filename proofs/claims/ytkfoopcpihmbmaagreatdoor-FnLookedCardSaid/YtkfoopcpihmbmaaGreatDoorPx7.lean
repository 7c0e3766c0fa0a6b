-- Printed walks.
import Derived.Test.YtkfoopcpihmbmaaGreatDoorPx6
set_option linter.all false
namespace Go.Proofs.YtkfoopcpihmbmaaGreatDoor.P
open Go.RowKit Go.Proofs.ab.av Go.Proofs.ab.aQ Go.Proofs.ab.aT Go.Proofs.Tryz
attribute [local go_sem] fP fQ hJ hO fm fo fR fS

mutual
def ca.j0:Nat→Bool→List (aW)→Int→Option (Bool)
 |0,_,_,_=>none
 |k+1,b3,b1,b2=>if b3=true then(some false)else(ca.l0 k 0 b1 b2)
def ca.l0:Nat→Int→List (aW)→Int→Option (Bool)
 |0,_,_,_=>none
 |k+1,x3,b1,b2=>if x3<(b1.length:Int)then(if 0≤x3 then((cW.f k ((ai b1 x3).f0) ((ai b1 x3).f1) ((ai b1 x3).f2) ((ai b1 x3).f3) ((ai b1 x3).f4) ((ai b1 x3).f5)).bind fun b3=>(if b3=true then(if((ai b1 x3).f0)≥b2 then(some false)else(if x3>0 then(if 0≤(wrap64 (x3-1))then(if(wrap64 (x3-1))<(b1.length:Int)then(if((ai b1 (wrap64 (x3-1))).f0)≥((ai b1 x3).f0)then(some false)else(ca.l0 k (wrap64 (x3+1)) b1 b2))else(none))else(none))else(ca.l0 k (wrap64 (x3+1)) b1 b2)))else(some false)))else(none))else(if 0<(b1.length:Int)then(if((ai b1 0).f0)=1 then(some (((ai b1 0).f1)==2))else(some false))else(none))
end
def ca.f (k:Nat) (ah:List (aW)) (al:Int):Option (Bool):=(bg.f (ah.length:Int) 1 30).bind fun b1=>(if b1=true then((bg.f al 2 1000).bind fun b2=>(ca.j0 k (!b2) ah al))else(ca.j0 k true ah al))
def ca.T7:Bool×List (List Nat×List Nat):=(true,[([],[]),([0],[0]),([1],[1]),([2,1],[2]),([3],[3]),([4,3],[3,4]),([3],[3]),([6,3],[3,6]),([5,7,3],[3,5,7]),([3,8],[3,8]),([9,3],[9]),([10],[10]),([11,10],[10,11]),([12,10,10],[10,12]),([13],[13]),([14,13],[13,14]),([13],[13]),([16,13],[13,16]),([15,17,13],[13,15,17]),([18,13],[13,18]),([19,13],[13,19]),([13],[13]),([21,13],[13,21]),([20,22,13],[13,20,22]),([13,23,10],[10,13,23]),([10,24],[10,24])])
def ca.B7:List Nat:=[0,1,3,7,15,31,15,79,255,511,1023,2047,4095,8191,16383,32767,16383,81919,262143,524287,1048575,16383,2113535,8388607,16777215,33554431]
theorem ca.sf:fK .any (opsOf Tryz.f33 7)=ca.T7:=by kernel_rfl
theorem ca.pd:ep ca.T7.2 ca.B7=true:=by kernel_rfl
set_option maxHeartbeats 8000000 in
set_option maxRecDepth 100000 in
theorem ca.calls (k:Nat) (bs:Option Addr) (bo:Nat) (ah:List (aW)) (al:Int) (r:Bool) (w:World) (cy:Kd.C k32 w bs ah.length ah) (cA:ah.length≤bo) (h:ca.f k ah al=some r):
  Calls Tryz.prog 33 #[.agg #[.slice bs ah.length bo,.int .i64 al]] w fun e w'=>e= .returned (.bool r)∧Below w.heap.size w w':=by
 have mK:=underlying26;have mL:=underlying32;have dC:=ae.mk cy;have m9:=ae.mk cA;clear cy cA;have HB:=am (Below.refl w.heap.size w);unfold ca.f at h;have H:=h;clear h;have gN:=ae.mk H;clear H
 go_enter func33,ntmps33
 go_upto_region 1 with(first|((with_reducible refine au (N:=1) rfl ?_);refine fz 1 #[.slice bs ah.length bo,.int .i64 al] 26 ?_;intro bN hg w3 hbox hb;have b3:=am (hbox);have mA:=fO hg;replace HB:=hB HB hb;clear hb hbox hg))
 (try simp only[Act.put,List.setIfInBounds_toArray,List.set_cons_zero,List.set_cons_succ])
 go_cut [15] (fun m1 wc=>∃(kq:Nat) (dR:Bool),m1= .bool dR∧ae (ca.j0 kq dR ah al=some r)∧ae (kq≤k)∧ae (wc.heap[bN]? =some (.cells #[(.slice bs ah.length bo),.int .i64 al] 26 (0,0)))∧ae (Below w.heap.size w wc))
 case first=>
  have H:=gN.out;clear gN;replace H:=bA H;obtain⟨mM,A4,H⟩:=H
  try dsimp only at H
  replace H:=jl H;rcases H with⟨rfl,H⟩|⟨rfl,H⟩;rotate_left
  ·have H':=ae.mk H;clear H;obtain⟨⟨_,_⟩,_,_⟩:=z2 b3
   go_wp2_with (first|((with_reducible refine ag (f:=73) rfl ?_);refine dk 8 func73 (bg.calls (ah.length:Int) 1 30 false _ A4.out) ?_;rintro e w' ⟨rfl,⟨nd,rfl⟩⟩;refine⟨_,rfl,?_⟩))
   go_meet
   case rel=>exact⟨_,(true),oS,H',⟨by first|omega|exact Nat.le_refl _⟩,⟨oF b3⟩,⟨oB⟩⟩
  replace H:=bA H;obtain⟨gO,A6,H⟩:=H
  try dsimp only at H
  have H':=ae.mk H;clear H;obtain⟨⟨_,_⟩,_,_⟩:=z2 b3
  go_wp2_with (first|((with_reducible refine ag (f:=73) rfl ?_);refine dk 8 func73 (bg.calls (ah.length:Int) 1 30 true _ A4.out) ?_;rintro e w' ⟨rfl,⟨nd,rfl⟩⟩;refine⟨_,rfl,?_⟩)|(go_at_call 73;(with_reducible refine(bg.calls al 2 1000 gO _ A6.out).mono ?_);rintro e w' ⟨rfl,⟨nd,rfl⟩⟩))
  go_meet
  case rel=>exact⟨_,(!gO),oS,H',⟨by first|omega|exact Nat.le_refl _⟩,⟨oF b3⟩,⟨oB⟩⟩
 case rest=>
  clear gN;obtain⟨kq,dR,rfl,HA,dZ,b3,HB⟩:=hcut
  cases kq with
  |zero=>exact absurd HA.out (by simp[ca.j0])
  |succ kj1=>
   have H:=HA.out;clear HA;simp only[ca.j0]at H;replace H:=jl H;rcases H with⟨rfl,H⟩|⟨rfl,H⟩
   ·obtain rfl:=Option.some.inj H
    go_wp2
    go_ret
    exact⟨oE,oB⟩
   have H':=ae.mk H;clear H
   go_wp2
   go_loopg [3] kj1 (fun kq v3 w'=>∃(b1:Int),v3= .int .i64 b1∧ae (ca.l0 kq b1 ah al=some r)∧ae (kq≤kj1)∧ae (w'.heap[bN]? =some (.cells #[(.slice bs ah.length bo),.int .i64 al] 26 (0,0)))∧ae (Below w.heap.size w w'))
   case atStart=>exact⟨(0),oS,H',⟨Nat.le_refl _⟩,⟨oF b3⟩,⟨oB⟩⟩
   case round=>
    clear H';obtain⟨b1,rfl,HA,gA,b3,HB⟩:=hrel
    cases gk with
    |zero=>exact absurd HA.out (by simp[ca.l0])
    |succ k2=>
     have H:=HA.out;clear HA;simp only[ca.l0]at H;replace H:=kU H;rcases H with⟨j4,H⟩|⟨j4,H⟩;rotate_left
     ·by_cases gB:0<(ah.length:Int)
      rotate_left
      ·rw[if_neg gB]at H;exact absurd H (by simp)
      rw[if_pos gB]at H;have mB:decide (0<(ah.length:Int))=true:=decide_eq_true gB;have mC:decide (0<ah.length)=true:=decide_eq_true (by omega);clear gB
      by_cases dE:((ai ah 0).f0)=1
      rotate_left
      ·rw[if_neg dE]at H;have j5:(((ai ah 0).f0)==1)=false:=beq_eq_false_iff_ne.mpr dE;have j6:(((ai ah 0).f0) !=1)=true:=bne_iff_ne.mpr dE;obtain rfl:=Option.some.inj H;obtain⟨⟨_,_⟩,_,_⟩:=z2 b3;have dA:0≤(0:Int):=(by omega);have dB:0<(ah.length:Int):=oa;obtain⟨gC,gP,gQ,gR,gS,gT,gU,dW,b9,bB,bC,b6,b7,b8,bO,bP,bQ,bR,bS,bT⟩:=kX dC.out 0 dA dB
       cases dW
       have j7:(0<ah.length)=True:=eq_true (by omega)
       (try rw[show((0:Int)).toNat=0 from rfl]at b9)
       (try rw[show 0*6=0 from rfl]at b9)
       (try rw[Addr.add_zero']at b9)
       (try rw[show((0:Int)).toNat=0 from rfl]at bB)
       (try rw[show 0*6=0 from rfl]at bB)
       (try rw[Addr.add_zero']at bB)
       (try rw[show((0:Int)).toNat=0 from rfl]at bC)
       (try rw[show 0*6=0 from rfl]at bC)
       (try rw[Addr.add_zero']at bC)
       (try rw[show((0:Int)).toNat=0 from rfl]at b6)
       (try rw[show 0*6=0 from rfl]at b6)
       (try rw[Addr.add_zero']at b6)
       (try rw[show((0:Int)).toNat=0 from rfl]at b7)
       (try rw[show 0*6=0 from rfl]at b7)
       (try rw[Addr.add_zero']at b7)
       (try rw[show((0:Int)).toNat=0 from rfl]at b8)
       (try rw[show 0*6=0 from rfl]at b8)
       (try rw[Addr.add_zero']at b8)
       replace b9:=cB HB b9;replace bB:=cB HB bB;replace bC:=cB HB bC;replace b6:=cB HB b6;replace b7:=cB HB b7;replace b8:=cB HB b8;have gE:=ae.mk bP;have gF:=ae.mk bO;clear bP bO;have gG:=ae.mk bR;have gH:=ae.mk bQ;clear bR bQ;have gI:=ae.mk bT;have gJ:=ae.mk bS;clear bT bS;replace dA:=eq_true dA;replace dB:=eq_true dB
       go_wp2
       go_ret
       exact⟨oE,oB⟩
      rw[if_pos dE]at H;have j5:(((ai ah 0).f0)==1)=true:=beq_iff_eq.mpr dE;have j6:(((ai ah 0).f0) !=1)=false:=bne_eq_false_iff_eq.mpr dE;clear dE;obtain rfl:=Option.some.inj H;obtain⟨⟨_,_⟩,_,_⟩:=z2 b3;have dA:0≤(0:Int):=(by omega);have dB:0<(ah.length:Int):=oa;obtain⟨gC,gP,gQ,gR,gS,gT,gU,dW,b9,bB,bC,b6,b7,b8,bO,bP,bQ,bR,bS,bT⟩:=kX dC.out 0 dA dB
      cases dW
      have j7:(0<ah.length)=True:=eq_true (by omega)
      (try rw[show((0:Int)).toNat=0 from rfl]at b9)
      (try rw[show 0*6=0 from rfl]at b9)
      (try rw[Addr.add_zero']at b9)
      (try rw[show((0:Int)).toNat=0 from rfl]at bB)
      (try rw[show 0*6=0 from rfl]at bB)
      (try rw[Addr.add_zero']at bB)
      (try rw[show((0:Int)).toNat=0 from rfl]at bC)
      (try rw[show 0*6=0 from rfl]at bC)
      (try rw[Addr.add_zero']at bC)
      (try rw[show((0:Int)).toNat=0 from rfl]at b6)
      (try rw[show 0*6=0 from rfl]at b6)
      (try rw[Addr.add_zero']at b6)
      (try rw[show((0:Int)).toNat=0 from rfl]at b7)
      (try rw[show 0*6=0 from rfl]at b7)
      (try rw[Addr.add_zero']at b7)
      (try rw[show((0:Int)).toNat=0 from rfl]at b8)
      (try rw[show 0*6=0 from rfl]at b8)
      (try rw[Addr.add_zero']at b8)
      replace b9:=cB HB b9;replace bB:=cB HB bB;replace bC:=cB HB bC;replace b6:=cB HB b6;replace b7:=cB HB b7;replace b8:=cB HB b8;have gE:=ae.mk bP;have gF:=ae.mk bO;clear bP bO;have gG:=ae.mk bR;have gH:=ae.mk bQ;clear bR bQ;have gI:=ae.mk bT;have gJ:=ae.mk bS;clear bT bS;replace dA:=eq_true dA;replace dB:=eq_true dB;have dX:0≤(0:Int):=(by omega);have dY:0<(ah.length:Int):=oa;obtain⟨j8,m2,m3,m4,m5,m6,m7,jC,bU,bV,bW,bK,bL,bM,dF,dG,dH,dI,dJ,dK⟩:=kX dC.out 0 dX dY;obtain rfl:gC=j8:=(by injection jC);have mD:(0<ah.length)=True:=eq_true (by omega)
      (try rw[show((0:Int)).toNat=0 from rfl]at bU)
      (try rw[show 0*6=0 from rfl]at bU)
      (try rw[Addr.add_zero']at bU)
      (try rw[show((0:Int)).toNat=0 from rfl]at bV)
      (try rw[show 0*6=0 from rfl]at bV)
      (try rw[Addr.add_zero']at bV)
      (try rw[show((0:Int)).toNat=0 from rfl]at bW)
      (try rw[show 0*6=0 from rfl]at bW)
      (try rw[Addr.add_zero']at bW)
      (try rw[show((0:Int)).toNat=0 from rfl]at bK)
      (try rw[show 0*6=0 from rfl]at bK)
      (try rw[Addr.add_zero']at bK)
      (try rw[show((0:Int)).toNat=0 from rfl]at bL)
      (try rw[show 0*6=0 from rfl]at bL)
      (try rw[Addr.add_zero']at bL)
      (try rw[show((0:Int)).toNat=0 from rfl]at bM)
      (try rw[show 0*6=0 from rfl]at bM)
      (try rw[Addr.add_zero']at bM)
      replace bU:=cB HB bU;replace bV:=cB HB bV;replace bW:=cB HB bW;replace bK:=cB HB bK;replace bL:=cB HB bL;replace bM:=cB HB bM;have jF:=ae.mk dG;have jG:=ae.mk dF;clear dG dF;have jH:=ae.mk dI;have jI:=ae.mk dH;clear dI dH;have jJ:=ae.mk dK;have jK:=ae.mk dJ;clear dK dJ;replace dX:=eq_true dX;replace dY:=eq_true dY;have kL:=Option.some.inj (b6.symm.trans bK);injection kL with kL ry rz;subst kL;subst rz;clear ry;have kL:=Option.some.inj (b7.symm.trans bL);injection kL with kL ry rz;subst kL;subst rz;clear ry;have kL:=Option.some.inj (b8.symm.trans bM);injection kL with kL ry rz;subst kL;subst rz;clear ry
      go_wp2
      go_ret
      exact⟨oE,oB⟩
     obtain⟨mE,H⟩:=dw H;have gV:=ae.mk H;clear H;obtain⟨⟨_,_⟩,_,_⟩:=z2 b3;have mN:(0≤(b1:Int))=True:=oT;have mO:(b1<(ah.length:Int))=True:=oT;obtain⟨bD,bE,bF,bG,bH,bI,bJ,jD,jL,jM,jN,jO,jP,jQ,bX,bY,bZ,d1,d2,d3⟩:=kd dC HB b1 oa oa
     cases jD
     go_upto_region 7 with(first|((with_reducible refine au (N:=4) rfl ?_);refine fz 4 #[.int .i64 0,.int .i64 0,.int .i64 0,.slice none 0 0,.slice none 0 0,.slice none 0 0] 32 ?_;intro b2 hg gD hbox hb;have b4:=am (hbox);have mF:=fO hg;have dT:=fX hg b3;have dU:=fY hg b3;replace b3:=ba b3 hb;replace HB:=hB HB hb;clear hb hbox hg;have mG:=dU.out;have mH:=dT.out;obtain⟨⟨_,_,_,_,_,_⟩,_,_,_,_,_,_⟩:=z6 b4))
     have H:=gV.out;clear gV;replace H:=bA H;obtain⟨mP,dV,H⟩:=H
     try dsimp only at H
     replace H:=jl H;rcases H with⟨rfl,H⟩|⟨rfl,H⟩;rotate_left
     ·obtain rfl:=Option.some.inj H
      try go_wp2
      generalize qW:((((((gD.setCell ⟨b2,0,none⟩ (.int .i64 ((ai ah b1).f0))).setCell ⟨b2,1,none⟩ (.int .i64 ((ai ah b1).f1))).setCell ⟨b2,2,none⟩ (.int .i64 ((ai ah b1).f2))).setCell ⟨b2,3,none⟩ (.slice bE ((ai ah b1).f3).length bF)).setCell ⟨b2,4,none⟩ (.slice bG ((ai ah b1).f4).length bH)).setCell ⟨b2,5,none⟩ (.slice bI ((ai ah b1).f5).length bJ))=w35;replace b3:=kw_ qW b3;replace b4:=kv_ #[.int .i64 ((ai ah b1).f0),.int .i64 ((ai ah b1).f1),.int .i64 ((ai ah b1).f2),.slice bE ((ai ah b1).f3).length bF,.slice bG ((ai ah b1).f4).length bH,.slice bI ((ai ah b1).f5).length bJ] qW b4;replace HB:=hw_ qW HB;clear qW;replace b3:=am (ar b3.out);replace b4:=am (ar b4.out);replace HB:=am (bl HB.out);refine qS 26 (fun w'=>w'.cell? ⟨b2,0,none⟩=some (.int .i64 ((ai ah b1).f0))∧w'.cell? ⟨b2,1,none⟩=some (.int .i64 ((ai ah b1).f1))∧w'.cell? ⟨b2,2,none⟩=some (.int .i64 ((ai ah b1).f2))∧w'.cell? ⟨b2,3,none⟩=some (.slice bE ((ai ah b1).f3).length bF)∧w'.cell? ⟨b2,4,none⟩=some (.slice bG ((ai ah b1).f4).length bH)∧w'.cell? ⟨b2,5,none⟩=some (.slice bI ((ai ah b1).f5).length bJ)) ca.sf ca.pd oH (fun hHeld aV fA=> ?_);generalize w35.drew=mT at b3 b4 HB hHeld⊢;refine iA 0 28 aV fA hHeld ?_;refine jg 1 29 aV (fun K hK=> ?_);refine mo 29 func74 (cW.calls k2 ((ai ah b1).f0) ((ai ah b1).f1) ((ai ah b1).f2) _ _ ((ai ah b1).f3) _ _ ((ai ah b1).f4) _ _ ((ai ah b1).f5) false _ (kC bY) bX.out (kC d1) bZ.out (kC d3) d2.out dV.out) ?_;rintro e mU ⟨rfl,hb⟩;refine⟨_,rfl,?_⟩;replace b3:=ba b3 hb;replace b4:=ba b4 hb;replace HB:=hB HB hb;refine aZ hK 29 oH (fun hHeld=> ?_);clear hK K;refine cG 2 30 aV ?_;refine cG 3 31 aV ?_;refine iM 4 32 aV ?_;refine iM 5 33 aV ?_;refine iM 6 34 aV ?_;refine iM 7 35 aV ?_;refine iM 8 36 aV ?_;refine cG 9 37 aV ?_;refine cG 10 38 aV ?_;refine iM 11 39 aV ?_;refine iM 12 40 aV ?_;refine iM 13 41 aV ?_;refine iM 14 42 aV ?_;refine iM 15 43 aV ?_;refine iM 16 44 aV ?_;refine iM 17 45 aV ?_;refine iM 18 46 aV ?_;refine iM 19 47 aV ?_;refine iM 20 48 aV ?_;refine iM 21 49 aV ?_;refine iM 22 50 aV ?_;refine iM 23 51 aV ?_;refine iM 24 52 aV ?_;refine cG 25 53 aV ?_;refine nF aV ?_
      try go_wp2
      go_ret
      exact⟨oE,oB⟩
     replace H:=itH H;rcases H with⟨j9,H⟩|⟨j9,H⟩
     ·obtain rfl:=Option.some.inj H
      try go_wp2
      generalize qW:((((((gD.setCell ⟨b2,0,none⟩ (.int .i64 ((ai ah b1).f0))).setCell ⟨b2,1,none⟩ (.int .i64 ((ai ah b1).f1))).setCell ⟨b2,2,none⟩ (.int .i64 ((ai ah b1).f2))).setCell ⟨b2,3,none⟩ (.slice bE ((ai ah b1).f3).length bF)).setCell ⟨b2,4,none⟩ (.slice bG ((ai ah b1).f4).length bH)).setCell ⟨b2,5,none⟩ (.slice bI ((ai ah b1).f5).length bJ))=w20;replace b3:=kw_ qW b3;replace b4:=kv_ #[.int .i64 ((ai ah b1).f0),.int .i64 ((ai ah b1).f1),.int .i64 ((ai ah b1).f2),.slice bE ((ai ah b1).f3).length bF,.slice bG ((ai ah b1).f4).length bH,.slice bI ((ai ah b1).f5).length bJ] qW b4;replace HB:=hw_ qW HB;clear qW;replace b3:=am (ar b3.out);replace b4:=am (ar b4.out);replace HB:=am (bl HB.out);refine qS 26 (fun w'=>w'.cell? ⟨b2,0,none⟩=some (.int .i64 ((ai ah b1).f0))∧w'.cell? ⟨b2,1,none⟩=some (.int .i64 ((ai ah b1).f1))∧w'.cell? ⟨b2,2,none⟩=some (.int .i64 ((ai ah b1).f2))∧w'.cell? ⟨b2,3,none⟩=some (.slice bE ((ai ah b1).f3).length bF)∧w'.cell? ⟨b2,4,none⟩=some (.slice bG ((ai ah b1).f4).length bH)∧w'.cell? ⟨b2,5,none⟩=some (.slice bI ((ai ah b1).f5).length bJ)∧w'.cell? ⟨bN,0,none⟩=some (.slice (some bD) ah.length bo)∧w'.cell? ⟨bN,1,none⟩=some (.int .i64 al)) ca.sf ca.pd oH (fun hHeld aV fA=> ?_);generalize w20.drew=mV at b3 b4 HB hHeld⊢;refine iA 0 28 aV fA hHeld ?_;refine jg 1 29 aV (fun K hK=> ?_);refine mo 29 func74 (cW.calls k2 ((ai ah b1).f0) ((ai ah b1).f1) ((ai ah b1).f2) _ _ ((ai ah b1).f3) _ _ ((ai ah b1).f4) _ _ ((ai ah b1).f5) true _ (kC bY) bX.out (kC d1) bZ.out (kC d3) d2.out dV.out) ?_;rintro e mW ⟨rfl,hb⟩;refine⟨_,rfl,?_⟩;replace b3:=ba b3 hb;replace b4:=ba b4 hb;replace HB:=hB HB hb;refine aZ hK 29 oH (fun hHeld=> ?_);clear hK K;refine cG 2 30 aV ?_;refine cG 3 31 aV ?_;refine cG 4 32 aV ?_;refine cG 6 34 aV ?_;refine iA 5 33 aV fA hHeld ?_;refine iA 7 35 aV fA hHeld ?_;refine cG 8 36 aV ?_;refine cG 9 37 aV ?_;refine cG 10 38 aV ?_;refine iM 11 39 aV ?_;refine iM 12 40 aV ?_;refine iM 13 41 aV ?_;refine iM 14 42 aV ?_;refine iM 15 43 aV ?_;refine iM 16 44 aV ?_;refine iM 17 45 aV ?_;refine iM 18 46 aV ?_;refine iM 19 47 aV ?_;refine iM 20 48 aV ?_;refine iM 21 49 aV ?_;refine iM 22 50 aV ?_;refine iM 23 51 aV ?_;refine iM 24 52 aV ?_;refine cG 25 53 aV ?_;refine nF aV ?_
      try go_wp2
      go_ret
      exact⟨oE,oB⟩
     replace H:=ym H;rcases H with⟨jA,H⟩|⟨jA,H⟩;rotate_left
     ·have H':=ae.mk H;clear H
      try go_wp2
      generalize qW:((((((gD.setCell ⟨b2,0,none⟩ (.int .i64 ((ai ah b1).f0))).setCell ⟨b2,1,none⟩ (.int .i64 ((ai ah b1).f1))).setCell ⟨b2,2,none⟩ (.int .i64 ((ai ah b1).f2))).setCell ⟨b2,3,none⟩ (.slice bE ((ai ah b1).f3).length bF)).setCell ⟨b2,4,none⟩ (.slice bG ((ai ah b1).f4).length bH)).setCell ⟨b2,5,none⟩ (.slice bI ((ai ah b1).f5).length bJ))=w32;replace b3:=kw_ qW b3;replace b4:=kv_ #[.int .i64 ((ai ah b1).f0),.int .i64 ((ai ah b1).f1),.int .i64 ((ai ah b1).f2),.slice bE ((ai ah b1).f3).length bF,.slice bG ((ai ah b1).f4).length bH,.slice bI ((ai ah b1).f5).length bJ] qW b4;replace HB:=hw_ qW HB;clear qW;replace b3:=am (ar b3.out);replace b4:=am (ar b4.out);replace HB:=am (bl HB.out);refine qS 26 (fun w'=>w'.cell? ⟨b2,0,none⟩=some (.int .i64 ((ai ah b1).f0))∧w'.cell? ⟨b2,1,none⟩=some (.int .i64 ((ai ah b1).f1))∧w'.cell? ⟨b2,2,none⟩=some (.int .i64 ((ai ah b1).f2))∧w'.cell? ⟨b2,3,none⟩=some (.slice bE ((ai ah b1).f3).length bF)∧w'.cell? ⟨b2,4,none⟩=some (.slice bG ((ai ah b1).f4).length bH)∧w'.cell? ⟨b2,5,none⟩=some (.slice bI ((ai ah b1).f5).length bJ)∧w'.cell? ⟨bN,0,none⟩=some (.slice (some bD) ah.length bo)∧w'.cell? ⟨bN,1,none⟩=some (.int .i64 al)) ca.sf ca.pd oH (fun hHeld aV fA=> ?_);generalize w32.drew=mX at b3 b4 HB hHeld⊢;refine iA 0 28 aV fA hHeld ?_;refine jg 1 29 aV (fun K hK=> ?_);refine mo 29 func74 (cW.calls k2 ((ai ah b1).f0) ((ai ah b1).f1) ((ai ah b1).f2) _ _ ((ai ah b1).f3) _ _ ((ai ah b1).f4) _ _ ((ai ah b1).f5) true _ (kC bY) bX.out (kC d1) bZ.out (kC d3) d2.out dV.out) ?_;rintro e mY ⟨rfl,hb⟩;refine⟨_,rfl,?_⟩;replace b3:=ba b3 hb;replace b4:=ba b4 hb;replace HB:=hB HB hb;refine aZ hK 29 oH (fun hHeld=> ?_);clear hK K;refine cG 2 30 aV ?_;refine cG 3 31 aV ?_;refine cG 4 32 aV ?_;refine cG 6 34 aV ?_;refine iA 5 33 aV fA hHeld ?_;refine iA 7 35 aV fA hHeld ?_;refine cG 8 36 aV ?_;refine cG 9 37 aV ?_;refine cG 10 38 aV ?_;refine cG 11 39 aV ?_;refine cG 12 40 aV ?_;refine cG 13 41 aV ?_;refine iM 14 42 aV ?_;refine iM 15 43 aV ?_;refine iM 16 44 aV ?_;refine iM 17 45 aV ?_;refine iM 18 46 aV ?_;refine iM 19 47 aV ?_;refine iM 20 48 aV ?_;refine iM 21 49 aV ?_;refine iM 22 50 aV ?_;refine iM 23 51 aV ?_;refine cG 24 52 aV ?_;refine cG 25 53 aV ?_;refine nF aV ?_
      try go_wp2
      go_roundg k2
      case measure=>have:=dZ.out;have:=gA.out;omega
      case rel=>exact⟨(wrap64 (b1+1)),oS,H',⟨by have:=dZ.out;have:=gA.out;omega⟩,⟨oF b3⟩,⟨oB⟩⟩
     obtain⟨b5,dD⟩:∃j_:Int,(wrap64 (b1-1))=j_:=⟨_,rfl⟩
     replace H:(if 0≤(b5)then(if(b5)<(ah.length:Int)then(if((ai ah (b5)).f0)≥((ai ah b1).f0)then(some false)else(ca.l0 k2 (wrap64 (b1+1)) ah al))else(none))else(none))=some r:=by first|(rw[dD]at H;exact H)|(simp only[dD]at H⊢;exact H)
     (try rw[dD]at dV)
     have m8:(IntKind.i64.wrap (b1-1))=b5:=(kn _).trans dD;obtain⟨mI,H⟩:=dw H;obtain⟨mJ,H⟩:=dw H;have gW:=ae.mk H;clear H
     try go_wp2
     generalize qW:((((((gD.setCell ⟨b2,0,none⟩ (.int .i64 ((ai ah b1).f0))).setCell ⟨b2,1,none⟩ (.int .i64 ((ai ah b1).f1))).setCell ⟨b2,2,none⟩ (.int .i64 ((ai ah b1).f2))).setCell ⟨b2,3,none⟩ (.slice bE ((ai ah b1).f3).length bF)).setCell ⟨b2,4,none⟩ (.slice bG ((ai ah b1).f4).length bH)).setCell ⟨b2,5,none⟩ (.slice bI ((ai ah b1).f5).length bJ))=w28;replace b3:=kw_ qW b3;replace b4:=kv_ #[.int .i64 ((ai ah b1).f0),.int .i64 ((ai ah b1).f1),.int .i64 ((ai ah b1).f2),.slice bE ((ai ah b1).f3).length bF,.slice bG ((ai ah b1).f4).length bH,.slice bI ((ai ah b1).f5).length bJ] qW b4;replace HB:=hw_ qW HB;clear qW;replace b3:=am (ar b3.out);replace b4:=am (ar b4.out);replace HB:=am (bl HB.out);have mQ:(0≤((b5):Int))=True:=oT;have mS:((b5)<(ah.length:Int))=True:=oT;obtain⟨jB,gX,gY,gZ,j1,j2,j3,jE,d4,d5,d6,d7,d8,d9,dL,dM,dN,dO,dP,dQ⟩:=kX dC.out (b5) oa oa;have jR:=d9;have jS:=d8;have jT:=d7;have jU:=d6;have jV:=d5;have jW:=d4;obtain rfl:bD=jB:=(by injection jE);replace d4:=cB HB d4;replace d5:=cB HB d5;replace d6:=cB HB d6;replace d7:=cB HB d7;replace d8:=cB HB d8;replace d9:=cB HB d9;have gK:=ae.mk dM;have jX:=ae.mk dL;clear dM dL;have gL:=ae.mk dO;have jY:=ae.mk dN;clear dO dN;have gM:=ae.mk dQ;have jZ:=ae.mk dP;clear dQ dP;refine qS 26 (fun w'=>w'.cell? ⟨b2,0,none⟩=some (.int .i64 ((ai ah b1).f0))∧w'.cell? ⟨b2,1,none⟩=some (.int .i64 ((ai ah b1).f1))∧w'.cell? ⟨b2,2,none⟩=some (.int .i64 ((ai ah b1).f2))∧w'.cell? ⟨b2,3,none⟩=some (.slice bE ((ai ah b1).f3).length bF)∧w'.cell? ⟨b2,4,none⟩=some (.slice bG ((ai ah b1).f4).length bH)∧w'.cell? ⟨b2,5,none⟩=some (.slice bI ((ai ah b1).f5).length bJ)∧w'.cell? ⟨bN,0,none⟩=some (.slice (some bD) ah.length bo)∧w'.cell? ⟨bN,1,none⟩=some (.int .i64 al)∧w'.cell? (bD.add (((b5)).toNat*6))=some (.int .i64 ((ai ah (b5)).f0))∧w'.cell? ⟨(bD.add (((b5)).toNat*6)).block,(bD.add (((b5)).toNat*6)).off+1,none⟩=some (.int .i64 ((ai ah (b5)).f1))∧w'.cell? ⟨(bD.add (((b5)).toNat*6)).block,(bD.add (((b5)).toNat*6)).off+2,none⟩=some (.int .i64 ((ai ah (b5)).f2))∧w'.cell? ⟨(bD.add (((b5)).toNat*6)).block,(bD.add (((b5)).toNat*6)).off+3,none⟩=some (.slice gX ((ai ah (b5)).f3).length gY)∧w'.cell? ⟨(bD.add (((b5)).toNat*6)).block,(bD.add (((b5)).toNat*6)).off+4,none⟩=some (.slice gZ ((ai ah (b5)).f4).length j1)∧w'.cell? ⟨(bD.add (((b5)).toNat*6)).block,(bD.add (((b5)).toNat*6)).off+5,none⟩=some (.slice j2 ((ai ah (b5)).f5).length j3)) ca.sf ca.pd oH (fun hHeld aV fA=> ?_);generalize w28.drew=mZ at b3 b4 HB gK gL gM d4 d5 d6 d7 d8 d9 hHeld⊢;refine iA 0 28 aV fA hHeld ?_;refine jg 1 29 aV (fun K hK=> ?_);refine mo 29 func74 (cW.calls k2 ((ai ah b1).f0) ((ai ah b1).f1) ((ai ah b1).f2) _ _ ((ai ah b1).f3) _ _ ((ai ah b1).f4) _ _ ((ai ah b1).f5) true _ (kC bY) bX.out (kC d1) bZ.out (kC d3) d2.out dV.out) ?_;rintro e zA ⟨rfl,hb⟩;refine⟨_,rfl,?_⟩;replace b3:=ba b3 hb;replace b4:=ba b4 hb;replace HB:=hB HB hb;refine aZ hK 29 oH (fun hHeld=> ?_);clear hK K;refine cG 2 30 aV ?_;refine cG 3 31 aV ?_;refine cG 4 32 aV ?_;refine cG 6 34 aV ?_;refine iA 5 33 aV fA hHeld ?_;refine iA 7 35 aV fA hHeld ?_;refine cG 8 36 aV ?_;refine cG 9 37 aV ?_;refine cG 10 38 aV ?_;refine cG 11 39 aV ?_;refine cG 12 40 aV ?_;refine cG 13 41 aV ?_;refine cG 14 42 aV ?_;refine cG 16 44 aV ?_;refine cG 17 45 aV ?_;refine cG 21 49 aV ?_;refine iA 15 43 aV fA hHeld ?_;refine cG 18 46 aV ?_;refine cG 19 47 aV ?_;refine iA 20 48 aV fA hHeld ?_;refine iA 22 50 aV fA hHeld ?_;refine cG 23 51 aV ?_;refine cG 24 52 aV ?_;refine cG 25 53 aV ?_;refine nF aV ?_
     go_upto_if 53 with(fail)
     have H:=gW.out;clear gW;replace H:=itH H;rcases H with⟨dS,H⟩|⟨dS,H⟩;rotate_left
     ·(first|rw[dS]|skip)
      have H':=ae.mk H;clear H
      go_wp2
      go_roundg k2
      case measure=>have:=dZ.out;have:=gA.out;omega
      case rel=>exact⟨(wrap64 (b1+1)),oS,H',⟨by have:=dZ.out;have:=gA.out;omega⟩,⟨oF b3⟩,⟨oB⟩⟩
     (first|rw[dS]|skip)
     obtain rfl:=Option.some.inj H
     go_wp2
     go_ret
     exact⟨by first|rfl|(simp[iv,iw]<;>rfl)|(simp only[←dD];first|rfl|(simp[iv,iw]<;>rfl))|(simp[*,iv,iw]<;>rfl),oB⟩
end Go.Proofs.YtkfoopcpihmbmaaGreatDoor.P
